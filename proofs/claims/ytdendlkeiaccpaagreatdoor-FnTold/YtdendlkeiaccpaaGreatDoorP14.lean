/- Part 14 of the proof that each of the laws FnTold returns true for every input. No conditions. -/
import Derived.Test.YtdendlkeiaccpaaGreatDoorP10
import Derived.Test.YtdendlkeiaccpaaGreatDoorP13
import Derived.Test.YtdendlkeiaccpaaGreatDoorP5
import Derived.Test.YtdendlkeiaccpaaGreatDoorP6
import Derived.Test.YtdendlkeiaccpaaGreatDoorP12

set_option linter.unusedSimpArgs false
set_option linter.unusedVariables false
set_option maxRecDepth 100000
namespace Go.Proofs.YtdendlkeiaccpaaGreatDoor
open Go.Sx
def Mo (k v:Int):Prop:=(0≤k∧k≤99)∧(0≤v∧v≤999)
instance (k v:Int):Decidable (Mo k v):=by unfold Mo;infer_instance
def C8 (x:Aq) (k v:Int):Int×Int×Bool:=
 if Jh x∧Mo k v then
  (if x.kind=2 then (k,if v+x.a<999 then v+x.a else 999,true)
  else if x.kind=4 then ((k+x.a).tmod 100,v,true)
  else if x.kind=3 then (k,v,k.tmod x.a==x.b)
  else (k,v,x.kind !=8))
 else (k,v,false)
def Dd (s:Ec):Ec×Bool:=if Jo s=true∧s.turn<6 then (⟨s.epoch,s.turn+1⟩,true) else (s,false)
def Kh (g:Ap) (r:Ae):Prop:=Fj g∧Hs r∧r.op<g.nodes.length
instance (g:Ap) (r:Ae):Decidable (Kh g r):=by unfold Kh;infer_instance
def Mm (g:Ap) (r:Ae):List Ae:=
 if (Al g r.op).kind=7∧(Dd r.stamp).2=false then []
 else (Al g r.op).outs.map fun k=>⟨k,if (Al g r.op).kind=7 then (Dd r.stamp).1 else r.stamp,(C8 (Al g r.op) r.key r.val).1,(C8 (Al g r.op) r.key r.val).2.1⟩
def G4 (r:Ae):Ag:=⟨r.op,r.stamp.epoch,r.key,r.val⟩
def F3 (g:Ap) (cs:List Ag) (r:Ae):List Ag×List Ae×Bool:=
 if Kh g r then
  (if (C8 (Al g r.op) r.key r.val).2.2=false∧(Al g r.op).kind≠8 then (cs,[],true)
  else if (Dv (Al g r.op).kind cs (G4 r)).2=false then ((Dv (Al g r.op).kind cs (G4 r)).1,[],true)
  else ((Dv (Al g r.op).kind cs (G4 r)).1,Mm g r,true))
 else (cs,[],false)
def capped (g:Ap) (r:Ae):Bool:=decide (Kh g r∧(Al g r.op).kind=7∧(Al g r.op).outs.length>0∧(Dd r.stamp).2=false)
def A0o (l:Bv) (r:Ae):Prop:=G1 l∧Hs r∧l.credits≠0∧l.sent≠1000000000
instance (l:Bv) (r:Ae):Decidable (A0o l r):=by unfold A0o;infer_instance
def Co (l:Bv) (r:Ae):Bv×Bool:=if A0o l r then (⟨l.cap,l.queue++[r],l.credits-1,l.back,l.sent+1,l.got⟩,true) else (l,false)
def C1 (l:Bv):Bv×Ae×Bool:=
 if G1 l∧0<l.queue.length then (⟨l.cap,l.queue.drop 1,l.credits,l.back+1,l.sent,l.got+1⟩,l.queue.getD 0 default,true) else (l,default,false)
def D6 (l:Bv):Bv×Bool:=if G1 l∧l.back≠0 then (⟨l.cap,l.queue,l.credits+1,l.back-1,l.sent,l.got⟩,true) else (l,false)
def O9 (g:Ap) (w:A9):Prop:=Fj g∧Cx g.nodes.length w∧w.staged.length=0∧0<w.queue.length
instance (g:Ap) (w:A9):Decidable (O9 g w):=by unfold O9;infer_instance
def Ij (g:Ap) (w:A9):A9:=
 ⟨w.queue.drop 1,(F3 g w.cells (w.queue.getD 0 default)).2.1,w.inputs,(F3 g w.cells (w.queue.getD 0 default)).1,w.sums,w.black,if capped g (w.queue.getD 0 default)=true then w.caps.set (w.queue.getD 0 default).stamp.epoch.toNat true else w.caps,w.dones⟩
def Fk (g:Ap) (w:A9):A9×Bool:=if O9 g w then (Ij g w,true) else (w,false)
def Kv (g:Ap) (w:A9):Prop:=Fj g∧Cx g.nodes.length w∧w.staged.length=0∧w.queue.length=0∧0<w.inputs.length
instance (g:Ap) (w:A9):Decidable (Kv g w):=by unfold Kv;infer_instance
def J3 (w:A9):A9:=⟨w.queue++[w.inputs.getD 0 default],w.staged,w.inputs.drop 1,w.cells,w.sums,w.black,w.caps,w.dones⟩
def Dm (g:Ap) (w:A9):A9×Bool:=if Kv g w then (J3 w,true) else (w,false)
def Ei (w:A9):A9:=⟨w.queue,w.staged.drop 1,w.inputs,w.cells,w.sums,w.black,w.caps,w.dones⟩
def Hp (w:A9):A9×Ae×Bool:=if 0<w.staged.length then (Ei w,w.staged.getD 0 default,true) else (w,default,false)
def kept (w:A9) (r:Ae):A9:=⟨w.queue++[r],w.staged,w.inputs,w.cells,w.sums,w.black,w.caps,w.dones⟩
def Fe (w:A9) (e n:Int):A9:=⟨w.queue,w.staged,w.inputs,w.cells,w.sums.set e.toNat (w.sums.getD e.toNat default+n),w.black,w.caps,w.dones⟩
def I8 (w:A9) (e:Int):A9:=⟨w.queue,w.staged,w.inputs,w.cells,w.sums,w.black.set e.toNat true,w.caps,w.dones⟩
def En (w:A9) (r:Ae):A9:=
 if 0≤r.stamp.epoch∧r.stamp.epoch<w.sums.length∧r.stamp.epoch<w.black.length then I8 (Fe (kept w r) r.stamp.epoch (-1)) r.stamp.epoch else kept w r
def Hm (w:A9) (e:Int):A9:=if 0≤e∧e<w.sums.length then Fe w e 1 else w
def Cd (c:A5) (k:Int) (l:Bv):A5:=⟨c.graph,c.workers,c.links.set k.toNat l,c.tokens,c.news⟩
def Bz (c:A5) (k:Int):Bv:=c.links.getD k.toNat default
def Gz (c:A5) (w:Int):Prop:=B6 c∧0≤w∧w<c.workers.length
instance (c:A5) (w:Int):Decidable (Gz c w):=by unfold Gz;infer_instance
def Eh (c:A5) (w:Int):A5×Bool:=if Gz c w then (Bb c w (Fk c.graph (Ad c w)).1,(Fk c.graph (Ad c w)).2) else (c,false)
def Du (c:A5) (w:Int):A5×Bool:=if Gz c w then (Bb c w (Dm c.graph (Ad c w)).1,(Dm c.graph (Ad c w)).2) else (c,false)
def Be (c:A5) (w:Int):Ae:=(Ad c w).staged.getD 0 default
def Ba (c:A5) (w:Int):Int:=F1 (Be c w).key c.graph.workers
def B0 (c:A5) (f t:Int):Int:=f * c.graph.workers+t
def Cg (c:A5) (w:Int):A5×Bool:=
 if Gz c w∧0<(Ad c w).staged.length then
  (if Ba c w=w then (Bb c w (kept (Ei (Ad c w)) (Be c w)),true)
  else if (Co (Bz c (B0 c w (Ba c w))) (Be c w)).2=true then
   (Bb (Cd c (B0 c w (Ba c w)) (Co (Bz c (B0 c w (Ba c w))) (Be c w)).1) w (Hm (Ei (Ad c w)) (Be c w).stamp.epoch),true)
  else (c,false))
 else (c,false)
def Lj (c:A5) (f t:Int):Prop:=B6 c∧f≠t∧(0≤f∧f<c.graph.workers)∧(0≤t∧t<c.graph.workers)
instance (c:A5) (f t:Int):Decidable (Lj c f t):=by unfold Lj;infer_instance
def Dh (c:A5) (f t:Int):A5×Bool:=
 if Lj c f t∧(C1 (Bz c (B0 c f t))).2.2=true then
  (Bb (Cd c (B0 c f t) (C1 (Bz c (B0 c f t))).1) t (En (Ad c t) (C1 (Bz c (B0 c f t))).2.1),true)
 else (c,false)
def Dr (c:A5) (f t:Int):A5×Bool:=
 if Lj c f t then (Cd c (B0 c f t) (D6 (Bz c (B0 c f t))).1,(D6 (Bz c (B0 c f t))).2) else (c,false)
def Kx (w:Int) (x:Fy):Bool:=x.to_==w
def Ph (c:A5) (w:Int):Nat:=Ga (Kx w) c.news
def Ks (c:A5) (w:Int):A5:=⟨c.graph,c.workers,c.links,c.tokens,c.news.eraseIdx (Ph c w)⟩
def Gt (c:A5) (w:Int):Fy:=c.news.getD (Ph c w) default
def E8 (c:A5) (w:Int):A5×Bool:=
 if B6 c∧c.news.any (Kx w)=true then
  (if Gf (Ad c w) (Gt c w).epoch=true then Ks c w else Bb (Ks c w) w (H2 (Ad c w) ⟨(Gt c w).epoch,(Gt c w).capped⟩),true)
 else (c,false)
def Ar (c:A5) (p:Cz):A5×Bool:=
 if p.kind=1 then Eh c p.a else if p.kind=2 then Du c p.a else if p.kind=3 then Cg c p.a else if p.kind=4 then Dh c p.a p.b
 else if p.kind=5 then Dr c p.a p.b else if p.kind=6 then Cu c p.a else if p.kind=7 then E8 c p.a else (c,false)
def Fw (s:A5×List Bool) (p:Cz):A5×List Bool:=((Ar s.1 p).1,s.2++[(Ar s.1 p).2])
def Bi (c:A5) (l:List Cz):A5×List Bool:=l.foldl Fw (c,[])
def Hl (c:A5):Nat:=(Em c.graph.workers 0 4).toNat
def Ck (c:A5):A5×Nat:=((Bi c (Rd (Hl c))).1,((Bi c (Rd (Hl c))).2.filter id).length)
def Dt:Nat→A5→A5×Nat
 | 0,c=>(c,0)
 |n+1,c=>if (Ck c).2=0 then ((Ck c).1,1) else ((Dt n (Ck c).1).1,(Dt n (Ck c).1).2+1)
def W3 (g:Ap) (l:List Ae):Prop:=Fj g∧l.length≤20∧∀r∈l,Hs r∧r.op=0∧r.stamp.turn=0
instance (g:Ap) (l:List Ae):Decidable (W3 g l):=by unfold W3;infer_instance
def A32 (n:Int) (l:List Ae) (w:Nat):List Ae:=(List.range 4).flatMap fun (e:Nat)=>(H9 l e).filter fun r=>F1 r.key n==w
def Gw (n:Int):Bv:=⟨Em n 1 4,[],Em n 1 4,0,0,0⟩
def Eg (n:Int) (l:List Ae) (k:Nat):List A9:=(List.range k).map fun w=>⟨[],[],A32 n l w,[],List.replicate 4 0,List.replicate 4 false,List.replicate 4 false,[]⟩
def Nz:A5:=⟨⟨[],0,0⟩,[],[],[],[]⟩
def Cc (g:Ap) (l:List Ae):A5×Bool:=
 if W3 g l then (⟨g,Eg g.workers l g.workers.toNat,List.replicate (g.workers.toNat * g.workers.toNat) (Gw g.cap),List.replicate 4 default,[]⟩,true) else (Nz,false)
theorem Zg {s:Ec}(h:Jo s=false):Dd s=(s,false):=by
 unfold Dd
 rw [if_neg (fun p=>by rw [p.1] at h;cases h)]
theorem Zh {s:Ec}(h:¬ s.turn<6):Dd s=(s,false):=by
 unfold Dd
 rw [if_neg (fun p=>h p.2)]
theorem Zi {s:Ec}(h1:Jo s=true)(h2:s.turn<6):Dd s=(⟨s.epoch,s.turn+1⟩,true):=by
 unfold Dd
 rw [if_pos ⟨h1,h2⟩]
theorem B1x {s:Ec}(h:Jo s=true):(0≤s.epoch∧s.epoch≤3)∧0≤s.turn∧s.turn≤6:=of_decide_eq_true h
theorem R0 (s:Ec):Bo Tryz.prog 184 [.agg s.c] [.agg (Dd s).1.c,.one (vb (Dd s).2)]:=by
 refine Bh A0 false Tryz.func184 rfl Aw fun W=>?_
 conv=>whnf
 refine B5 (Sz s) rfl (A8 ?_)
 refine ⟨fun h1=>?_,fun h1=>?_⟩<;>conv=>whnf
 ·have h1:Jo s=false:=by simpa using h1
  repeat refine Bj ?_
  rw [Zg h1]
  refine B3 A0 rfl rfl ?_
  exact Ay
 have h1:Jo s=true:=by simpa using h1
 have hb:=B1x h1
 repeat refine Bj ?_
 refine ⟨fun h2=>?_,fun h2=>?_⟩<;>conv=>whnf
 ·have h2:s.turn≥6:=of_decide_eq_true h2
  repeat refine Bj ?_
  rw [Zh Ab]
  refine B3 A0 rfl rfl ?_
  exact Ay
 have h2:¬ s.turn≥6:=of_decide_eq_false h2
 repeat refine Bj ?_
 (repeat refine An ?_)
 rw [Zi h1 Ab]
 refine B3 A0 rfl rfl ?_
 exact Ay
theorem B1t (a b:Int):Bo Tryz.prog 207 [.one (vi a),.one (vi b)] [.one (vi (if b<a then b else a))]:=by
 refine Bh A0 false Tryz.func207 rfl Aw fun W=>?_
 conv=>whnf
 refine Fi (fun h=>?_) fun h=>?_<;>conv=>whnf
 ·rw [if_pos h]
  refine B3 A0 rfl rfl ?_
  exact Ay
 rw [if_neg h]
 refine B3 A0 rfl rfl ?_
 exact Ay
theorem Oo (k:Int):Bo Tryz.prog 182 [.one (vi k)] [.one (vb (decide (k=5∨k=6∨k=8)))]:=by
 refine Bh A0 false Tryz.func182 rfl Aw fun W=>?_
 conv=>whnf
 refine ⟨fun h5=>have h5:=eq_of_beq h5;?_,fun h5=>have h5:=beq_eq_false_iff_ne.1 h5;?_⟩<;>conv=>whnf
 ·repeat refine Bj ?_
  exact B3 A0 rfl rfl ⟨congrArg vb (by simp [h5]),trivial⟩
 repeat refine Bj ?_
 refine ⟨fun h6=>have h6:=eq_of_beq h6;?_,fun h6=>have h6:=beq_eq_false_iff_ne.1 h6;?_⟩<;>conv=>whnf
 ·repeat refine Bj ?_
  exact B3 A0 rfl rfl ⟨congrArg vb (by simp [h6]),trivial⟩
 repeat refine Bj ?_
 exact B3 A0 rfl rfl ⟨congrArg vb (by simp [h5,h6];rfl),trivial⟩
theorem P5 {x:Aq}{k v:Int}(h:¬ (Jh x∧Mo k v)):C8 x k v=(k,v,false):=if_neg h
theorem A6s {x:Aq}{k v:Int}(h:Jh x∧Mo k v)(h2:x.kind=2):C8 x k v=(k,if 999<v+x.a then 999 else v+x.a,true):=by
 rw [C8,if_pos h,if_pos h2]
 congr 2
 by_cases h3:999<v+x.a
 ·rw [if_pos h3,if_neg Ab]
 rw [if_neg h3]
 split<;>omega
theorem A6u {x:Aq}{k v:Int}(h:Jh x∧Mo k v)(h2:x.kind=4):C8 x k v=((k+x.a).tmod 100,v,true):=by
 rw [C8,if_pos h,if_neg Ab,if_pos h2]
theorem A6t {x:Aq}{k v:Int}(h:Jh x∧Mo k v)(h2:x.kind=3):C8 x k v=(k,v,k.tmod x.a==x.b):=by
 rw [C8,if_pos h,if_neg Ab,if_neg Ab,if_pos h2]
theorem A6v {x:Aq}{k v:Int}(h:Jh x∧Mo k v)(h2:x.kind≠2)(h4:x.kind≠4)(h3:x.kind≠3):C8 x k v=(k,v,x.kind !=8):=by
 rw [C8,if_pos h,if_neg h2,if_neg h4,if_neg h3]
theorem A2m (x:Aq)(k v:Int)(hx:x.w≤16777216):Bo Tryz.prog 181 [.agg x.c,.one (vi k),.one (vi v)] [.one (vi (C8 x k v).1),.one (vi (C8 x k v).2.1),.one (vb (C8 x k v).2.2)]:=by
 refine Bh A0 false Tryz.func181 rfl Aw fun W=>?_
 conv=>whnf
 refine B5 (Vp x hx) rfl (A8 ?_)
 refine ⟨fun h1=>?_,fun h1=>?_⟩<;>conv=>whnf
 ·have h1:Rs x=false:=by simpa using h1
  repeat refine Bj ?_
  rw [P5 (fun p=>absurd p.1 (of_decide_eq_false h1))]
  refine B3 A0 rfl rfl ?_
  exact Ay
 have h1:Rs x=true:=by simpa using h1
 repeat refine Bj ?_
 refine B5 (Fh k 0 99) rfl (A8 ?_)
 repeat refine Bj ?_
 refine ⟨fun h2=>?_,fun h2=>?_⟩<;>conv=>whnf
 ·have h2:Do k 0 99=false:=by simpa using h2
  repeat refine Bj ?_
  rw [P5 (fun p=>Go.Sx.Bn.1 h2 p.2.1)]
  refine B3 A0 rfl rfl ?_
  exact Ay
 have h2:Do k 0 99=true:=by simpa using h2
 repeat refine Bj ?_
 refine B5 (Fh v 0 999) rfl (A8 ?_)
 repeat refine Bj ?_
 refine ⟨fun h3=>?_,fun h3=>?_⟩<;>conv=>whnf
 ·have h3:Do v 0 999=false:=by simpa using h3
  repeat refine Bj ?_
  rw [P5 (fun p=>Go.Sx.Bn.1 h3 p.2.2)]
  refine B3 A0 rfl rfl ?_
  exact Ay
 have h3:Do v 0 999=true:=by simpa using h3
 have hI:Mo k v:=⟨Go.Sx.As.1 h2,Go.Sx.As.1 h3⟩
 have hN:Jh x:=of_decide_eq_true h1
 have hk:=hI.1
 have hv:=hI.2
 repeat refine Bj ?_
 refine ⟨fun k2=>have k2:=eq_of_beq k2;?_,fun k2=>have k2:=beq_eq_false_iff_ne.1 k2;?_⟩<;>conv=>whnf
 ·have ha:=hN.2.1 k2
  repeat refine Bj ?_
  (repeat refine An ?_)
  refine B5 (B1t (v+x.a) 999) rfl (A8 ?_)
  rw [A6s ⟨hN,hI⟩ k2]
  refine B3 A0 rfl rfl ?_
  exact Ay
 repeat refine Bj ?_
 refine ⟨fun k4=>have k4:=eq_of_beq k4;?_,fun k4=>have k4:=beq_eq_false_iff_ne.1 k4;?_⟩<;>conv=>whnf
 ·have ha:=hN.2.2.2.1 k4
  repeat refine Bj ?_
  (repeat refine An ?_)
  rw [A6u ⟨hN,hI⟩ k4]
  refine B3 A0 rfl rfl ?_
  exact Ay
 repeat refine Bj ?_
 refine ⟨fun k3=>have k3:=eq_of_beq k3;?_,fun k3=>have k3:=beq_eq_false_iff_ne.1 k3;?_⟩<;>conv=>whnf
 ·have ha:=hN.2.2.1 k3
  repeat refine Bj ?_
  first|(refine B7 9 rfl [0,1,2,3,4,5,6,7,8,9,10,11] A7 (A8 ?_))|(refine B7 10 rfl [0,1,2,3,4,5,6,7] A7 (A8 ?_))
  (repeat refine An ?_)
  rw [A6t ⟨hN,hI⟩ k3]
  refine B3 A0 rfl rfl ?_
  exact Ay
 repeat refine Bj ?_
 first|(refine B7 9 rfl [0,1,2,3,4,5,6,7,8,9,10,11] A7 (A8 ?_))|(refine B7 10 rfl [0,1,2,3,4,5,6,7] A7 (A8 ?_))
 rw [A6v ⟨hN,hI⟩ k2 k4 k3]
 refine B3 A0 rfl rfl ?_
 exact Ay
theorem I2 {α:Type} [Inhabited α] {l:List α}{k:Nat}(hk:k<l.length):l.take (k+1)=l.take k++[l.getD k default]:=by
 rw [List.take_succ_eq_append_getElem hk]
 simp [List.getD,hk]
theorem Ul {l:List Ag}{k:Nat}(hk:k<l.length)(op e key:Int):Jk (l.take (k+1)) op e key=Zb op e key (Jk (l.take k) op e key) (l.getD k default):=by
 unfold Jk
 rw [I2 hk,List.foldl_append]
 rfl
set_option maxHeartbeats 1000000 in
theorem Su (l:List Ag)(op e key:Int)(hl:l.length≤16000000):Bo Tryz.prog 208 [.one (Ak l),.one (vi op),.one (vi e),.one (vi key)] [.one (vi (Jk l op e key).1),.one (vb (Jk l op e key).2)]:=by
 refine Bh A0 false Tryz.func208 rfl Aw fun W=>?_
 conv=>whnf
 refine C0 A0 false [] (fun k:Nat=>[(12,.c (vi k)),(10,.c (vi (Jk (l.take k) op e key).1)),(11,.c (vb (Jk (l.take k) op e key).2))]) (fun k=>[]) (fun k=>[])
  (fun k=>k≤l.length) (fun k=>l.length-k) 0 (Nat.zero_le _) ⟨G9,G9,G9,trivial⟩ trivial trivial Cr A7 (fun k hk=>?_)
 conv=>whnf
 refine Fi (fun h0=>?_) fun h0=>?_<;>conv=>whnf
 ·have h0:k<l.length:=by omega
  (repeat refine An ?_)
  repeat' (first|(refine L6 ?_;conv=>whnf)|(refine L7 ?_;conv=>whnf)|(refine ⟨fun h=>?_,fun h=>?_⟩<;>conv=>whnf)|(refine Ft ?_;conv=>whnf)|fail)
  all_goals
   refine B9 [] (k+1) Ab Ab ⟨rfl,congrArg (fun n=>AV.c (vi n)) (by rw [Ul h0];simp_all [Zb]<;>rw [if_neg Ab]<;>assumption),congrArg (fun n=>AV.c (vb n)) (by rw [Ul h0];simp_all [Zb]<;>rw [if_neg Ab]<;>assumption),trivial⟩ trivial trivial A7 Cr A7
 refine B3 A0 rfl rfl ⟨?_,?_,trivial⟩
 ·rw [show l.take k=l from List.take_of_length_le Ab];rfl
 rw [show l.take k=l from List.take_of_length_le Ab];rfl
end Go.Proofs.YtdendlkeiaccpaaGreatDoor
