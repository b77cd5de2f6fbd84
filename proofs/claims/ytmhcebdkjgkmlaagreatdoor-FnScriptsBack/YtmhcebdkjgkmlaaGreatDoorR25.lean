/- Part 25 of the proof that each of the laws FnScriptsBack returns true for every input. No conditions. -/
import Derived.Test.YtmhcebdkjgkmlaaGreatDoorR24
import Derived.Test.YtmhcebdkjgkmlaaGreatDoorR23

set_option linter.unusedSimpArgs false
set_option linter.unusedVariables false
set_option maxRecDepth 100000
namespace Go.Proofs.YtmhcebdkjgkmlaaGreatDoor
open Go.Sx
def Rk (k v:Int):Prop:=(0≤k∧k≤99)∧(0≤v∧v≤999)
instance (k v:Int):Decidable (Rk k v):=by unfold Rk;infer_instance
def Bc (x:Ba) (k v:Int):Int×Int×Bool:=
 if I6 x∧Rk k v then
  (if x.kind=2 then (k,if v+x.a<999 then v+x.a else 999,true)
  else if x.kind=4 then ((k+x.a).tmod 100,v,true)
  else if x.kind=3 then (k,v,k.tmod x.a==x.b)
  else (k,v,x.kind !=8))
 else (k,v,false)
def Br (s:Iq):Iq×Bool:=if Jm s=true∧s.turn<6 then (⟨s.am,s.turn+1⟩,true) else (s,false)
def Pc (g:Ax) (r:A9):Prop:=Gc g∧H8 r∧r.op<g.ay.length
instance (g:Ax) (r:A9):Decidable (Pc g r):=by unfold Pc;infer_instance
def Un (g:Ax) (r:A9):List A9:=
 if (Ac g r.op).kind=7∧(Br r.af).2=false then []
 else (Ac g r.op).ax.map fun k=>⟨k,if (Ac g r.op).kind=7 then (Br r.af).1 else r.af,(Bc (Ac g r.op) r.key r.val).1,(Bc (Ac g r.op) r.key r.val).2.1⟩
def Fo (r:A9):Al:=⟨r.op,r.af.am,r.key,r.val⟩
def Hz (g:Ax) (cs:List Al) (r:A9):List Al×List A9×Bool:=
 if Pc g r then
  (if (Bc (Ac g r.op) r.key r.val).2.2=false∧(Ac g r.op).kind≠8 then (cs,[],true)
  else if (Dd (Ac g r.op).kind cs (Fo r)).2=false then ((Dd (Ac g r.op).kind cs (Fo r)).1,[],true)
  else ((Dd (Ac g r.op).kind cs (Fo r)).1,Un g r,true))
 else (cs,[],false)
def ae (g:Ax) (r:A9):Bool:=decide (Pc g r∧(Ac g r.op).kind=7∧(Ac g r.op).ax.length>0∧(Br r.af).2=false)
def B3i (l:D8) (r:A9):Prop:=It l∧H8 r∧l.bk≠0∧l.bv≠1000000000
instance (l:D8) (r:A9):Decidable (B3i l r):=by unfold B3i;infer_instance
def Da (l:D8) (r:A9):D8×Bool:=if B3i l r then (⟨l.cap,l.al++[r],l.bk-1,l.back,l.bv+1,l.got⟩,true) else (l,false)
def Bq (l:D8):D8×A9×Bool:=
 if It l∧0<l.al.length then (⟨l.cap,l.al.drop 1,l.bk,l.back+1,l.bv,l.got+1⟩,l.al.getD 0 default,true) else (l,default,false)
def Eg (l:D8):D8×Bool:=if It l∧l.back≠0 then (⟨l.cap,l.al,l.bk+1,l.back-1,l.bv,l.got⟩,true) else (l,false)
def A2m (g:Ax) (w:Aj):Prop:=Gc g∧Db g.ay.length w∧w.bq.length=0∧0<w.al.length
instance (g:Ax) (w:Aj):Decidable (A2m g w):=by unfold A2m;infer_instance
def Pa (g:Ax) (w:Aj):Aj:=
 ⟨w.al.drop 1,(Hz g w.cells (w.al.getD 0 default)).2.1,w.ap,(Hz g w.cells (w.al.getD 0 default)).1,w.ai,w.ah,if ae g (w.al.getD 0 default)=true then w.ao.set (w.al.getD 0 default).af.am.toNat true else w.ao,w.bz⟩
def Nc (g:Ax) (w:Aj):Aj×Bool:=if A2m g w then (Pa g w,true) else (w,false)
def V4 (g:Ax) (w:Aj):Prop:=Gc g∧Db g.ay.length w∧w.bq.length=0∧w.al.length=0∧0<w.ap.length
instance (g:Ax) (w:Aj):Decidable (V4 g w):=by unfold V4;infer_instance
def Q6 (w:Aj):Aj:=⟨w.al++[w.ap.getD 0 default],w.bq,w.ap.drop 1,w.cells,w.ai,w.ah,w.ao,w.bz⟩
def Hu (g:Ax) (w:Aj):Aj×Bool:=if V4 g w then (Q6 w,true) else (w,false)
def El (w:Aj):Aj:=⟨w.al,w.bq.drop 1,w.ap,w.cells,w.ai,w.ah,w.ao,w.bz⟩
def W9 (w:Aj):Aj×A9×Bool:=if 0<w.bq.length then (El w,w.bq.getD 0 default,true) else (w,default,false)
def kept (w:Aj) (r:A9):Aj:=⟨w.al++[r],w.bq,w.ap,w.cells,w.ai,w.ah,w.ao,w.bz⟩
def J0 (w:Aj) (e n:Int):Aj:=⟨w.al,w.bq,w.ap,w.cells,w.ai.set e.toNat (w.ai.getD e.toNat default+n),w.ah,w.ao,w.bz⟩
def Q8 (w:Aj) (e:Int):Aj:=⟨w.al,w.bq,w.ap,w.cells,w.ai,w.ah.set e.toNat true,w.ao,w.bz⟩
def Jx (w:Aj) (r:A9):Aj:=
 if 0≤r.af.am∧r.af.am<w.ai.length∧r.af.am<w.ah.length then Q8 (J0 (kept w r) r.af.am (-1)) r.af.am else kept w r
def Ky (w:Aj) (e:Int):Aj:=if 0≤e∧e<w.ai.length then J0 w e 1 else w
def Ds (c:A3) (k:Int) (l:D8):A3:=⟨c.az,c.aq,c.ak.set k.toNat l,c.ar,c.au⟩
def Bd (c:A3) (k:Int):D8:=c.ak.getD k.toNat default
def I3 (c:A3) (w:Int):Prop:=B1 c∧0≤w∧w<c.aq.length
instance (c:A3) (w:Int):Decidable (I3 c w):=by unfold I3;infer_instance
def Fy (c:A3) (w:Int):A3×Bool:=if I3 c w then (Bf c w (Nc c.az (A8 c w)).1,(Nc c.az (A8 c w)).2) else (c,false)
def Ey (c:A3) (w:Int):A3×Bool:=if I3 c w then (Bf c w (Hu c.az (A8 c w)).1,(Hu c.az (A8 c w)).2) else (c,false)
def B2 (c:A3) (w:Int):A9:=(A8 c w).bq.getD 0 default
def Az (c:A3) (w:Int):Int:=Ej (B2 c w).key c.az.aq
def Ap (c:A3) (f t:Int):Int:=f * c.az.aq+t
def D4 (c:A3) (w:Int):A3×Bool:=
 if I3 c w∧0<(A8 c w).bq.length then
  (if Az c w=w then (Bf c w (kept (El (A8 c w)) (B2 c w)),true)
  else if (Da (Bd c (Ap c w (Az c w))) (B2 c w)).2=true then
   (Bf (Ds c (Ap c w (Az c w)) (Da (Bd c (Ap c w (Az c w))) (B2 c w)).1) w (Ky (El (A8 c w)) (B2 c w).af.am),true)
  else (c,false))
 else (c,false)
def P0 (c:A3) (f t:Int):Prop:=B1 c∧f≠t∧(0≤f∧f<c.az.aq)∧(0≤t∧t<c.az.aq)
instance (c:A3) (f t:Int):Decidable (P0 c f t):=by unfold P0;infer_instance
def Ek (c:A3) (f t:Int):A3×Bool:=
 if P0 c f t∧(Bq (Bd c (Ap c f t))).2.2=true then
  (Bf (Ds c (Ap c f t) (Bq (Bd c (Ap c f t))).1) t (Jx (A8 c t) (Bq (Bd c (Ap c f t))).2.1),true)
 else (c,false)
def F5 (c:A3) (f t:Int):A3×Bool:=
 if P0 c f t then (Ds c (Ap c f t) (Eg (Bd c (Ap c f t))).1,(Eg (Bd c (Ap c f t))).2) else (c,false)
def Kc (w:Int) (x:D9):Bool:=x.to_==w
def P6 (c:A3) (w:Int):Nat:=Iu (Kc w) c.au
def Vf (c:A3) (w:Int):A3:=⟨c.az,c.aq,c.ak,c.ar,c.au.eraseIdx (P6 c w)⟩
def Gd (c:A3) (w:Int):D9:=c.au.getD (P6 c w) default
def Fj (c:A3) (w:Int):A3×Bool:=
 if B1 c∧c.au.any (Kc w)=true then
  (if Lh (A8 c w) (Gd c w).am=true then Vf c w else Bf (Vf c w) w (Jq (A8 c w) ⟨(Gd c w).am,(Gd c w).ae⟩),true)
 else (c,false)
def At (c:A3) (p:Cs):A3×Bool:=
 if p.kind=1 then Fy c p.a else if p.kind=2 then Ey c p.a else if p.kind=3 then D4 c p.a else if p.kind=4 then Ek c p.a p.b
 else if p.kind=5 then F5 c p.a p.b else if p.kind=6 then Dc c p.a else if p.kind=7 then Fj c p.a else (c,false)
def Jy (s:A3×List Bool) (p:Cs):A3×List Bool:=((At s.1 p).1,s.2++[(At s.1 p).2])
def B0 (c:A3) (l:List Cs):A3×List Bool:=l.foldl Jy (c,[])
def Iv (c:A3):Nat:=(E5 c.az.aq 0 4).toNat
def Ck (c:A3):A3×Nat:=((B0 c (R2 (Iv c))).1,((B0 c (R2 (Iv c))).2.filter id).length)
def H0:Nat→A3→A3×Nat
 | 0,c=>(c,0)
 |n+1,c=>if (Ck c).2=0 then ((Ck c).1,1) else ((H0 n (Ck c).1).1,(H0 n (Ck c).1).2+1)
def Xg (g:Ax) (l:List A9):Prop:=Gc g∧l.length≤20∧∀r∈l,H8 r∧r.op=0∧r.af.turn=0
instance (g:Ax) (l:List A9):Decidable (Xg g l):=by unfold Xg;infer_instance
def D1g (n:Int) (l:List A9) (w:Nat):List A9:=(List.range 4).flatMap fun (e:Nat)=>(F6 l e).filter fun r=>Ej r.key n==w
def Hj (n:Int):D8:=⟨E5 n 1 4,[],E5 n 1 4,0,0,0⟩
def Et (n:Int) (l:List A9) (k:Nat):List Aj:=(List.range k).map fun w=>⟨[],[],D1g n l w,[],List.replicate 4 0,List.replicate 4 false,List.replicate 4 false,[]⟩
def Q1:A3:=⟨⟨[],0,0⟩,[],[],[],[]⟩
def C9 (g:Ax) (l:List A9):A3×Bool:=
 if Xg g l then (⟨g,Et g.aq l g.aq.toNat,List.replicate (g.aq.toNat * g.aq.toNat) (Hj g.cap),List.replicate 4 default,[]⟩,true) else (Q1,false)
variable {s : Iq}
theorem A0k (h:Jm s=false):Br s=(s,false):=by
 unfold Br;rw [Ab (fun p=>by rw [p.1] at h;cases h)]
theorem A0l (h:¬ s.turn<6):Br s=(s,false):=by
 unfold Br;rw [Ab (fun p=>h p.2)]
theorem A0m (h1:Jm s=true)(h2:s.turn<6):Br s=(⟨s.am,s.turn+1⟩,true):=by
 unfold Br;rw [Ah ⟨h1,h2⟩]
theorem B58 (h:Jm s=true):(0≤s.am∧s.am≤3)∧0≤s.turn∧s.turn≤6:=Bp h
theorem A0y (s:Iq):Df 278 [.agg s.c] [.agg (Br s).1.c,.one (vb (Br s).2)]:=by
 refine Dy Tryz.func278 fun W=>?_;refine Fh (A3n s) ?_;refine C2 (fun h1=>?_) fun h1=>?_
 ·have h1:Jm s=false:=by simpa using h1
  refine Ar ?_;rw [A0k h1];exact Dk
 have h1:Jm s=true:=by simpa using h1
 have hb:=B58 h1;refine Ar ?_;refine C2 (fun h2=>?_) fun h2=>?_
 ·have h2:s.turn≥6:=Bp h2
  refine Ar ?_;rw [A0l A7];exact Dk
 have h2:¬ s.turn≥6:=Cy h2;refine Ar ?_;rw [A0m h1 A7];exact Dk
theorem Tq (s:Iq):Df 308 [.agg s.c] [.agg (Br s).1.c,.one (vb (Br s).2)]:=by
 refine Dy Tryz.func308 fun W=>?_;refine Fh (A2z s) ?_;refine C2 (fun h1=>?_) fun h1=>?_
 ·have h1:Jm s=false:=by simpa using h1
  refine Ar ?_;rw [A0k h1];exact Dk
 have h1:Jm s=true:=by simpa using h1
 have hb:=B58 h1;refine Ar ?_;refine Mf (fun h2=>?_) fun h2=>?_
 ·refine Ar ?_
  rw [A0l A7];exact Dk
 refine Ar ?_;rw [A0m h1 A7];exact Dk
theorem C63 (a b:Int):Df 312 [.one (vi a),.one (vi b)] [.one (vi (if b<a then b else a))]:=by
 refine Dy Tryz.func312 fun W=>?_;refine E3 (fun h=>?_) fun h=>?_
 ·rw [Ah h]
  exact Dk
 rw [Ab h];exact Dk
theorem Ya (k:Int):Df 276 [.one (vi k)] [.one (vb (decide (k=5∨k=6∨k=8)))]:=by
 refine Dy Tryz.func276 fun W=>?_;refine Mf (fun h5=>?_) fun h5=>?_
 ·refine Ar ?_
  exact Af A0 rfl rfl ⟨A6 vb (by simp [h5]),trivial⟩
 refine Ar ?_;refine Mf (fun h6=>?_) fun h6=>?_
 ·refine Ar ?_
  exact Af A0 rfl rfl ⟨A6 vb (by simp [h6]),trivial⟩
 refine Ar ?_;exact Af A0 rfl rfl ⟨A6 vb (by simp [h5,h6];rfl),trivial⟩
variable {x : Ba} {k : Int} {v : Int}
theorem Q9 (h:¬ (I6 x∧Rk k v)):Bc x k v=(k,v,false):=Ab h
theorem C1f (h:I6 x∧Rk k v)(h2:x.kind=2):Bc x k v=(k,if 999<v+x.a then 999 else v+x.a,true):=by
 rw [Bc,Ah h,Ah h2]
 congr 2
 by_cases h3:999<v+x.a
 ·rw [Ah h3,Ab A7]
 rw [Ab h3]
 split<;>omega
theorem B63 (h:I6 x∧Rk k v)(h2:x.kind=2):Bc x k v=(k,if v+x.a<999 then v+x.a else 999,true):=by
 rw [Bc,Ah h,Ah h2]
theorem A9x (h:I6 x∧Rk k v)(h2:x.kind=4):Bc x k v=((k+x.a).tmod 100,v,true):=by
 rw [Bc,Ah h,Ab A7,Ah h2]
theorem A9w (h:I6 x∧Rk k v)(h2:x.kind=3):Bc x k v=(k,v,k.tmod x.a==x.b):=by
 rw [Bc,Ah h,Ab A7,Ab A7,Ah h2]
theorem A9y (h:I6 x∧Rk k v)(h2:x.kind≠2)(h4:x.kind≠4)(h3:x.kind≠3):Bc x k v=(k,v,x.kind !=8):=by
 rw [Bc,Ah h,Ab h2,Ab h4,Ab h3]
theorem B52 (x:Ba)(k v:Int)(hx:x.w≤16777216):Df 275 [.agg x.c,.one (vi k),.one (vi v)] [.one (vi (Bc x k v).1),.one (vi (Bc x k v).2.1),.one (vb (Bc x k v).2.2)]:=by
 refine Dy Tryz.func275 fun W=>?_;refine Fh (Z1 x hx) ?_;refine C2 (fun h1=>?_) fun h1=>?_
 ·have h1:Li x=false:=by simpa using h1
  refine Ar ?_;rw [Q9 (fun p=>absurd p.1 (Cy h1))];exact Dk
 have h1:Li x=true:=by simpa using h1
 refine Ar ?_;refine Ao (Hm k 0 99) rfl (Ft ?_);refine C2 (fun h2=>?_) fun h2=>?_
 ·have h2:F0 k 0 99=false:=by simpa using h2
  refine Ar ?_;rw [Q9 (fun p=>Go.Sx.Gv.1 h2 p.2.1)];exact Dk
 have h2:F0 k 0 99=true:=by simpa using h2
 refine Ar ?_;refine Ao (Hm v 0 999) rfl (Ft ?_);refine C2 (fun h3=>?_) fun h3=>?_
 ·have h3:F0 v 0 999=false:=by simpa using h3
  refine Ar ?_;rw [Q9 (fun p=>Go.Sx.Gv.1 h3 p.2.2)];exact Dk
 have h3:F0 v 0 999=true:=by simpa using h3
 have hI:Rk k v:=⟨Go.Sx.Dj.1 h2,Go.Sx.Dj.1 h3⟩;have hN:I6 x:=Bp h1;have hk:=hI.1;have hv:=hI.2;refine Ar ?_;refine Mf (fun k2=>?_) fun k2=>?_
 ·have ha:=hN.2.1 k2
  refine Ar ?_;refine Fh (C63 (v+x.a) 999) ?_;rw [C1f ⟨hN,hI⟩ k2];exact Dk
 refine Ar ?_;refine Mf (fun k4=>?_) fun k4=>?_
 ·have ha:=hN.2.2.2.1 k4
  refine Ar ?_;rw [A9x ⟨hN,hI⟩ k4];exact Dk
 refine Ar ?_;refine Mf (fun k3=>?_) fun k3=>?_
 ·have ha:=hN.2.2.1 k3
  refine Ar ?_
  first|(refine Ae 9 rfl [0,1,2,3,4,5,6,7,8,9,10,11] Ak (Ag ?_))|(refine Ae 10 rfl [0,1,2,3,4,5,6,7] Ak (Ag ?_))
  refine B6 ?_;rw [A9w ⟨hN,hI⟩ k3];exact Dk
 refine Ar ?_
 first|(refine Ae 9 rfl [0,1,2,3,4,5,6,7,8,9,10,11] Ak (Ag ?_))|(refine Ae 10 rfl [0,1,2,3,4,5,6,7] Ak (Ag ?_))
 rw [A9y ⟨hN,hI⟩ k2 k4 k3];exact Dk
theorem B4e (x:Ba)(k v:Int)(hx:x.w≤16777216):Df 306 [.agg x.c,.one (vi k),.one (vi v)] [.one (vi (Bc x k v).1),.one (vi (Bc x k v).2.1),.one (vb (Bc x k v).2.2)]:=by
 refine Dy Tryz.func306 fun W=>?_;refine Fh (Tr x hx) ?_;refine C2 (fun h1=>?_) fun h1=>?_
 ·have h1:Li x=false:=by simpa using h1
  refine Ar ?_;rw [Q9 (fun p=>absurd p.1 (Cy h1))];exact Dk
 have h1:Li x=true:=by simpa using h1
 refine Ar ?_;refine Ao (A5v k v) rfl (Ft ?_);refine C2 (fun h2=>?_) fun h2=>?_
 ·have h2:decide ((0≤k∧k≤99)∧(0≤v∧v≤999))=false:=(Mp _).mp h2
  refine Ar ?_;rw [Q9 (fun p=>absurd p.2 (Cy h2))];exact Dk
 have hI:Rk k v:=Bp (show decide ((0≤k∧k≤99)∧(0≤v∧v≤999))=true from (Uj _).mp h2)
 have hN:I6 x:=Bp h1;have hk:=hI.1;have hv:=hI.2;refine Ar ?_;refine Mf (fun k2=>?_) fun k2=>?_
 ·have ha:=hN.2.1 k2
  refine Ar ?_
  first|(refine Ae 5 rfl [0,1,2,3,4,5,6,7,8] Ak (Ag ?_))|(refine Ae 9 rfl [0,1,2,3,4,5,6,7,8,9,10,11] Ak (Ag ?_))|(refine Ae 10 rfl [0,1,2,3,4,5,6,7] Ak (Ag ?_))
  refine B6 ?_;rw [B63 ⟨hN,hI⟩ k2];exact Dk
 refine Ar ?_;refine Mf (fun k4=>?_) fun k4=>?_
 ·have ha:=hN.2.2.2.1 k4
  refine Ar ?_;rw [A9x ⟨hN,hI⟩ k4];exact Dk
 refine Ar ?_;refine Mf (fun k3=>?_) fun k3=>?_
 ·have ha:=hN.2.2.1 k3
  refine Ar ?_
  first|(refine Ae 5 rfl [0,1,2,3,4,5,6,7,8] Ak (Ag ?_))|(refine Ae 9 rfl [0,1,2,3,4,5,6,7,8,9,10,11] Ak (Ag ?_))|(refine Ae 10 rfl [0,1,2,3,4,5,6,7] Ak (Ag ?_))
  refine B6 ?_;rw [A9w ⟨hN,hI⟩ k3];exact Dk
 refine Ar ?_
 first|(refine Ae 5 rfl [0,1,2,3,4,5,6,7,8] Ak (Ag ?_))|(refine Ae 9 rfl [0,1,2,3,4,5,6,7,8,9,10,11] Ak (Ag ?_))|(refine Ae 10 rfl [0,1,2,3,4,5,6,7] Ak (Ag ?_))
 rw [A9y ⟨hN,hI⟩ k2 k4 k3];exact Dk
variable {l : D8}
theorem Ro {r:A9}(h:¬ B3i l r):Da l r=(l,false):=Ab h
theorem B5v {r:A9}(h:B3i l r):Da l r=(⟨l.cap,l.al++[r],l.bk-1,l.back,l.bv+1,l.got⟩,true):=Ah h
theorem Xe (h:¬ (It l∧0<l.al.length)):Bq l=(l,default,false):=Ab h
theorem A01 (h:It l∧0<l.al.length):Bq l=(⟨l.cap,l.al.drop 1,l.bk,l.back+1,l.bv,l.got+1⟩,l.al.getD 0 default,true):=Ah h
theorem A30 (h:¬ (It l∧l.back≠0)):Eg l=(l,false):=Ab h
theorem B3v (h:It l∧l.back≠0):Eg l=(⟨l.cap,l.al,l.bk+1,l.back-1,l.bv,l.got⟩,true):=Ah h
set_option maxHeartbeats 1000000 in
theorem A7p (l:D8)(r:A9)(hl:l.w≤16777216):Df 242 [.agg l.c,.agg r.c] [.agg (Da l r).1.c,.one (vb (Da l r).2)]:=by
 have hq:l.al.length≤16777216:=hl;refine Dy Tryz.func242 fun W=>?_;refine Hp (Pz l A7) ?_;refine Fh (U6 l A7) ?_;refine C2 (fun h1=>?_) fun h1=>?_
 ·have h1:Kd l=false:=by simpa using h1
  refine Ar ?_;rw [Ro (fun p=>absurd p.1 (Cy h1))];exact Dk
 have h1:It l:=Bp (show Kd l=true by simpa using h1)
 obtain ⟨⟨n1,n2,n3,n4,n5,n6,n7⟩,nA⟩:=id h1;refine Ar ?_;refine Ao (Jl r) rfl (Ft ?_);refine C2 (fun h2=>?_) fun h2=>?_
 ·have h2:F2 r=false:=by simpa using h2
  refine Ar ?_;rw [Ro (fun p=>absurd p.2.1 (Cy h2))];exact Dk
 have h2:H8 r:=Bp (show F2 r=true by simpa using h2)
 refine Ar ?_;refine Mf (fun h3=>?_) fun h3=>?_
 ·refine Ar ?_
  rw [Ro (fun p=>p.2.2.1 h3)];exact Dk
 refine Ar ?_;refine C2 (fun h4=>?_) fun h4=>?_
 ·have h4:l.bv=1000000000:=by (have:=Bp h4;omega)
  refine Ar ?_;rw [Ro (fun p=>p.2.2.2 h4)];exact Dk
 have h4:l.bv≠1000000000:=by (have:=Cy h4;omega)
 refine Ar ?_;refine Bg A0 rfl (Aa (l.al++[r])) (An rfl) Ij A7 (F1 ?_);rw [B5v ⟨h1,h2,h3,h4⟩];exact Dk
set_option maxHeartbeats 1000000 in
theorem A50 (l:D8)(r:A9)(hl:l.w≤16777216)(og2:l.got≤9223372036854775807):Df 227 [.agg l.c,.agg r.c] [.agg (Da l r).1.c,.one (vb (Da l r).2)]:=by
 have hq:l.al.length≤16777216:=hl;refine Dy Tryz.func227 fun W=>?_;refine Hp (Ps l A7) ?_;refine Fh (Tp l A7 og2) ?_;refine C2 (fun h1=>?_) fun h1=>?_
 ·have h1:Kd l=false:=by simpa using h1
  refine Ar ?_;rw [Ro (fun p=>absurd p.1 (Cy h1))];exact Dk
 have h1:It l:=Bp (show Kd l=true by simpa using h1)
 obtain ⟨⟨n1,n2,n3,n4,n5,n6,n7⟩,nA⟩:=id h1;refine Ar ?_;refine Ao (Ik r) rfl (Ft ?_);refine C2 (fun h2=>?_) fun h2=>?_
 ·have h2:F2 r=false:=by simpa using h2
  refine Ar ?_;rw [Ro (fun p=>absurd p.2.1 (Cy h2))];exact Dk
 have h2:H8 r:=Bp (show F2 r=true by simpa using h2)
 refine Ar ?_;refine Mf (fun h3=>?_) fun h3=>?_
 ·refine Ar ?_
  rw [Ro (fun p=>p.2.2.1 h3)];exact Dk
 refine Ar ?_;refine C2 (fun h4=>?_) fun h4=>?_
 ·have h4:l.bv=1000000000:=eq_of_beq h4
  refine Ar ?_;rw [Ro (fun p=>p.2.2.2 h4)];exact Dk
 have h4:l.bv≠1000000000:=Nh.1 h4;refine Ar ?_;refine Bg A0 rfl (Aa (l.al++[r])) (An rfl) Ij A7 (F1 ?_);rw [B5v ⟨h1,h2,h3,h4⟩];exact Dk
set_option maxHeartbeats 1000000 in
theorem B22 (l:D8)(hl:l.w≤16777216):Df 244 [.agg l.c] [.agg (Bq l).1.c,.agg (Bq l).2.1.c,.one (vb (Bq l).2.2)]:=by
 have hq:l.al.length≤16777216:=hl;refine Dy Tryz.func244 fun W=>?_;refine Hp (Pz l A7) ?_;refine Fh (U6 l A7) ?_;refine C2 (fun h1=>?_) fun h1=>?_
 ·have h1:Kd l=false:=by simpa using h1
  refine Ar ?_;rw [Xe (fun p=>absurd p.1 (Cy h1))];exact Dk
 have h1:It l:=Bp (show Kd l=true by simpa using h1)
 obtain ⟨⟨n1,n2,n3,n4,n5,n6,n7⟩,nA⟩:=id h1;refine Ar ?_;refine Mf (fun h2=>?_) fun h2=>?_
 ·refine Ar ?_
  rw [Xe (fun p=>by omega)];exact Dk
 have h2:0<l.al.length:=by omega
 refine Ar ?_;refine B24 A0 rfl (⟨by omega,by omega,by omega⟩) (Aa (l.al.drop 1)) (Im (k:=1) h2) (Ag ?_);refine Bg A0 rfl (Aa (l.al.drop 1)) (Bw) (fun _=>J1 _) (by (rw [Gm];omega)) (F1 ?_);refine Jd rfl ?_;refine Pb 0 ?_;refine zt2 1 2 ?_ ?_
 focus
  refine B6 ?_;refine Ei ?_;refine splitB [2] Ak ⟨?_,trivial⟩;refine F1 ?_;refine Ei ?_
 rotate_left 1
 focus
  refine B6 ?_;refine Ei ?_;refine Pb 1 ?_
 all_goals
  refine splitB [3] Ak ⟨?_,trivial⟩;refine F1 ?_;refine Ei (E4 4 rfl ?_);refine A2r Ak (Ag ?_)
 all_goals
  rw [A01 ⟨h1,h2⟩];exact Dk
set_option maxHeartbeats 1000000 in
theorem B15 (l:D8)(hl:l.w≤16777216)(og2:l.got≤9223372036854775807):Df 230 [.agg l.c] [.agg (Bq l).1.c,.agg (Bq l).2.1.c,.one (vb (Bq l).2.2)]:=by
 have hq:l.al.length≤16777216:=hl;refine Dy Tryz.func230 fun W=>?_;refine Hp (Ps l A7) ?_;refine Fh (Tp l A7 og2) ?_;refine C2 (fun h1=>?_) fun h1=>?_
 ·have h1:Kd l=false:=by simpa using h1
  refine Ar ?_;rw [Xe (fun p=>absurd p.1 (Cy h1))];exact Dk
 have h1:It l:=Bp (show Kd l=true by simpa using h1)
 obtain ⟨⟨n1,n2,n3,n4,n5,n6,n7⟩,nA⟩:=id h1;refine Ar ?_;refine Mf (fun h2=>?_) fun h2=>?_
 ·refine Ar ?_
  rw [Xe (fun p=>by omega)];exact Dk
 have h2:0<l.al.length:=by omega
 refine Ar ?_;refine B24 A0 rfl (⟨by omega,by omega,by omega⟩) (Aa (l.al.drop 1)) (Im (k:=1) h2) (F1 ?_);refine Jd rfl (E4 1 rfl ?_);refine Pb 0 ?_;refine zt2 2 5 ?_ ?_
 focus
  refine B6 ?_;refine Ei (zt2 3 5 ?_ ?_)
  focus
   refine B6 ?_;refine Ei (zt2 4 5 ?_ ?_)
   focus
    refine B6 ?_;refine Ei ?_;refine splitB [5] Ak ⟨?_,trivial⟩;refine F1 ?_;refine Ei ?_
   rotate_left 1
   focus
    refine B6 ?_;refine Ei ?_;refine Pb 4 ?_
  rotate_left 2
  focus
   refine B6 ?_;refine Ei ?_;refine Pb 3 ?_;refine Pb 4 ?_
 rotate_left 3
 focus
  refine B6 ?_;refine Ei ?_;refine Pb 2 ?_;refine Pb 3 ?_;refine Pb 4 ?_
 all_goals
  refine splitB [6] Ak ⟨?_,trivial⟩;refine F1 ?_;refine Ei (E4 7 rfl ?_);refine A2r Ak (Ag ?_)
 all_goals
  rw [A01 ⟨h1,h2⟩];exact Dk
theorem A7h (l:D8)(hl:l.w≤16777216):Df 245 [.agg l.c] [.agg (Eg l).1.c,.one (vb (Eg l).2)]:=by
 refine Dy Tryz.func245 fun W=>?_;refine Hp (Pz l A7) ?_;refine Fh (U6 l A7) ?_;refine C2 (fun h1=>?_) fun h1=>?_
 ·have h1:Kd l=false:=by simpa using h1
  refine Ar ?_;rw [A30 (fun p=>absurd p.1 (Cy h1))];exact Dk
 have h1:It l:=Bp (show Kd l=true by simpa using h1)
 obtain ⟨⟨n1,n2,n3,n4,n5,n6,n7⟩,nA⟩:=id h1;refine Ar ?_;refine Mf (fun h2=>?_) fun h2=>?_
 ·refine Ar ?_
  rw [A30 (fun p=>p.2 h2)];exact Dk
 refine Ar ?_;rw [B3v ⟨h1,h2⟩];exact Dk
theorem A5r (l:D8)(hl:l.w≤16777216)(og2:l.got≤9223372036854775807):Df 232 [.agg l.c] [.agg (Eg l).1.c,.one (vb (Eg l).2)]:=by
 refine Dy Tryz.func232 fun W=>?_;refine Hp (Ps l A7) ?_;refine Fh (Tp l A7 og2) ?_;refine C2 (fun h1=>?_) fun h1=>?_
 ·have h1:Kd l=false:=by simpa using h1
  refine Ar ?_;rw [A30 (fun p=>absurd p.1 (Cy h1))];exact Dk
 have h1:It l:=Bp (show Kd l=true by simpa using h1)
 obtain ⟨⟨n1,n2,n3,n4,n5,n6,n7⟩,nA⟩:=id h1;refine Ar ?_;refine Mf (fun h2=>?_) fun h2=>?_
 ·refine Ar ?_
  rw [A30 (fun p=>p.2 h2)];exact Dk
 refine Ar ?_;rw [B3v ⟨h1,h2⟩];exact Dk
def J4 (w f t:Int):Int:=if 0≤min f t∧max f t<w then IntKind.wrap .i64 (IntKind.wrap .i64 (f * w)+t) else-1
theorem Sc (g:Ax)(f t:Int)(hg:Js .i64 g.aq):Df 241 [.agg g.c,.one (vi f),.one (vi t)] [.one (vi (J4 g.aq f t))]:=by
 have hw:g.aq≤9223372036854775807:=hg.2;have hw1:1≤g.aq→IntKind.wrap .i64 (g.aq-1)=g.aq-1:=fun h=>L0 (by show _∧_;omega)
 refine B67 A0 true Tryz.func241 rfl Bk fun W=>?_;conv=>whnf
 repeat' (first|(refine Gy ?_;conv=>whnf)|(refine Gz ?_;conv=>whnf)|(refine ⟨fun h=>?_,fun h=>?_⟩<;>conv=>whnf)|(refine Ao (Hm _ _ _) rfl (go A0 true ?_);conv=>whnf)|(refine Ew ?_;conv=>whnf)|fail)
 all_goals (refine Af A0 rfl rfl ⟨A6 vi ?_,trivial⟩;simp only [Mp,Uj,Go.Sx.Dj,Go.Sx.Gv,Nq,T1] at *;unfold J4)
 ·by_cases h1:1≤g.aq
  ·have h2:=hw1 h1;rw [Ab A7]
  rw [Ab A7]
 ·by_cases h1:1≤g.aq
  ·have h2:=hw1 h1;rw [Ab A7]
  rw [Ab A7]
 ·rw [Ab A7]
 have h2:=hw1 A7;rw [Ah A7]
theorem Xr (g:Ax)(f t:Int):Df 226 [.agg g.c,.one (vi f),.one (vi t)] [.one (vi (J4 g.aq f t))]:=by
 refine B67 A0 true Tryz.func226 rfl Bk fun W=>?_;conv=>whnf
 repeat' (first|(refine Gy ?_;conv=>whnf)|(refine Gz ?_;conv=>whnf)|(refine ⟨fun h=>?_,fun h=>?_⟩<;>conv=>whnf)|(refine Ew ?_;conv=>whnf)|fail)
 all_goals (refine Af A0 rfl rfl ⟨A6 vi ?_,trivial⟩;simp only [Nq,T1] at *;unfold J4)
 ·rw [Ab A7]
 ·rw [Ab A7]
 rw [Ah A7]
theorem A3m (key n:Int)(hn:n≤9223372036854775807):Df 183 [.one (vi key),.one (vi n)] [.one (vi (Ej key n))]:=by
 refine Dy Tryz.func183 fun W=>?_;refine E3 (fun h=>?_) fun h=>?_
 ·exact Af A0 rfl rfl ⟨A6 vi (by rw [Ej,Ah h]),trivial⟩
 have h1:=Wj key (show 0<n by omega)
 have h2:=Int.lt_tmod_of_pos key (show 0<n by omega)
 refine B6 ?_;refine E3 (fun h'=>?_) fun h'=>?_
 ·refine B6 ?_
  exact Af A0 rfl rfl ⟨A6 vi (by rw [Ej,Ab h,Ah h']),trivial⟩
 exact Af A0 rfl rfl ⟨A6 vi (by rw [Ej,Ab h,Ab h']),trivial⟩
theorem A2y (key n:Int)(hn:n≤9223372036854775807):Df 119 [.one (vi key),.one (vi n)] [.one (vi (Ej key n))]:=by
 refine Dy Tryz.func119 fun W=>?_;refine E3 (fun h=>?_) fun h=>?_
 ·exact Af A0 rfl rfl ⟨A6 vi (by rw [Ej,Ah h]),trivial⟩
 have h1:=Wj key (show 0<n by omega)
 have h2:=Int.lt_tmod_of_pos key (show 0<n by omega)
 refine B6 ?_;refine E3 (fun h'=>?_) fun h'=>?_
 ·refine B6 ?_
  exact Af A0 rfl rfl ⟨A6 vi (by rw [Ej,Ab h,Ah h']),trivial⟩
 exact Af A0 rfl rfl ⟨A6 vi (by rw [Ej,Ab h,Ab h']),trivial⟩
end Go.Proofs.YtmhcebdkjgkmlaaGreatDoor
