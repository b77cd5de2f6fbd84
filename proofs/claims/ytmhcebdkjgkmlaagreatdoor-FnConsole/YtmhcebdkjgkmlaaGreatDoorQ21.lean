/- Part 21 of the proof that each of the laws FnConsole returns true for every input. No conditions. -/
import Derived.Test.YtmhcebdkjgkmlaaGreatDoorQ20
import Derived.Test.YtmhcebdkjgkmlaaGreatDoorQ19

set_option linter.unusedSimpArgs false
set_option linter.unusedVariables false
set_option maxRecDepth 100000
namespace Go.Proofs.YtmhcebdkjgkmlaaGreatDoor
open Go.Sx
def Ac (g:B0) (op:Int):C3:=g.ak.getD op.toNat default
def Ea (c:A3):List Ad:=c.aq.foldl (fun l w=>w.cells.foldl Dh l) []
def Ei (g:B0) (l:List Ad):List Ad:=l.filter fun x=>decide ((0≤x.op∧x.op<g.ak.length)∧(Ac g x.op).kind=8)
def Eh (c:A3) (e:Int):List Ad:=(Ei c.az (Ea c)).filter fun x=>x.ab==e
def inN (ws:List Ae):List Ad:=ws.foldl (fun l w=>w.cells.foldl Dh l) []
theorem A0v (x:A3):Ea x=inN x.aq:=rfl
theorem Z8 {α β:Type} [Inhabited α] (f:β→α→β)(b:β){l:List α}{k:Nat}(hk:k<l.length):(l.take (k+1)).foldl f b=f ((l.take k).foldl f b) (l.getD k default):=by
 have:l.take (k+1)=l.take k++[l.getD k default]:=by
  rw [A3p hk]
  simp [List.getD,hk]
 rw [this,A3l];rfl
theorem B6e {ws:List Ae}{k:Nat}(hk:k<ws.length):inN (ws.take (k+1))=(ws.getD k default).cells.foldl Dh (inN (ws.take k)):=Z8 _ _ hk
theorem B69 (l:List Ad)(x:Ad):(Dh l x).length≤l.length+1:=by
 unfold Dh
 split
 ·omega
 have:=C74 l x
 simp only [D3,F9,Fb,Ge];omega
theorem Vq (cs:List Ad):∀l:List Ad,(cs.foldl Dh l).length≤l.length+cs.length:=by
 induction cs with
 |nil=>intro l;simp
 |cons c r ih=>
  intro l
  have:=ih (Dh l c)
  have:=B69 l c
  simp only [A0i,Fb];omega
theorem B20 (w:Ae):w.cells.length≤w.w:=by simp only [Ae.w];omega
theorem C6x (ws:List Ae):∀l:List Ad,(ws.foldl (fun l w=>w.cells.foldl Dh l) l).length≤l.length+(ws.map Ae.w).sum:=by
 induction ws with
 |nil=>intro l;simp
 |cons w r ih=>
  intro l;have h1:=ih (w.cells.foldl Dh l);have h2:=Vq w.cells l;have h3:=B20 w;simp only [A0i,I1,Ux];omega
theorem A5n (ws:List Ae):(inN ws).length≤(ws.map Ae.w).sum:=by
 have:=C6x ws []
 simpa [inN] using this
variable {n : Nat}
theorem Mg {x:A3}(h:x.w≤n):(Ea x).length≤n:=by
 have:=A5n x.aq
 rw [A0v];simp only [A3.w,wS] at h;omega
set_option maxHeartbeats 1000000 in
theorem B7t (x:A3)(hx:x.w≤16000000):Di 159 [.agg x.c] [.one (Ai (Ea x))]:=by
 have hl:=A3.workers_le hx;refine E7 Tryz.func159 fun W=>?_;refine Eu 1 (Ai []) rfl C0 ?_;refine Fx [5,6] (fun k:Nat=>[(4,.c (vi k))]) (fun k=>[⟨0,[.c (At x.az.ak),.c (vi x.az.aq),.c (vi x.az.cap),.c (Af x.aq),.c (Ba x.ay),.c (Aw x.ap),.c (Bf x.ac)]⟩]) (fun k=>[⟨1,Ai (inN (x.aq.take k))⟩]) (fun k=>k≤x.aq.length) (fun k=>x.aq.length-k) fun k hk=>?_;refine B4 ?_;refine Dv (fun h=>?_) fun h=>?_
 ·have h:k<x.aq.length:=by omega
  have hw:=Go.Sx.A3.worker_le hx h;have hc:=B20 (x.aq.getD k default);have hi:=A5n (x.aq.take k);refine Fx [] (fun j:Nat=>[(5,.c (vi j))]) (fun j=>[⟨0,[.c (At x.az.ak),.c (vi x.az.aq),.c (vi x.az.cap),.c (Af x.aq),.c (Ba x.ay),.c (Aw x.ap),.c (Bf x.ac)]⟩]) (fun j=>[⟨1,Ai (((x.aq.getD k default).cells.take j).foldl Dh (inN (x.aq.take k)))⟩]) (fun j=>j≤(x.aq.getD k default).cells.length) (fun j=>(x.aq.getD k default).cells.length-j) fun j hj=>?_;refine B4 ?_;refine Dv (fun h=>?_) fun h=>?_
  ·have h:j<(x.aq.getD k default).cells.length:=by rw [Bv] at h;omega
   have hf:=Vq ((x.aq.getD k default).cells.take j) (inN (x.aq.take k));have ht:=Ly j (x.aq.getD k default).cells;refine B4 ?_;refine Lo (Mo (((x.aq.getD k default).cells.take j).foldl Dh (inN (x.aq.take k))) ((x.aq.getD k default).cells.getD j default) A7) rfl (Em ?_);refine Cc [(1,2)] (j+1) A7 A7 ⟨rfl,trivial⟩ ⟨A6 Ai (Z8 _ _ h).symm,trivial⟩
  refine B4 ?_;refine Cc [] (k+1) A7 A7 ⟨rfl,trivial⟩ ⟨A6 Ai (by rw [Bv] at h;rw [B6e ‹_›,Ej (x.aq.getD k default).cells j A7]),trivial⟩
 refine B4 ?_;refine An A0 rfl rfl ⟨?_,trivial⟩;exact A6 Ai (by rw [A0v,Ms A7])
set_option maxHeartbeats 1000000 in
theorem B56 (x:A3)(hx:x.w≤16000000):Di 164 [.agg x.c] [.one (Ai (Ea x))]:=by
 have hl:=A3.workers_le hx;refine E7 Tryz.func164 fun W=>?_;refine U5 3 4 (fun i=>Ad.c (([]:List Ad).getD i default)) rfl ?_;refine Fx [] (fun k:Nat=>[(11,.c (vi k))]) (fun k=>[⟨0,[.c (At x.az.ak),.c (vi x.az.aq),.c (vi x.az.cap),.c (Af x.aq),.c (Ba x.ay),.c (Aw x.ap),.c (Bf x.ac)]⟩]) (fun k=>[⟨1,Ai (inN (x.aq.take k))⟩]) (fun k=>k≤x.aq.length) (fun k=>x.aq.length-k) fun k hk=>?_;conv=>whnf
 refine Dv (fun h=>?_) fun h=>?_
 ·have h:k<x.aq.length:=by omega
  have hw:=Go.Sx.A3.worker_le hx h;have hc:=B20 (x.aq.getD k default);have hi:=A5n (x.aq.take k);refine B4 ?_;refine Fx [] (fun j:Nat=>[(18,.c (vi j))]) (fun j=>[⟨0,[.c (At x.az.ak),.c (vi x.az.aq),.c (vi x.az.cap),.c (Af x.aq),.c (Ba x.ay),.c (Aw x.ap),.c (Bf x.ac)]⟩]) (fun j=>[⟨1,Ai (((x.aq.getD k default).cells.take j).foldl Dh (inN (x.aq.take k)))⟩]) (fun j=>j≤(x.aq.getD k default).cells.length) (fun j=>(x.aq.getD k default).cells.length-j) fun j hj=>?_;conv=>whnf
  refine Dv (fun h=>?_) fun h=>?_
  ·have h:j<(x.aq.getD k default).cells.length:=by rw [Bv] at h;omega
   have hf:=Vq ((x.aq.getD k default).cells.take j) (inN (x.aq.take k));have ht:=Ly j (x.aq.getD k default).cells;refine B4 ?_;refine Lo (Rl (((x.aq.getD k default).cells.take j).foldl Dh (inN (x.aq.take k))) ((x.aq.getD k default).cells.getD j default) A7) rfl (Em ?_);refine Cc [(1,4)] (j+1) A7 A7 ⟨rfl,trivial⟩ ⟨A6 Ai (Z8 _ _ h).symm,trivial⟩
  refine B4 ?_;refine Cc [] (k+1) A7 A7 ⟨rfl,trivial⟩ ⟨A6 Ai (by rw [Bv] at h;rw [B6e ‹_›,Ej (x.aq.getD k default).cells j A7]),trivial⟩
 refine B4 ?_;refine An A0 rfl rfl ⟨?_,trivial⟩;exact A6 Ai (by rw [A0v,Ms A7])
def Qj (g:B0) (op:Int):C3×Bool:=if E4 op 0 (g.ak.length-1)=true then (Ac g op,true) else (⟨0,0,0,[]⟩,false)
theorem D2f {g:B0}(h:g.w≤n)(op:Int)(hk:op.toNat<g.ak.length):(Ac g op).w≤n:=by
 have:=Iu C3.w g.ak op.toNat hk
 simp only [B0.w,wS] at h;simp only [Ac];omega
theorem Ul (g:B0)(op:Int)(hg:g.w≤16777216):Di 214 [.agg g.c,.one (vi op)] [.agg (Qj g op).1.c,.one (vb (Qj g op).2)]:=by
 have hl:g.ak.length≤16777216:=by simp only [B0.w,wS] at hg;omega
 refine E7 Tryz.func214 fun W=>?_;refine B4 ?_;refine Fp (Hg op 0 (g.ak.length-1)) ?_
 by_cases h1:E4 op 0 (g.ak.length-1)=true
 ·have h2:=Go.Sx.Cl.1 h1
  have hk:op.toNat<g.ak.length:=by omega
  have hw:=D2f hg op hk;have ho:(Ac g op).ax.length≤16777216:=by simp only [C3.w] at hw;omega
  rw [h1,Qj,Ak h1];refine As ?_;refine B6 A0 rfl (Cn (Ac g op).ax) (Bs) (fun _=>Sv _) (by (simp only [Ac] at ho;omega)) (Gu ?_);exact D4
 have h3:E4 op 0 (g.ak.length-1)=false:=by simpa using h1
 rw [h3,Qj,Ab h1];refine As ?_;exact D4
def B0g (g:B0) (x:Ad):Bool:=decide ((0≤x.op∧x.op<g.ak.length)∧(Ac g x.op).kind=8)
theorem C1t (g:B0)(x:Ad):B0g g x=((Qj g x.op).2&&((Qj g x.op).1.kind==8)):=by
 unfold B0g Qj
 by_cases h1:E4 x.op 0 (g.ak.length-1)=true
 ·have h2:=Go.Sx.Cl.1 h1
  rw [Ak h1,S3];simp only [Np,Bool.true_and,Qt];exact ⟨fun h=>h.2,fun h=>⟨⟨by omega,by omega⟩,h⟩⟩
 have h3:E4 x.op 0 (g.ak.length-1)=false:=by simpa using h1
 have h2:=Go.Sx.Gd.1 h3;rw [Ab h1];simp only [Bool.false_and,Ta];exact fun h=>by omega
set_option maxHeartbeats 1000000 in
theorem B4n (g:B0)(l:List Ad)(hg:g.w≤16777216)(hl:l.length≤16777216):Di 158 [.agg g.c,.one (Ai l)] [.one (Ai (Ei g l))]:=by
 refine E7 Tryz.func158 fun W=>?_;refine Eu 1 (Ai []) rfl C0 ?_;refine Fx [9] (fun k:Nat=>[(6,.c (vi k))]) (fun k=>[⟨0,[.c (At g.ak),.c (vi g.aq),.c (vi g.cap)]⟩]) (fun k=>[⟨1,Ai ((l.take k).filter (B0g g))⟩]) (fun k=>k≤l.length) (fun k=>l.length-k) fun k hk=>?_;refine B4 ?_;refine Dv (fun h=>?_) fun h=>?_
 ·have h:k<l.length:=by omega
  have hs:=Er (B0g g) l k h;have hb:=E8 (B0g g) l k;rw [C1t g (l.getD k default)] at hs;refine J3 rfl (E5 1 rfl (E5 2 rfl ?_));refine On 0 ?_;refine On 3 ?_;refine E5 4 rfl ?_;refine On 5 ?_;refine zt2 6 10 ?_ ?_
  focus
   refine Gf (Ul g (l.getD k default).op hg) ?_;refine Ec (E5 7 rfl ?_);refine zoF 8 ?_;refine zoF 9 ?_;refine splitB [10] Am ⟨?_,trivial⟩;refine Em ?_;refine Ec ?_
  rotate_left 1
  focus
   refine B4 ?_;refine Ec ?_;refine splitB [6] Am ⟨?_,trivial⟩;refine Ah ?_;refine Gf (Ul g (l.getD k default).op hg) ?_;refine Ec (E5 7 rfl ?_);refine zoF 8 ?_;refine zoF 9 ?_
  all_goals
   refine splitB [11] Am ⟨?_,trivial⟩;refine Em ?_;refine Ec (E5 12 rfl ?_);refine A0z Am (Ah ?_)
  all_goals
   refine C1 (fun h1=>?_) fun h1=>?_
   ·refine As ?_
    refine C1 (fun h8=>?_) fun h8=>?_
    ·refine B4 ?_
     refine B6 A0 rfl (Ai ((l.take k).filter (B0g g)++[l.getD k default])) (Ao rfl) Hd A7 (Em ?_);refine Cc [(1,5)] (k+1) A7 A7 ⟨rfl,trivial⟩ ⟨A6 Ai (by rw [hs,h1,h8];rfl),trivial⟩
    refine B4 ?_;refine Cc [] (k+1) A7 A7 ⟨rfl,trivial⟩ ⟨A6 Ai (by rw [hs,h1,h8];simp),trivial⟩
   refine As ?_;refine Cc [] (k+1) A7 A7 ⟨rfl,trivial⟩ ⟨A6 Ai (by rw [hs,h1];simp),trivial⟩
 refine B4 ?_;refine An A0 rfl rfl ⟨?_,trivial⟩;exact A6 (fun l=>Ai (List.filter _ l)) (Ej _ k A7)
set_option maxHeartbeats 1000000 in
theorem B3h (g:B0)(l:List Ad)(hg:g.w≤16777216)(hl:l.length≤16777216):Di 163 [.agg g.c,.one (Ai l)] [.one (Ai (Ei g l))]:=by
 refine E7 Tryz.func163 fun W=>?_;refine U5 5 4 (fun i=>Ad.c (([]:List Ad).getD i default)) rfl ?_;refine Fx [] (fun k:Nat=>[(10,.c (vi k))]) (fun k=>[⟨0,[.c (At g.ak),.c (vi g.aq),.c (vi g.cap)]⟩]) (fun k=>[⟨1,Ai ((l.take k).filter (B0g g))⟩]) (fun k=>k≤l.length) (fun k=>l.length-k) fun k hk=>?_;conv=>whnf
 refine Dv (fun h=>?_) fun h=>?_
 ·have h:k<l.length:=by omega
  have hs:=Er (B0g g) l k h;have hb:=E8 (B0g g) l k;rw [C1t g (l.getD k default)] at hs;refine B4 ?_;refine Fp (Tx g (l.getD k default).op hg) ?_;refine C1 (fun h1=>?_) fun h1=>?_
  ·have h2:=Go.Sx.Cl.1 h1
   rw [Qj,Ak h1] at hs;refine As ?_;refine C1 (fun h8=>?_) fun h8=>?_
   ·have h8:((Ac g (l.getD k default).op).kind==8)=true:=h8
    refine B4 ?_;refine B6 A0 rfl (Ai ((l.take k).filter (B0g g)++[l.getD k default])) (Ao rfl) Hd A7 (Em ?_);refine Cc [(1,4)] (k+1) A7 A7 ⟨rfl,trivial⟩ ⟨A6 Ai (by rw [hs,h8];rfl),trivial⟩
   have h8:((Ac g (l.getD k default).op).kind==8)=false:=h8;refine B4 ?_;refine Cc [] (k+1) A7 A7 ⟨rfl,trivial⟩ ⟨A6 Ai (by rw [hs,h8];simp),trivial⟩
  have hn:¬ E4 (l.getD k default).op 0 (g.ak.length-1)=true:=by rw [h1];decide
  rw [Qj,Ab hn] at hs;refine As ?_;refine Cc [] (k+1) A7 A7 ⟨rfl,trivial⟩ ⟨A6 Ai (by rw [hs];simp),trivial⟩
 refine B4 ?_;refine An A0 rfl rfl ⟨?_,trivial⟩;exact A6 (fun l=>Ai (List.filter _ l)) (Ej _ k A7)
theorem Pw {g:B0}{l:List Ad}(h:l.length≤n):(Ei g l).length≤n:=Fk (Nr _ _) h
theorem A4h (x:A3)(e:Int):Eh x e=(Ei x.az (Ea x)).filter (fun y=>y.ab==e):=rfl
theorem Tw {x:A3}(h:x.w≤n):x.az.w≤n:=by simp only [A3.w] at h;omega
set_option maxHeartbeats 1000000 in
theorem B4m (x:A3)(e:Int)(hx:x.w≤16000000):Di 100 [.agg x.c,.one (vi e)] [.one (Ai (Eh x e))]:=by
 have hc:=Mg hx;have ho:=Pw (g:=x.az) hc;have hg:=Tw hx;refine E7 Tryz.func100 fun W=>?_;refine Eu 1 (Ai []) rfl C0 ?_
 first|(refine Aj 2 rfl [0,1,2,3,4,5] Am (Ah ?_))
 refine Gf (B7t x hx) ?_;refine Gf (B4n x.az (Ea x) A7 A7) ?_;rw [A4h];refine Fx [8] (fun k:Nat=>[(7,.c (vi k))]) (fun k=>[]) (fun k=>[⟨3,Ai (Ei x.az (Ea x))⟩,⟨1,Ai (((Ei x.az (Ea x)).take k).filter (fun y=>y.ab==e))⟩]) (fun k=>k≤(Ei x.az (Ea x)).length) (fun k=>(Ei x.az (Ea x)).length-k) fun k hk=>?_;refine B4 ?_;refine Dv (fun h=>?_) fun h=>?_
 ·have h:k<(Ei x.az (Ea x)).length:=by omega
  have hs:=Er (fun y:Ad=>y.ab==e) (Ei x.az (Ea x)) k h;have hb:=E8 (fun y:Ad=>y.ab==e) (Ei x.az (Ea x)) k;refine B4 ?_;refine C1 (fun h1=>?_) fun h1=>?_
  ·rw [Bv] at h1
   refine B4 ?_;refine B6 A0 rfl (Ai (((Ei x.az (Ea x)).take k).filter (fun y=>y.ab==e)++[(Ei x.az (Ea x)).getD k default])) (Ao rfl) Hd A7 (Em ?_);refine Cc [(1,5)] (k+1) A7 A7 ⟨rfl,trivial⟩ ⟨rfl,A6 Ai (by rw [hs,Ak h1]),trivial⟩
  rw [Bv] at h1;refine B4 ?_;refine Cc [] (k+1) A7 A7 ⟨rfl,trivial⟩ ⟨rfl,A6 Ai (by rw [hs,Ab (by rw [h1];decide),I4]),trivial⟩
 refine B4 ?_;refine An A0 rfl rfl ⟨?_,trivial⟩;exact A6 (fun l=>Ai (List.filter _ l)) (Ej _ k A7)
set_option maxHeartbeats 1000000 in
theorem B3g (x:A3)(e:Int)(hx:x.w≤16000000):Di 105 [.agg x.c,.one (vi e)] [.one (Ai (Eh x e))]:=by
 have hc:=Mg hx;have ho:=Pw (g:=x.az) hc;have hg:=Tw hx;refine E7 Tryz.func105 fun W=>?_;refine U5 5 4 (fun i=>Ad.c (([]:List Ad).getD i default)) rfl ?_
 first|(refine Aj 2 rfl [0,1,2,6,3,4,5] Am (Ah ?_))
 refine Gf (B56 x hx) ?_;refine Gf (B3h x.az (Ea x) A7 A7) ?_;rw [A4h];refine Fx [] (fun k:Nat=>[(14,.c (vi k))]) (fun k=>[]) (fun k=>[⟨3,Ai (Ei x.az (Ea x))⟩,⟨1,Ai (((Ei x.az (Ea x)).take k).filter (fun y=>y.ab==e))⟩]) (fun k=>k≤(Ei x.az (Ea x)).length) (fun k=>(Ei x.az (Ea x)).length-k) fun k hk=>?_;conv=>whnf
 refine Dv (fun h=>?_) fun h=>?_
 ·have h:k<(Ei x.az (Ea x)).length:=by omega
  have hs:=Er (fun y:Ad=>y.ab==e) (Ei x.az (Ea x)) k h;have hb:=E8 (fun y:Ad=>y.ab==e) (Ei x.az (Ea x)) k;refine B4 ?_;refine C1 (fun h1=>?_) fun h1=>?_
  ·rw [Bv] at h1
   refine B4 ?_;refine B6 A0 rfl (Ai (((Ei x.az (Ea x)).take k).filter (fun y=>y.ab==e)++[(Ei x.az (Ea x)).getD k default])) (Ao rfl) Hd A7 (Em ?_);refine Cc [(1,6)] (k+1) A7 A7 ⟨rfl,trivial⟩ ⟨rfl,A6 Ai (by rw [hs,Ak h1]),trivial⟩
  rw [Bv] at h1;refine B4 ?_;refine Cc [] (k+1) A7 A7 ⟨rfl,trivial⟩ ⟨rfl,A6 Ai (by rw [hs,Ab (by rw [h1];decide),I4]),trivial⟩
 refine B4 ?_;refine An A0 rfl rfl ⟨?_,trivial⟩;exact A6 (fun l=>Ai (List.filter _ l)) (Ej _ k A7)
def Rm (k v:Int):Prop:=(0≤k∧k≤99)∧(0≤v∧v≤999)
instance (k v:Int):Decidable (Rm k v):=by unfold Rm;infer_instance
def Bd (x:C3) (k v:Int):Int×Int×Bool:=
 if Jg x∧Rm k v then
  (if x.kind=2 then (k,if v+x.a<999 then v+x.a else 999,true)
  else if x.kind=4 then ((k+x.a).tmod 100,v,true)
  else if x.kind=3 then (k,v,k.tmod x.a==x.b)
  else (k,v,x.kind !=8))
 else (k,v,false)
def Br (s:Iz):Iz×Bool:=if Jr s=true∧s.turn<6 then (⟨s.ab,s.turn+1⟩,true) else (s,false)
def Pc (g:B0) (r:Aa):Prop:=Gw g∧H5 r∧r.op<g.ak.length
instance (g:B0) (r:Aa):Decidable (Pc g r):=by unfold Pc;infer_instance
def Uy (g:B0) (r:Aa):List Aa:=
 if (Ac g r.op).kind=7∧(Br r.af).2=false then []
 else (Ac g r.op).ax.map fun k=>⟨k,if (Ac g r.op).kind=7 then (Br r.af).1 else r.af,(Bd (Ac g r.op) r.key r.val).1,(Bd (Ac g r.op) r.key r.val).2.1⟩
def Fu (r:Aa):Ad:=⟨r.op,r.af.ab,r.key,r.val⟩
def H2 (g:B0) (cs:List Ad) (r:Aa):List Ad×List Aa×Bool:=
 if Pc g r then
  (if (Bd (Ac g r.op) r.key r.val).2.2=false∧(Ac g r.op).kind≠8 then (cs,[],true)
  else if (Cz (Ac g r.op).kind cs (Fu r)).2=false then ((Cz (Ac g r.op).kind cs (Fu r)).1,[],true)
  else ((Cz (Ac g r.op).kind cs (Fu r)).1,Uy g r,true))
 else (cs,[],false)
def ao (g:B0) (r:Aa):Bool:=decide (Pc g r∧(Ac g r.op).kind=7∧(Ac g r.op).ax.length>0∧(Br r.af).2=false)
def B48 (l:D5) (r:Aa):Prop:=Hv l∧H5 r∧l.bv≠0∧l.bj≠1000000000
instance (l:D5) (r:Aa):Decidable (B48 l r):=by unfold B48;infer_instance
def D8 (l:D5) (r:Aa):D5×Bool:=if B48 l r then (⟨l.cap,l.ar++[r],l.bv-1,l.back,l.bj+1,l.got⟩,true) else (l,false)
def Bp (l:D5):D5×Aa×Bool:=
 if Hv l∧0<l.ar.length then (⟨l.cap,l.ar.drop 1,l.bv,l.back+1,l.bj,l.got+1⟩,l.ar.getD 0 default,true) else (l,default,false)
def Et (l:D5):D5×Bool:=if Hv l∧l.back≠0 then (⟨l.cap,l.ar,l.bv+1,l.back-1,l.bj,l.got⟩,true) else (l,false)
def A3s (g:B0) (w:Ae):Prop:=Gw g∧Cw g.ak.length w∧w.aa.length=0∧0<w.ar.length
instance (g:B0) (w:Ae):Decidable (A3s g w):=by unfold A3s;infer_instance
def Pb (g:B0) (w:Ae):Ae:=
 ⟨w.ar.drop 1,(H2 g w.cells (w.ar.getD 0 default)).2.1,w.au,(H2 g w.cells (w.ar.getD 0 default)).1,w.al,w.ah,if ao g (w.ar.getD 0 default)=true then w.ai.set (w.ar.getD 0 default).af.ab.toNat true else w.ai,w.an⟩
def Me (g:B0) (w:Ae):Ae×Bool:=if A3s g w then (Pb g w,true) else (w,false)
def Ve (g:B0) (w:Ae):Prop:=Gw g∧Cw g.ak.length w∧w.aa.length=0∧w.ar.length=0∧0<w.au.length
instance (g:B0) (w:Ae):Decidable (Ve g w):=by unfold Ve;infer_instance
def Q7 (w:Ae):Ae:=⟨w.ar++[w.au.getD 0 default],w.aa,w.au.drop 1,w.cells,w.al,w.ah,w.ai,w.an⟩
def H9 (g:B0) (w:Ae):Ae×Bool:=if Ve g w then (Q7 w,true) else (w,false)
def Ew (w:Ae):Ae:=⟨w.ar,w.aa.drop 1,w.au,w.cells,w.al,w.ah,w.ai,w.an⟩
def Wq (w:Ae):Ae×Aa×Bool:=if 0<w.aa.length then (Ew w,w.aa.getD 0 default,true) else (w,default,false)
def kept (w:Ae) (r:Aa):Ae:=⟨w.ar++[r],w.aa,w.au,w.cells,w.al,w.ah,w.ai,w.an⟩
def Iv (w:Ae) (e n:Int):Ae:=⟨w.ar,w.aa,w.au,w.cells,w.al.set e.toNat (w.al.getD e.toNat default+n),w.ah,w.ai,w.an⟩
def Q9 (w:Ae) (e:Int):Ae:=⟨w.ar,w.aa,w.au,w.cells,w.al,w.ah.set e.toNat true,w.ai,w.an⟩
def Im (w:Ae) (r:Aa):Ae:=
 if 0≤r.af.ab∧r.af.ab<w.al.length∧r.af.ab<w.ah.length then Q9 (Iv (kept w r) r.af.ab (-1)) r.af.ab else kept w r
def Jz (w:Ae) (e:Int):Ae:=if 0≤e∧e<w.al.length then Iv w e 1 else w
def Dd (c:A3) (k:Int) (l:D5):A3:=⟨c.az,c.aq,c.ay.set k.toNat l,c.ap,c.ac⟩
def Bg (c:A3) (k:Int):D5:=c.ay.getD k.toNat default
def I6 (c:A3) (w:Int):Prop:=Ax c∧0≤w∧w<c.aq.length
instance (c:A3) (w:Int):Decidable (I6 c w):=by unfold I6;infer_instance
def Fy (c:A3) (w:Int):A3×Bool:=if I6 c w then (Be c w (Me c.az (A8 c w)).1,(Me c.az (A8 c w)).2) else (c,false)
def Ez (c:A3) (w:Int):A3×Bool:=if I6 c w then (Be c w (H9 c.az (A8 c w)).1,(H9 c.az (A8 c w)).2) else (c,false)
def B2 (c:A3) (w:Int):Aa:=(A8 c w).aa.getD 0 default
def B1 (c:A3) (w:Int):Int:=Ev (B2 c w).key c.az.aq
def Ar (c:A3) (f t:Int):Int:=f * c.az.aq+t
def Ck (c:A3) (w:Int):A3×Bool:=
 if I6 c w∧0<(A8 c w).aa.length then
  (if B1 c w=w then (Be c w (kept (Ew (A8 c w)) (B2 c w)),true)
  else if (D8 (Bg c (Ar c w (B1 c w))) (B2 c w)).2=true then
   (Be (Dd c (Ar c w (B1 c w)) (D8 (Bg c (Ar c w (B1 c w))) (B2 c w)).1) w (Jz (Ew (A8 c w)) (B2 c w).af.ab),true)
  else (c,false))
 else (c,false)
def P5 (c:A3) (f t:Int):Prop:=Ax c∧f≠t∧(0≤f∧f<c.az.aq)∧(0≤t∧t<c.az.aq)
instance (c:A3) (f t:Int):Decidable (P5 c f t):=by unfold P5;infer_instance
def E9 (c:A3) (f t:Int):A3×Bool:=
 if P5 c f t∧(Bp (Bg c (Ar c f t))).2.2=true then
  (Be (Dd c (Ar c f t) (Bp (Bg c (Ar c f t))).1) t (Im (A8 c t) (Bp (Bg c (Ar c f t))).2.1),true)
 else (c,false)
def F6 (c:A3) (f t:Int):A3×Bool:=
 if P5 c f t then (Dd c (Ar c f t) (Et (Bg c (Ar c f t))).1,(Et (Bg c (Ar c f t))).2) else (c,false)
def K8 (w:Int) (x:De):Bool:=x.to_==w
def P7 (c:A3) (w:Int):Nat:=Hy (K8 w) c.ac
def V0 (c:A3) (w:Int):A3:=⟨c.az,c.aq,c.ay,c.ap,c.ac.eraseIdx (P7 c w)⟩
def Ga (c:A3) (w:Int):De:=c.ac.getD (P7 c w) default
def Fv (c:A3) (w:Int):A3×Bool:=
 if Ax c∧c.ac.any (K8 w)=true then
  (if Kr (A8 c w) (Ga c w).ab=true then V0 c w else Be (V0 c w) w (Jw (A8 c w) ⟨(Ga c w).ab,(Ga c w).ao⟩),true)
 else (c,false)
def Ap (c:A3) (p:Do):A3×Bool:=
 if p.kind=1 then Fy c p.a else if p.kind=2 then Ez c p.a else if p.kind=3 then Ck c p.a else if p.kind=4 then E9 c p.a p.b
 else if p.kind=5 then F6 c p.a p.b else if p.kind=6 then D0 c p.a else if p.kind=7 then Fv c p.a else (c,false)
def J9 (s:A3×List Bool) (p:Do):A3×List Bool:=((Ap s.1 p).1,s.2++[(Ap s.1 p).2])
def Ay (c:A3) (l:List Do):A3×List Bool:=l.foldl J9 (c,[])
def Iw (c:A3):Nat:=(Cs c.az.aq 0 4).toNat
def Ca (c:A3):A3×Nat:=((Ay c (Qy (Iw c))).1,((Ay c (Qy (Iw c))).2.filter id).length)
def Eb:Nat→A3→A3×Nat
 | 0,c=>(c,0)
 |n+1,c=>if (Ca c).2=0 then ((Ca c).1,1) else ((Eb n (Ca c).1).1,(Eb n (Ca c).1).2+1)
def A44 (g:B0) (l:List Aa):Prop:=Gw g∧l.length≤20∧∀r∈l,H5 r∧r.op=0∧r.af.turn=0
instance (g:B0) (l:List Aa):Decidable (A44 g l):=by unfold A44;infer_instance
def B9y (n:Int) (l:List Aa) (w:Nat):List Aa:=(List.range 4).flatMap fun (e:Nat)=>(Ff l e).filter fun r=>Ev r.key n==w
def H8 (n:Int):D5:=⟨Cs n 1 4,[],Cs n 1 4,0,0,0⟩
def El (n:Int) (l:List Aa) (k:Nat):List Ae:=(List.range k).map fun w=>⟨[],[],B9y n l w,[],List.replicate 4 0,List.replicate 4 false,List.replicate 4 false,[]⟩
def Lb:A3:=⟨⟨[],0,0⟩,[],[],[],[]⟩
def Bh (g:B0) (l:List Aa):A3×Bool:=
 if A44 g l then (⟨g,El g.aq l g.aq.toNat,List.replicate (g.aq.toNat * g.aq.toNat) (H8 g.cap),List.replicate 4 default,[]⟩,true) else (Lb,false)
variable {s : Iz}
theorem A1j (h:Jr s=false):Br s=(s,false):=by
 unfold Br;rw [Ab (fun p=>by rw [p.1] at h;cases h)]
theorem A1k (h:¬ s.turn<6):Br s=(s,false):=by
 unfold Br;rw [Ab (fun p=>h p.2)]
theorem A1l (h1:Jr s=true)(h2:s.turn<6):Br s=(⟨s.ab,s.turn+1⟩,true):=by
 unfold Br;rw [Ak ⟨h1,h2⟩]
theorem B73 (h:Jr s=true):(0≤s.ab∧s.ab≤3)∧0≤s.turn∧s.turn≤6:=Bn h
theorem A15 (s:Iz):Di 278 [.agg s.c] [.agg (Br s).1.c,.one (vb (Br s).2)]:=by
 refine E7 Tryz.func278 fun W=>?_;refine Fp (A40 s) ?_;refine C1 (fun h1=>?_) fun h1=>?_
 ·have h1:Jr s=false:=by simpa using h1
  refine As ?_;rw [A1j h1];exact D4
 have h1:Jr s=true:=by simpa using h1
 have hb:=B73 h1;refine As ?_;refine C1 (fun h2=>?_) fun h2=>?_
 ·have h2:s.turn≥6:=Bn h2
  refine As ?_;rw [A1k A7];exact D4
 have h2:¬ s.turn≥6:=Cv h2;refine As ?_;rw [A1l h1 A7];exact D4
theorem Tz (s:Iz):Di 308 [.agg s.c] [.agg (Br s).1.c,.one (vb (Br s).2)]:=by
 refine E7 Tryz.func308 fun W=>?_;refine Fp (A36 s) ?_;refine C1 (fun h1=>?_) fun h1=>?_
 ·have h1:Jr s=false:=by simpa using h1
  refine As ?_;rw [A1j h1];exact D4
 have h1:Jr s=true:=by simpa using h1
 have hb:=B73 h1;refine As ?_;refine Lf (fun h2=>?_) fun h2=>?_
 ·refine As ?_
  rw [A1k A7];exact D4
 refine As ?_;rw [A1l h1 A7];exact D4
theorem C8f (a b:Int):Di 312 [.one (vi a),.one (vi b)] [.one (vi (if b<a then b else a))]:=by
 refine E7 Tryz.func312 fun W=>?_;refine Dv (fun h=>?_) fun h=>?_
 ·rw [Ak h]
  exact D4
 rw [Ab h];exact D4
theorem Yu (k:Int):Di 276 [.one (vi k)] [.one (vb (decide (k=5∨k=6∨k=8)))]:=by
 refine E7 Tryz.func276 fun W=>?_;refine Lf (fun h5=>?_) fun h5=>?_
 ·refine As ?_
  exact An A0 rfl rfl ⟨A6 vb (by simp [h5]),trivial⟩
 refine As ?_;refine Lf (fun h6=>?_) fun h6=>?_
 ·refine As ?_
  exact An A0 rfl rfl ⟨A6 vb (by simp [h6]),trivial⟩
 refine As ?_;exact An A0 rfl rfl ⟨A6 vb (by simp [h5,h6];rfl),trivial⟩
variable {x : C3} {k : Int} {v : Int}
theorem Qa (h:¬ (Jg x∧Rm k v)):Bd x k v=(k,v,false):=Ab h
theorem C25 (h:Jg x∧Rm k v)(h2:x.kind=2):Bd x k v=(k,if 999<v+x.a then 999 else v+x.a,true):=by
 rw [Bd,Ak h,Ak h2]
 congr 2
 by_cases h3:999<v+x.a
 ·rw [Ak h3,Ab A7]
 rw [Ab h3]
 split<;>omega
theorem B8z (h:Jg x∧Rm k v)(h2:x.kind=2):Bd x k v=(k,if v+x.a<999 then v+x.a else 999,true):=by
 rw [Bd,Ak h,Ak h2]
theorem B09 (h:Jg x∧Rm k v)(h2:x.kind=4):Bd x k v=((k+x.a).tmod 100,v,true):=by
 rw [Bd,Ak h,Ab A7,Ak h2]
theorem B08 (h:Jg x∧Rm k v)(h2:x.kind=3):Bd x k v=(k,v,k.tmod x.a==x.b):=by
 rw [Bd,Ak h,Ab A7,Ab A7,Ak h2]
theorem B1a (h:Jg x∧Rm k v)(h2:x.kind≠2)(h4:x.kind≠4)(h3:x.kind≠3):Bd x k v=(k,v,x.kind !=8):=by
 rw [Bd,Ak h,Ab h2,Ab h4,Ab h3]
theorem B7v (x:C3)(k v:Int)(hx:x.w≤16777216):Di 275 [.agg x.c,.one (vi k),.one (vi v)] [.one (vi (Bd x k v).1),.one (vi (Bd x k v).2.1),.one (vb (Bd x k v).2.2)]:=by
 refine E7 Tryz.func275 fun W=>?_;refine Fp (Zx x hx) ?_;refine C1 (fun h1=>?_) fun h1=>?_
 ·have h1:Lj x=false:=by simpa using h1
  refine As ?_;rw [Qa (fun p=>absurd p.1 (Cv h1))];exact D4
 have h1:Lj x=true:=by simpa using h1
 refine As ?_;refine Aq (Hg k 0 99) rfl (Gu ?_);refine C1 (fun h2=>?_) fun h2=>?_
 ·have h2:E4 k 0 99=false:=by simpa using h2
  refine As ?_;rw [Qa (fun p=>Go.Sx.Gd.1 h2 p.2.1)];exact D4
 have h2:E4 k 0 99=true:=by simpa using h2
 refine As ?_;refine Aq (Hg v 0 999) rfl (Gu ?_);refine C1 (fun h3=>?_) fun h3=>?_
 ·have h3:E4 v 0 999=false:=by simpa using h3
  refine As ?_;rw [Qa (fun p=>Go.Sx.Gd.1 h3 p.2.2)];exact D4
 have h3:E4 v 0 999=true:=by simpa using h3
 have hI:Rm k v:=⟨Go.Sx.Cl.1 h2,Go.Sx.Cl.1 h3⟩;have hN:Jg x:=Bn h1;have hk:=hI.1;have hv:=hI.2;refine As ?_;refine Lf (fun k2=>?_) fun k2=>?_
 ·have ha:=hN.2.1 k2
  refine As ?_;refine Fp (C8f (v+x.a) 999) ?_;rw [C25 ⟨hN,hI⟩ k2];exact D4
 refine As ?_;refine Lf (fun k4=>?_) fun k4=>?_
 ·have ha:=hN.2.2.2.1 k4
  refine As ?_;rw [B09 ⟨hN,hI⟩ k4];exact D4
 refine As ?_;refine Lf (fun k3=>?_) fun k3=>?_
 ·have ha:=hN.2.2.1 k3
  refine As ?_
  first|(refine Aj 9 rfl [0,1,2,3,4,5,6,7,8,9,10,11] Am (Ah ?_))|(refine Aj 10 rfl [0,1,2,3,4,5,6,7] Am (Ah ?_))
  refine B4 ?_;rw [B08 ⟨hN,hI⟩ k3];exact D4
 refine As ?_
 first|(refine Aj 9 rfl [0,1,2,3,4,5,6,7,8,9,10,11] Am (Ah ?_))|(refine Aj 10 rfl [0,1,2,3,4,5,6,7] Am (Ah ?_))
 rw [B1a ⟨hN,hI⟩ k2 k4 k3];exact D4
theorem B58 (x:C3)(k v:Int)(hx:x.w≤16777216):Di 306 [.agg x.c,.one (vi k),.one (vi v)] [.one (vi (Bd x k v).1),.one (vi (Bd x k v).2.1),.one (vb (Bd x k v).2.2)]:=by
 refine E7 Tryz.func306 fun W=>?_;refine Fp (U0 x hx) ?_;refine C1 (fun h1=>?_) fun h1=>?_
 ·have h1:Lj x=false:=by simpa using h1
  refine As ?_;rw [Qa (fun p=>absurd p.1 (Cv h1))];exact D4
 have h1:Lj x=true:=by simpa using h1
 refine As ?_;refine Aq (A7f k v) rfl (Gu ?_);refine C1 (fun h2=>?_) fun h2=>?_
 ·have h2:decide ((0≤k∧k≤99)∧(0≤v∧v≤999))=false:=(Mq _).mp h2
  refine As ?_;rw [Qa (fun p=>absurd p.2 (Cv h2))];exact D4
 have hI:Rm k v:=Bn (show decide ((0≤k∧k≤99)∧(0≤v∧v≤999))=true from (Us _).mp h2)
 have hN:Jg x:=Bn h1;have hk:=hI.1;have hv:=hI.2;refine As ?_;refine Lf (fun k2=>?_) fun k2=>?_
 ·have ha:=hN.2.1 k2
  refine As ?_
  first|(refine Aj 5 rfl [0,1,2,3,4,5,6,7,8] Am (Ah ?_))|(refine Aj 9 rfl [0,1,2,3,4,5,6,7,8,9,10,11] Am (Ah ?_))|(refine Aj 10 rfl [0,1,2,3,4,5,6,7] Am (Ah ?_))
  refine B4 ?_;rw [B8z ⟨hN,hI⟩ k2];exact D4
 refine As ?_;refine Lf (fun k4=>?_) fun k4=>?_
 ·have ha:=hN.2.2.2.1 k4
  refine As ?_;rw [B09 ⟨hN,hI⟩ k4];exact D4
 refine As ?_;refine Lf (fun k3=>?_) fun k3=>?_
 ·have ha:=hN.2.2.1 k3
  refine As ?_
  first|(refine Aj 5 rfl [0,1,2,3,4,5,6,7,8] Am (Ah ?_))|(refine Aj 9 rfl [0,1,2,3,4,5,6,7,8,9,10,11] Am (Ah ?_))|(refine Aj 10 rfl [0,1,2,3,4,5,6,7] Am (Ah ?_))
  refine B4 ?_;rw [B08 ⟨hN,hI⟩ k3];exact D4
 refine As ?_
 first|(refine Aj 5 rfl [0,1,2,3,4,5,6,7,8] Am (Ah ?_))|(refine Aj 9 rfl [0,1,2,3,4,5,6,7,8,9,10,11] Am (Ah ?_))|(refine Aj 10 rfl [0,1,2,3,4,5,6,7] Am (Ah ?_))
 rw [B1a ⟨hN,hI⟩ k2 k4 k3];exact D4
end Go.Proofs.YtmhcebdkjgkmlaaGreatDoor
