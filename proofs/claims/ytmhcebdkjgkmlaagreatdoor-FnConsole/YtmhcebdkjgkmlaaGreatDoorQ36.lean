/- Part 36 of the proof that each of the laws FnConsole returns true for every input. No conditions. -/
import Derived.Test.YtmhcebdkjgkmlaaGreatDoorQ35

set_option linter.unusedSimpArgs false
set_option linter.unusedVariables false
set_option maxRecDepth 100000
namespace Go.Proofs.YtmhcebdkjgkmlaaGreatDoor
open Go.Sx
theorem D0k {x:C3}(o:x.ok)(h:A2k x):(Dz x).size≤300:=by
 have h0:=Na x o;have h1:=U6 (C8 x.kind++(⟨#[32]⟩:ByteArray)++I9 x.a++(⟨#[32]⟩:ByteArray)++I9 x.b) x.ax o.2.2.2.2 x.ax.length (Ds _);have h2:=h.2.2.2.1;rw [H4] at h1;rw [Dz]
 split
 ·rw [Gr,Qk]
  show 5+_≤300
  omega
 exact Fe _
theorem C6z {x:Aa}(h:x.ok):(Dx x).size≤300:=by
 have h1:=B8 h.2.1.1;have h2:=B8 h.2.2.1;have h3:=B8 h.2.2.2;rw [Dx]
 split
 ·simp only [Gr,bsz,Gq,Fb,H3]
  omega
 exact Fe _
theorem A5r (xs:List ByteArray)(k n:Nat)(h:∀x∈xs,x.size≤n):(xs.getD k default).size≤n:=A68 (p:=fun w:ByteArray=>w.size≤n) xs k default h (Fe _)
theorem D0t {x:Do}(h:x.ok):(F7 x).size≤300:=by
 have h1:=B8 h.2.1;have h2:=B8 h.2.2;have h3:(Kt x.kind).size≤6:=A5r _ _ 6 Bq;rw [F7]
 split
 ·split
  ·simp only [Gr,bsz,Gq,Fb,H3]
   omega
  simp only [Gr,bsz,Gq,Fb,H3];omega
 decide
theorem C6p {g:B0}(o:g.ok):(Gj g).size≤300:=by
 have h1:=B8 o.2.1;have h2:=B8 o.2.2;rw [Gj]
 split
 ·simp only [Gr,bsz,Gq,Fb,H3]
  omega
 exact Fe _
theorem B6q {s:C7}(o:s.ok)(hn:B2r s.az.ak):∀l∈Io s,l.size≤300:=by
 intro l hl;rw [Io] at hl
 rcases Ki.1 hl with hl|hl
 ·rcases Ki.1 hl with hl|hl
  ·rcases Ki.1 hl with hl|hl
   ·rcases Ki.1 hl with hl|hl
    ·rw [I3.1 hl]
     exact C6p o.1
    obtain ⟨x,hx,rfl⟩:=Fm.1 hl;exact D0k (o.1.1.2 x hx) (hn x hx)
   obtain ⟨x,hx,rfl⟩:=Fm.1 hl;exact C6z (o.2.1.2 x hx)
  obtain ⟨x,hx,rfl⟩:=Fm.1 hl;exact D0t (o.2.2.1.2 x hx)
 split at hl
 ·rw [I3.1 hl,Gr]
  have:=B8 o.2.2.2
  show 5+_≤300
  omega
 cases hl
theorem B1y {m:Nat}{s:C7}(h:D1u m s):(Io s).length≤14+m:=by
 have h1:=h.1.1.2.2.1.2;have h2:=h.2.1.1;have h3:=h.2.2.1.1;rw [Io]
 split<;>simp<;>omega
theorem B5o (d:Kd)(i h:Int)(xs:List ByteArray)(hi:0≤i∧i≤d.n)(hx:0<xs.length∧xs.length≤1000):MtR HT 139 d.pins (d.cur i h) [.one (C6 xs)] (fun r:Int×Int×Nat=>(0≤r.1∧r.1≤d.n)∧r.2.2<xs.length) (fun r=>d.cur r.1 r.2.1) (fun r=>[.one (vs (xs.getD r.2.2 default))]):=by
 refine zeP Tryz.func139 fun B b hH hp=>?_;refine M4 (Ef d i h xs.length hi A7) hH hp fun r hr=>?_;refine B4 ?_;exact Mw A0 (r.1,r.2.1,r.2.2.toNat) ⟨hr.1,by have:=hr.2.2.2 A7;show r.2.2.toNat<_;omega⟩ rfl rfl rfl rfl J0
def Pe (m k:Nat):List UInt8:=List.replicate k 10++List.replicate (m-k) 0
theorem B1g {m k:Nat}(h:k≤m):(Pe m k).length=m:=by
 rw [Pe,D3,Pl,Pl];omega
theorem C3o {m k:Nat}(h:k<m):(Pe m k).set k 10=Pe m (k+1):=by
 rw [Pe,Pe,List.set_append_right _ _ (by rw [Pl];exact Ds _),Pl,Nat.sub_self,show m-k=(m-(k+1))+1 by omega,List.replicate_succ,List.set_cons_zero,List.replicate_succ',Cr]
 rfl
theorem C8g (m:Nat)(h:m≤12001):Di 140 [.one (vi m),.one (.val (.int .u8 10))] [.one (vs ⟨(Pe m m).toArray⟩)]:=by
 refine E7 Tryz.func140 fun W=>?_;refine B4 ?_;refine Eu 0 (Kf (List.replicate m 0)) rfl (C24 (α:=UInt8) (e:=fun b=>[vy b]) m ⟨.inl rfl,trivial⟩) ?_;refine Fx [8] (fun k:Nat=>[(6,.c (vi k))]) (fun k=>[]) (fun k=>[⟨0,Kf (Pe m k)⟩]) (fun k=>k≤m) (fun k=>m-k) fun k hk=>?_;refine Dv (fun h'=>?_) fun h'=>?_
 ·have h':k<m:=by omega
  have hl:=B1g (m:=m) (k:=k) A7;refine B4 ?_;refine Bi (j:=(k:Int)) A0 rfl _ (Cm (j:=k) (xs:=Pe m k) (e:=fun b=>[vy b]) (x:=10) A7 (by exact rfl)) (Em ?_);refine Cc [] (k+1) A7 A7 ⟨rfl,trivial⟩ ⟨A6 Kf (C3o h'),trivial⟩
 have e:k=m:=by omega
 refine C8q A0 rfl (Pe m k) rfl (Ah ?_);exact An A0 rfl rfl ⟨A6 (fun k=>vs ⟨(Pe m k).toArray⟩) e.symm,trivial⟩
structure JTx where
 k:Nat
 i:Int
 h:Int
 s:ByteArray
set_option maxHeartbeats 4000000 in
theorem C08 (d:Kd)(i h:Int)(hi:0≤i∧i≤d.n):MtR HT 78 d.pins (d.cur i h) [] (fun r:Int×Int×ByteArray=>(0≤r.1∧r.1≤d.n)∧r.2.2.size≤100000) (fun r=>d.cur r.1 r.2.1) (fun r=>[.one (vs r.2.2)]):=by
 refine zeP Tryz.func78 fun B b hH hp=>?_;refine M4 (B1b d i h 30 Bq hi) hH hp fun r hr=>?_;have hk:=C15 hr.2 Bq;have hsm:=B6q hk.1 hr.2.1.1.2.1;have hfe:=B1y hr.2;refine Fp (V3 r.2.2 hk.1 A7) ?_;generalize Io r.2.2=L at hsm hfe ⊢;refine zlW [] (fun j:JTx=>[(3,.c (vs j.s)),(5,.c (vi j.k))]) (fun j=>[⟨0,[.c (.val d.v),.c (vi j.i),.c (vi j.h)]⟩]) (fun j=>[]) (fun j=>(0≤j.i∧j.i≤d.n)∧j.k≤L.length∧j.s.size≤400 * j.k) (fun j=>L.length-j.k) (⟨0,r.1,r.2.1,(⟨#[]⟩:ByteArray)⟩) (⟨hr.1,Fe _,Fe _⟩) fun j hj=>?_;obtain ⟨hi2,hk2,hs2⟩:=hj;refine Dv (fun h'=>?_) fun h'=>?_
 ·have h':j.k<L.length:=by omega
  have hlk:=A5r L j.k 300 hsm;have hlk2:(L.getD (j.k:Int).toNat default).size≤300:=hlk;refine M4 (Ef d j.i j.h 40 hi2 Bq) hH hp fun a ha=>?_;refine As ?_;refine C1 (fun c0=>?_) fun c0=>?_
  ·refine As ?_
   refine Ns 4 (C6 [(⟨#[]⟩:ByteArray),(⟨#[35,32,115,97,105,100]⟩:ByteArray),(⟨#[32,32]⟩:ByteArray)]) rfl (Cf rfl V7) ?_;refine M4 (B5o d a.1 a.2.1 [(⟨#[]⟩:ByteArray),(⟨#[35,32,115,97,105,100]⟩:ByteArray),(⟨#[32,32]⟩:ByteArray)] ha.1 Bq) hH hp fun b hb=>?_;have hz:=A5r [(⟨#[]⟩:ByteArray),(⟨#[35,32,115,97,105,100]⟩:ByteArray),(⟨#[32,32]⟩:ByteArray)] b.2.2 10 Bq;refine B4 ?_;refine M4 (Pq d b.1 b.2.1 60 hb.1 Bq) hH hp fun c9 hc9=>?_;refine As ?_;refine C1 (fun cc=>?_) fun cc=>?_
   ·refine B4 ?_
    refine Cc [] (⟨j.k+1,c9.1,c9.2.1,(j.s++([(⟨#[]⟩:ByteArray),(⟨#[35,32,115,97,105,100]⟩:ByteArray),(⟨#[32,32]⟩:ByteArray)]:List ByteArray).getD b.2.2 default++⟨#[10]⟩)++L.getD j.k default++⟨#[10]⟩⟩) (⟨hc9,by show j.k+1≤_;omega,by show ((j.s++([(⟨#[]⟩:ByteArray),(⟨#[35,32,115,97,105,100]⟩:ByteArray),(⟨#[32,32]⟩:ByteArray)]:List ByteArray).getD b.2.2 default++⟨#[10]⟩)++L.getD j.k default++⟨#[10]⟩).size≤400 * (j.k+1);simp only [Gr,bsz,Gq,Fb,H3];omega⟩) B5a ⟨rfl,rfl,trivial⟩ trivial
   refine B4 ?_;refine Cc [] (⟨j.k+1,c9.1,c9.2.1,(j.s++([(⟨#[]⟩:ByteArray),(⟨#[35,32,115,97,105,100]⟩:ByteArray),(⟨#[32,32]⟩:ByteArray)]:List ByteArray).getD b.2.2 default++⟨#[10]⟩)⟩) (⟨hc9,by show j.k+1≤_;omega,by show ((j.s++([(⟨#[]⟩:ByteArray),(⟨#[35,32,115,97,105,100]⟩:ByteArray),(⟨#[32,32]⟩:ByteArray)]:List ByteArray).getD b.2.2 default++⟨#[10]⟩)).size≤400 * (j.k+1);(try simp only [Gr,bsz,Gq,Fb,H3]);omega⟩) B5a ⟨rfl,rfl,trivial⟩ trivial
  refine As ?_;refine C1 (fun c1=>?_) fun c1=>?_
  ·refine As ?_
   refine M4 (Pq d a.1 a.2.1 4 ha.1 Bq) hH hp fun b hb=>?_;refine As ?_;refine C1 (fun c2=>?_) fun c2=>?_
   ·refine Ns 4 (C6 [⟨#[127]⟩,(⟨#[119,97,108,107]⟩:ByteArray),(⟨#[103,114,97,112,104,32,49,32,49]⟩:ByteArray),(⟨#[102,97,105,114,32,51,48,48,49]⟩:ByteArray),⟨#[35,32,1]⟩]) rfl (Cf rfl V7) ?_
    refine M4 (B5o d b.1 b.2.1 [⟨#[127]⟩,(⟨#[119,97,108,107]⟩:ByteArray),(⟨#[103,114,97,112,104,32,49,32,49]⟩:ByteArray),(⟨#[102,97,105,114,32,51,48,48,49]⟩:ByteArray),⟨#[35,32,1]⟩] hb Bq) hH hp fun e he=>?_;have hz:=A5r [⟨#[127]⟩,(⟨#[119,97,108,107]⟩:ByteArray),(⟨#[103,114,97,112,104,32,49,32,49]⟩:ByteArray),(⟨#[102,97,105,114,32,51,48,48,49]⟩:ByteArray),⟨#[35,32,1]⟩] e.2.2 10 Bq;refine B4 ?_;refine M4 (Pq d e.1 e.2.1 60 he.1 Bq) hH hp fun c9 hc9=>?_;refine As ?_;refine C1 (fun cc=>?_) fun cc=>?_
    ·refine B4 ?_
     refine Cc [] (⟨j.k+1,c9.1,c9.2.1,(j.s++([⟨#[127]⟩,(⟨#[119,97,108,107]⟩:ByteArray),(⟨#[103,114,97,112,104,32,49,32,49]⟩:ByteArray),(⟨#[102,97,105,114,32,51,48,48,49]⟩:ByteArray),⟨#[35,32,1]⟩]:List ByteArray).getD e.2.2 default++⟨#[10]⟩)++L.getD j.k default++⟨#[10]⟩⟩) (⟨hc9,by show j.k+1≤_;omega,by show ((j.s++([⟨#[127]⟩,(⟨#[119,97,108,107]⟩:ByteArray),(⟨#[103,114,97,112,104,32,49,32,49]⟩:ByteArray),(⟨#[102,97,105,114,32,51,48,48,49]⟩:ByteArray),⟨#[35,32,1]⟩]:List ByteArray).getD e.2.2 default++⟨#[10]⟩)++L.getD j.k default++⟨#[10]⟩).size≤400 * (j.k+1);simp only [Gr,bsz,Gq,Fb,H3];omega⟩) B5a ⟨rfl,rfl,trivial⟩ trivial
    refine B4 ?_;refine Cc [] (⟨j.k+1,c9.1,c9.2.1,(j.s++([⟨#[127]⟩,(⟨#[119,97,108,107]⟩:ByteArray),(⟨#[103,114,97,112,104,32,49,32,49]⟩:ByteArray),(⟨#[102,97,105,114,32,51,48,48,49]⟩:ByteArray),⟨#[35,32,1]⟩]:List ByteArray).getD e.2.2 default++⟨#[10]⟩)⟩) (⟨hc9,by show j.k+1≤_;omega,by show ((j.s++([⟨#[127]⟩,(⟨#[119,97,108,107]⟩:ByteArray),(⟨#[103,114,97,112,104,32,49,32,49]⟩:ByteArray),(⟨#[102,97,105,114,32,51,48,48,49]⟩:ByteArray),⟨#[35,32,1]⟩]:List ByteArray).getD e.2.2 default++⟨#[10]⟩)).size≤400 * (j.k+1);(try simp only [Gr,bsz,Gq,Fb,H3]);omega⟩) B5a ⟨rfl,rfl,trivial⟩ trivial
   refine M4 (Pq d b.1 b.2.1 60 hb Bq) hH hp fun c9 hc9=>?_;refine As ?_;refine C1 (fun cc=>?_) fun cc=>?_
   ·refine B4 ?_
    refine Cc [] (⟨j.k+1,c9.1,c9.2.1,j.s++L.getD j.k default++⟨#[10]⟩⟩) (⟨hc9,by show j.k+1≤_;omega,by show (j.s++L.getD j.k default++⟨#[10]⟩).size≤400 * (j.k+1);simp only [Gr,bsz,Gq,Fb,H3];omega⟩) B5a ⟨rfl,rfl,trivial⟩ trivial
   refine B4 ?_;refine Cc [] (⟨j.k+1,c9.1,c9.2.1,j.s⟩) (⟨hc9,by show j.k+1≤_;omega,by show (j.s).size≤400 * (j.k+1);(try simp only [Gr,bsz,Gq,Fb,H3]);omega⟩) B5a ⟨rfl,rfl,trivial⟩ trivial
  refine As ?_;refine M4 (Pq d a.1 a.2.1 60 ha.1 Bq) hH hp fun c9 hc9=>?_;refine As ?_;refine C1 (fun cc=>?_) fun cc=>?_
  ·refine B4 ?_
   refine Cc [] (⟨j.k+1,c9.1,c9.2.1,j.s++L.getD j.k default++⟨#[10]⟩⟩) (⟨hc9,by show j.k+1≤_;omega,by show (j.s++L.getD j.k default++⟨#[10]⟩).size≤400 * (j.k+1);simp only [Gr,bsz,Gq,Fb,H3];omega⟩) B5a ⟨rfl,rfl,trivial⟩ trivial
  refine B4 ?_;refine Cc [] (⟨j.k+1,c9.1,c9.2.1,j.s⟩) (⟨hc9,by show j.k+1≤_;omega,by show (j.s).size≤400 * (j.k+1);(try simp only [Gr,bsz,Gq,Fb,H3]);omega⟩) B5a ⟨rfl,rfl,trivial⟩ trivial
 refine M4 (Pq d j.i j.h 30 hi2 Bq) hH hp fun e1 he1=>?_;refine As ?_;refine C1 (fun c3=>?_) fun c3=>?_
 ·refine B4 ?_
  refine M4 (Ef d e1.1 e1.2.1 2 he1 Bq) hH hp fun f hf=>?_;have hf3:=hf.2.2.2 Bq;have hf4:=hf.2.1;refine B4 ?_;have hb:=G2 (12001-(j.s.size:Int)-f.2.2) 0 12001 Bq;refine Fp (P1 (12001-(j.s.size:Int)-f.2.2) 0 12001) ?_;obtain ⟨m,hm⟩:∃m:Nat,Cs (12001-(j.s.size:Int)-f.2.2) 0 12001=m:=⟨(Cs (12001-(j.s.size:Int)-f.2.2) 0 12001).toNat,by omega⟩;rw [hm];have hm2:m≤12001:=by omega
  refine Fp (C8g m hm2) ?_;have hl:=B1g (m:=m) (k:=m) (Ds _);have hl2:(⟨(Pe m m).toArray⟩:ByteArray).size=m:=hl;refine B4 ?_;refine M4 (Pq d f.1 f.2.1 30 hf.1 Bq) hH hp fun g hg=>?_;refine As ?_;refine C1 (fun c4=>?_) fun c4=>?_
  ·refine zlW [] (fun j:JTx=>[(3,.c (vs j.s)),(6,.c (vi j.k))]) (fun j=>[⟨0,[.c (.val d.v),.c (vi j.i),.c (vi j.h)]⟩]) (fun j=>[]) (fun j=>(j.i=g.1∧j.h=g.2.1)∧j.k≤200∧j.s.size≤30000+7 * j.k) (fun j=>200-j.k) (⟨0,g.1,g.2.1,(j.s++⟨(Pe m m).toArray⟩)⟩) (⟨⟨rfl,rfl⟩,Fe _,by show ((j.s++⟨(Pe m m).toArray⟩)).size≤30000+7 * 0;(try simp only [Gr,bsz,Gq]);omega⟩) fun j hj=>?_
   obtain ⟨⟨hi5,hh5⟩,hk5,hs5⟩:=hj;refine Dv (fun h5=>?_) fun h5=>?_
   ·have h5:j.k<200:=by omega
    refine B4 ?_;refine Cc [] (⟨j.k+1,j.i,j.h,j.s++⟨#[119,111,114,107,32,48,10]⟩⟩) (⟨⟨hi5,hh5⟩,by show j.k+1≤200;omega,by show (j.s++⟨#[119,111,114,107,32,48,10]⟩).size≤30000+7 * (j.k+1);simp only [Gr,bsz,Gq,Fb,H3];omega⟩) (by show 200-(j.k+1)<_;omega) ⟨rfl,rfl,trivial⟩ trivial
   exact Mw A0 (j.i,j.h,j.s) ⟨by show 0≤j.i∧j.i≤_;rw [hi5];exact hg,by show j.s.size≤100000;omega⟩ rfl rfl rfl rfl J0
  exact Jf (g.1,g.2.1,(j.s++⟨(Pe m m).toArray⟩)) ⟨hg,by show ((j.s++⟨(Pe m m).toArray⟩)).size≤100000;(try simp only [Gr,bsz,Gq]);omega⟩
 refine M4 (Pq d e1.1 e1.2.1 30 he1 Bq) hH hp fun g hg=>?_;refine As ?_;refine C1 (fun c4=>?_) fun c4=>?_
 ·refine zlW [] (fun j:JTx=>[(3,.c (vs j.s)),(6,.c (vi j.k))]) (fun j=>[⟨0,[.c (.val d.v),.c (vi j.i),.c (vi j.h)]⟩]) (fun j=>[]) (fun j=>(j.i=g.1∧j.h=g.2.1)∧j.k≤200∧j.s.size≤30000+7 * j.k) (fun j=>200-j.k) (⟨0,g.1,g.2.1,j.s⟩) (⟨⟨rfl,rfl⟩,Fe _,by show (j.s).size≤30000+7 * 0;(try simp only [Gr,bsz,Gq]);omega⟩) fun j hj=>?_
  obtain ⟨⟨hi5,hh5⟩,hk5,hs5⟩:=hj;refine Dv (fun h5=>?_) fun h5=>?_
  ·have h5:j.k<200:=by omega
   refine B4 ?_;refine Cc [] (⟨j.k+1,j.i,j.h,j.s++⟨#[119,111,114,107,32,48,10]⟩⟩) (⟨⟨hi5,hh5⟩,by show j.k+1≤200;omega,by show (j.s++⟨#[119,111,114,107,32,48,10]⟩).size≤30000+7 * (j.k+1);simp only [Gr,bsz,Gq,Fb,H3];omega⟩) (by show 200-(j.k+1)<_;omega) ⟨rfl,rfl,trivial⟩ trivial
  exact Mw A0 (j.i,j.h,j.s) ⟨by show 0≤j.i∧j.i≤_;rw [hi5];exact hg,by show j.s.size≤100000;omega⟩ rfl rfl rfl rfl J0
 exact Jf (g.1,g.2.1,j.s) ⟨hg,by show (j.s).size≤100000;(try simp only [Gr,bsz,Gq]);omega⟩
theorem B7o (a b:List Int)(ha:a.length≤16777216)(hb:b.length≤16777216):Di 38 [.one (Cn a),.one (Cn b)] [.one (vb (decide (a=b)))]:=by
 refine E7 Tryz.func38 fun W=>?_;refine Y0 (fun hn=>?_) fun hn=>?_
 ·exact An A0 rfl rfl ⟨A6 vb (Cd fun e=>hn (by rw [e])),trivial⟩
 refine Fx [] (fun k:Nat=>[(5,.c (vi k))]) (fun k=>[]) (fun k=>[]) (fun k=>k≤a.length∧a.take k=b.take k) (fun k=>a.length-k) fun k hk=>?_;obtain ⟨hk,he⟩:=hk;refine Dv (fun h=>?_) fun h=>?_
 ·have h:k<a.length:=by omega
  have hs:=B4x a b k he h A7;refine B4 ?_
  first|(refine Aj 6 rfl [0,1,2,3,4,5,6,7,8] Am (Ah ?_))
  refine B4 ?_;refine C1 (fun hc=>?_) fun hc=>?_
  ·have hc:(!decide (a.getD k default=b.getD k default))=true:=by rw [←C1h];exact hc
   exact An A0 rfl rfl ⟨A6 vb (Cd fun e=>by subst e;simp at hc),trivial⟩
  have hc:(!decide (a.getD k default=b.getD k default))=false:=by rw [←C1h];exact hc
  refine B4 ?_;refine Cc [] (k+1) ⟨by omega,hs.2 (by simpa using hc)⟩ A7 ⟨rfl,trivial⟩ trivial
 exact An A0 rfl rfl ⟨A6 vb (Dc (by rw [←Ej a k A7,he,Ej b k A7])),trivial⟩
def K9 (xs:List ByteArray):List UInt8:=xs.flatMap fun l=>l.data.toList++[10]
theorem A4e (xs:List ByteArray)(k:Nat)(h:k<xs.length):K9 (xs.take (k+1))=K9 (xs.take k)++(xs.getD k default).data.toList++[10]:=by
 unfold K9;rw [B27 _ _ _ h,Cr]
theorem B0e (xs:List ByteArray):(K9 xs).length=wS (fun b=>b.size) xs:=by
 induction xs with
 |nil=>rfl
 |cons x r ih=>
  have:x.data.toList.length=x.size:=Mr
  simp only [K9,Wt,D3,Fb,H3,wS,I1,Ux] at *;omega
theorem B1x (xs:List ByteArray)(k:Nat)(h:k<xs.length)(n:Nat)(hw:wS (fun b=>b.size) xs≤n):(K9 (xs.take k)).length+(xs.getD k default).size+1≤n:=by
 have h1:=B0e (xs.take k);have h2:=Iu (fun b=>b.size) xs k h;have h3:(xs.take k).length=k:=by rw [F9];omega
 simp only [wS] at *;omega
theorem D1y (l:List UInt8)(b:ByteArray):(⟨l.toArray⟩:ByteArray)++(b++⟨#[10]⟩)=⟨(l++b.data.toList++[10]).toArray⟩:=by
 apply Tg
 simp [Wz]
theorem B7x (xs:List ByteArray)(h:wS (fun b=>b.size) xs≤16777216):Di 40 [.one (C6 xs)] [.one (vs ⟨(K9 xs).toArray⟩)]:=by
 have hl:xs.length≤16777216:=by simp only [wS] at h;omega
 refine E7 Tryz.func40 fun W=>?_;refine Eu 0 (Kf []) rfl C0 ?_;refine Fx [5] (fun k:Nat=>[(4,.c (vi k))]) (fun k=>[]) (fun k=>[⟨0,Kf (K9 (xs.take k))⟩]) (fun k=>k≤xs.length) (fun k=>xs.length-k) fun k hk=>?_;refine Dv (fun h'=>?_) fun h'=>?_
 ·have h':k<xs.length:=by omega
  have h1:=B1x xs k h' _ h;have h2:(K9 (xs.take k)++(xs.getD k default).data.toList).length=(K9 (xs.take k)).length+(xs.getD k default).size:=by rw [D3];rfl
  refine B4 ?_;refine D32 A0 rfl rfl rfl rfl rfl rfl rfl rfl rfl rfl rfl rfl (Kf (K9 (xs.take k)++(xs.getD k default).data.toList)) (C2z _ _) (fun _=>fun i _ c hc=>⟨_,I3.1 hc⟩) (by simp only [Bv];omega) (Ah ?_);refine B6 A0 rfl (Kf (K9 (xs.take k)++(xs.getD k default).data.toList++[10])) (Ao rfl) Hd (by rw [h2];omega) (Em ?_);refine Cc [(0,3)] (k+1) A7 A7 ⟨rfl,trivial⟩ ⟨A6 Kf (A4e xs k h').symm,trivial⟩
 refine C8q A0 rfl (K9 (xs.take k)) rfl (Ah ?_);exact An A0 rfl rfl ⟨A6 (fun l=>vs ⟨(K9 l).toArray⟩) (Ej xs k A7).symm,trivial⟩
theorem A34 (xs:List ByteArray)(h:wS (fun b=>b.size) xs≤16777216):Di 39 [.one (C6 xs)] [.one (vs ⟨(K9 xs).toArray⟩)]:=by
 have hl:xs.length≤16777216:=by simp only [wS] at h;omega
 refine E7 Tryz.func39 fun W=>?_;refine Fx [] (fun k:Nat=>[(3,.c (vs ⟨(K9 (xs.take k)).toArray⟩)),(8,.c (vi k))]) (fun k=>[]) (fun k=>[]) (fun k=>k≤xs.length) (fun k=>xs.length-k) fun k hk=>?_;refine Dv (fun h'=>?_) fun h'=>?_
 ·have h':k<xs.length:=by omega
  have h1:=B1x xs k h' _ h;refine B4 ?_;refine ⟨by show (xs.getD k default).size+1≤_;omega,?_⟩
  conv=>whnf
  refine ⟨by rw [Gr];show (K9 (xs.take k)).toArray.size+((xs.getD k default).size+1)≤_;rw [Gq];omega,?_⟩
  conv=>whnf
  refine B4 ?_;refine Cc [] (k+1) A7 A7 ⟨A6 (fun b=>AV.c (vs b)) (by rw [A4e xs k h'];exact D1y _ _),rfl,trivial⟩ trivial
 exact An A0 rfl rfl ⟨A6 (fun l=>vs ⟨(K9 l).toArray⟩) (Ej xs k A7).symm,trivial⟩
theorem D2b (a:Option Addr)(n cp:Nat):Di 20 [.one (.val (.slice a n cp))] [.one (vb (decide ((n:Int)>1_048_576)))]:=by
 refine E7 Tryz.func20 fun W=>?_;exact An A0 rfl rfl ⟨by rfl,trivial⟩
theorem C9n (d:Kd):Nw Tryz.prog HT 35 d.pins [] [.one (.val d.v)] (fun x:ByteArray=>x.size≤100000) (fun x=>[.one (vs x)]):=by
 refine Z5 A0 false Tryz.func35 rfl Bq fun B hH hp=>?_;conv=>whnf
 refine B5i (B83 d) hp rfl (fun h0 _=>go A0 false ?_);conv=>whnf
 refine A6h (C08 d 0 h0 ⟨Tj _,A9t _⟩) hH hp rfl J0 rfl rfl (fun r hr=>go A0 false ?_);conv=>whnf
 exact V9 A0 r.2.2 hr.2 rfl rfl J0
theorem D14 (d:Kd):Nw Tryz.prog HT 36 d.pins [] [.one (.val d.v)] (fun r:ByteArray×Int=>r.1.size≤100000) (fun r=>[.one (vs r.1),.one (vi r.2)]):=by
 refine Z5 A0 false Tryz.func36 rfl Bq fun B hH hp=>?_;conv=>whnf
 refine B5i (B83 d) hp rfl (fun h0 _=>go A0 false ?_);conv=>whnf
 refine A6h (C08 d 0 h0 ⟨Tj _,A9t _⟩) hH hp rfl J0 rfl rfl (fun r hr=>go A0 false ?_);conv=>whnf
 refine M4 (Ef d r.1 r.2.1 6 hr.1 Bq) hH hp fun s hs=>?_;have hs3:=hs.2.2.2 Bq;have hs4:=hs.2.1;refine B4 ?_;exact V9 A0 (r.2.2,s.2.2-1) hr.2 rfl rfl J0
theorem D13 (d:Kd):Nw Tryz.prog HT 37 d.pins [] [.one (.val d.v)] (fun L:List ByteArray=>L.length≤17∧∀l∈L,l.size≤300) (fun L=>[.one (C6 L)]):=by
 refine Z5 A0 false Tryz.func37 rfl Bq fun B hH hp=>?_;conv=>whnf
 refine B5i (B83 d) hp rfl (fun h0 _=>go A0 false ?_);conv=>whnf
 refine A6h (B1b d 0 h0 3 Bq ⟨Tj _,A9t _⟩) hH hp rfl J0 rfl rfl (fun r hr=>go A0 false ?_);conv=>whnf
 have hk:=C15 hr.2 Bq;refine Gf (V3 r.2.2 hk.1 A7) ?_;exact V9 A0 (Io r.2.2) ⟨B1y hr.2,B6q hk.1 hr.2.1.1.2.1⟩ rfl rfl J0
theorem D2t:∀{L:List ByteArray},(∀l∈L,l.size≤300)→wS (fun b=>b.size) L≤301 * L.length:=by
 intro L h
 induction L with
 |nil=>exact Ds _
 |cons x r ih=>
  have h1:=h x (L3 ..);have h2:=ih fun l hl=>h l (Db _ hl);simp only [wS,Fb,I1,Ux] at *;omega
theorem Zs (l:List ByteArray)(hl:l.length≤2000000):Di 25 [.one (C6 l),.one (C6 l)] [.one (vb true)]:=by
 refine E7 Tryz.func25 fun W=>?_;refine Y0 (fun hn=>?_) fun hn=>?_
 ·omega
 refine Fx [] (fun k:Nat=>[(5,.c (vi k))]) (fun k=>[]) (fun k=>[]) (fun k=>k≤l.length) (fun k=>l.length-k) fun k hk=>?_;refine Dv (fun h=>?_) fun h=>?_
 ·have h:k<l.length:=by omega
  first|(refine Aj 6 rfl [0,1,2,3,4,5,6,7,8] Am (Ah ?_))
  refine B4 ?_;refine Vy (by rw [Fj];rfl) ?_;conv=>whnf
  refine B4 ?_;refine Cc [] (k+1) A7 A7 ⟨rfl,trivial⟩ trivial
 exact D4
set_option maxHeartbeats 4000000 in
theorem C3r (xs:List UInt8):E3 Tryz.prog X8 7 [.one (Kf xs)] [.one (vb true)]:=by
 have c1:=Vw D22 Bq;rw [C5y] at c1;have c2:=Yb D23 3 Bq;rw [C5z] at c2;refine C9t A0 false Tryz.func7 rfl Bq fun W hW a cp hp=>?_;conv=>whnf
 have hH:∀w,Fg.rel ⟨W,fun _=>False⟩ w→HT w:=fun _ _=>trivial
 refine Fp (D2b a xs.length cp) ?_;refine C1 (fun hb=>?_) fun hb=>?_
 ·exact An A0 rfl rfl ⟨rfl,trivial⟩
 have hb:(xs.length:Int)≤16777216:=by have:=Cv hb;omega
 let d:Kd:=⟨a,xs.length,cp,fun i=>(xs.getD i default).toNat,fun i=>by have:=(xs.getD i default).toNat_lt;omega,by omega⟩
 have hp:N0 ⟨W,fun _=>False⟩ d.pins:=hp
 refine B8u (C9n d) hH hp rfl (fun x hx=>go A0 false ?_);conv=>whnf
 refine Dj (B3o x A7) B5 hW rfl (Ah ?_);refine Fp (B7z x A7) ?_;have hl1:=C4i x;generalize A1z x=R1 at hl1 ⊢;refine Dj (Vw x A7) B5 hW rfl (Ah ?_);refine Fp (A82 x A7) ?_;have hl2:=B7g x;generalize Ni x=R2 at hl2 ⊢;refine B8u (D14 d) hH hp rfl (fun y hy=>go A0 false ?_);conv=>whnf
 obtain ⟨t,e⟩:=y;have hy:t.size≤100000:=hy;refine B8u (D13 d) hH hp rfl (fun L hL=>go A0 false ?_);conv=>whnf
 have hw:=D2t hL.2;have hl3:=B8e t e;refine As ?_;refine Aq (Zs R1.1 A7) rfl (Gu ?_);refine Aq (Zs R2.1 A7) rfl (Gu ?_);refine Dj (Yb t e A7) B5 hW rfl (Gu ?_);refine Aq (B0r t e A7) rfl (Gu ?_);have he:decide (Nm t e=Nm t e)=true:=Dc rfl;refine Aq (B7o (Nm t e) (Nm t e) A7 A7) rfl (Gu ?_);refine Aq (A34 L A7) rfl (Gu ?_);refine Aq (B7x L A7) rfl (Gu ?_);refine Vy (by rw [Fj];rfl) ?_;conv=>whnf
 refine Dj (c1) B5 hW rfl (Ah ?_);refine Dj (c2) B5 hW rfl (Gu ?_);refine Ns 1 (C6 [(⟨#[48,32,49,32,53,32,51]⟩:ByteArray)]) rfl (Cf rfl V7) ?_;refine Aq (Zs [(⟨#[48,32,49,32,53,32,51]⟩:ByteArray)] Bq) rfl (Gu ?_);refine Ns 2 (Cn [0,1]) rfl (Cf rfl V7) ?_;refine Aq (B7o [0,1] [0,1] Bq Bq) rfl (Gu ?_);refine Ns 3 (C6 [(⟨#[97]⟩:ByteArray),(⟨#[98]⟩:ByteArray)]) rfl (Cf rfl V7) ?_;refine Aq (A34 [(⟨#[97]⟩:ByteArray),(⟨#[98]⟩:ByteArray)] Bq) rfl (Gu ?_);exact An A0 rfl rfl ⟨A6 vb Bq,trivial⟩
end Go.Proofs.YtmhcebdkjgkmlaaGreatDoor
