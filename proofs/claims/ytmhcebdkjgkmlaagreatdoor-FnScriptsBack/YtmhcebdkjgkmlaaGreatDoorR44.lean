/- Part 44 of the proof that each of the laws FnScriptsBack returns true for every input. No conditions. -/
import Derived.Test.YtmhcebdkjgkmlaaGreatDoorR39
import Derived.Test.YtmhcebdkjgkmlaaGreatDoorR43
import Derived.Test.YtmhcebdkjgkmlaaGreatDoorR17
import Derived.Test.YtmhcebdkjgkmlaaGreatDoorR22

set_option linter.unusedSimpArgs false
set_option linter.unusedVariables false
set_option maxRecDepth 100000
namespace Go.Proofs.YtmhcebdkjgkmlaaGreatDoor
open Go.Sx
def Fa (s:B5):A3×List Bool×Bool:=
 if (C9 s.az s.ap).2=true then ((H0 (E5 s.aa 0 3000).toNat (B0 (C9 s.az s.ap).1 s.an).1).1,(B0 (C9 s.az s.ap).1 s.an).2,true) else (Q1,[],false)
theorem B8c {s:B5}(h:(C9 s.az s.ap).2=false):Fa s=(Q1,[],false):=Ab (by rw [h];decide)
theorem C0b {s:B5}(h:(C9 s.az s.ap).2=true):Fa s=((H0 (E5 s.aa 0 3000).toNat (B0 (C9 s.az s.ap).1 s.an).1).1,(B0 (C9 s.az s.ap).1 s.an).2,true):=Ah h
theorem B6l (xs:List A9):(O6 xs).w=xs.length+12:=by simp [Aj.w,O6]
variable {l : List A9}
theorem C9a {n:Int}{k:Nat}(hl:l.length≤20):((Et n l k).map Aj.w).sum≤k * 92:=by
 induction k with
 |zero=>simp [Et]
 |succ k ih=>
  rw [A1o,Uu,List.sum_append];have h1:=Vs n l k 4;simp only [I8,Z9,List.sum_cons,List.sum_nil,B6l];omega
theorem D1b (m:Nat)(n:Int):((List.replicate m (Hj n)).map D8.w).sum=0:=by
 induction m with
 |zero=>rfl
 |succ m ih=>
  rw [List.replicate_succ,I8,List.sum_cons,ih];rfl
theorem C59 {g:Ax}:(C9 g l).1.w≤g.w+2000:=by
 by_cases h:Xg g l
 ·have hw:=h.1.2.1
  obtain ⟨n,hn⟩:∃n:Nat,g.aq=n:=⟨g.aq.toNat,by omega⟩;have h1:=C9a (n:=g.aq) (l:=l) (k:=g.aq.toNat) h.2.1;have h2:=D1b (g.aq.toNat * g.aq.toNat) g.cap;have h3:=A6c g.aq l g.aq.toNat;have h4:g.aq.toNat * g.aq.toNat≤16:=Wd (show g.aq.toNat≤4 by omega) (show g.aq.toNat≤4 by omega)
  rw [A0j h];simp only [A3.w,wS,Pl,Hi];rw [h2,h3];have h5:g.aq.toNat≤4:=by omega
  omega
 rw [N4 h]
 show Q1.w≤_
 have:Q1.w=0:=rfl
 omega
theorem B9x {g:Ax}:Nj (C9 g l).1:=by
 by_cases h:Xg g l
 ·rw [A0j h]
  intro k hk
  have:=Ug hk
  rw [this]
  show (0:Int)≤_
  decide
 rw [N4 h];intro k hk
 cases hk
set_option maxHeartbeats 1000000 in
theorem A3o (x:B5)(hx:x.w≤1040000+8576):Df 23 [.agg x.c] [.agg (Fa x).1.c,.one (Dz (Fa x).2.1),.one (vb (Fa x).2.2)]:=by
 have hw:x.az.w+x.ap.length+x.an.length≤1040000+8576:=hx;have h1:=C59 (g:=x.az) (l:=x.ap);have h2:=Yy (c:=(C9 x.az x.ap).1) (l:=x.an);refine Dy Tryz.func23 fun W=>?_;refine Hp (A5q x.az x.ap A7 A7) ?_;refine C2 (fun hk=>?_) fun hk=>?_
 ·have hk:(C9 x.az x.ap).2=false:=by simpa using hk
  rw [B8c hk];exact Dk
 have hk:(C9 x.az x.ap).2=true:=by simpa using hk
 refine Ar ?_;refine Hp (Pu (C9 x.az x.ap).1 x.an A7 B9x) ?_;refine Hp (B4g (B0 (C9 x.az x.ap).1 x.an).1 x.aa A7 (A67 B9x)) ?_;rw [C0b hk];exact Dk
theorem C9b {x:Ba}(h:I6 x):x.ok:=by
 obtain ⟨hk,h2,h3,h4,h0,ho,_,_,hn⟩:=h
 have hab:(-1000≤x.a∧x.a≤1000)∧(-1000≤x.b∧x.b≤1000):=by
  by_cases k2:x.kind=2
  ·have:=h2 k2;omega
  by_cases k3:x.kind=3
  ·have:=h3 k3;omega
  by_cases k4:x.kind=4
  ·have:=h4 k4;omega
  have:=h0 k2 k3 k4;omega
 refine ⟨?_,?_,?_,by simp only [maxLen];omega,fun y hy=>?_⟩
 ·simp only [Js];omega
 ·simp only [Js];omega
 ·simp only [Js];omega
 have:=hn y hy
 simp only [Js];omega
theorem D1d {α:Type} [Inhabited α] {l:List α}{x:α}(h:x∈l):∃i,i<l.length∧l.getD i default=x:=by
 obtain ⟨i,hi,rfl⟩:=Po h;exact ⟨i,hi,by simp only [List.getD,Dh hi,Uc]⟩
theorem C5f {g:Ax}(h:Gc g):g.ok:=by
 obtain ⟨h1,h2,h3,h4⟩:=h;refine ⟨⟨by simp only [maxLen];omega,fun y hy=>?_⟩,?_,?_⟩
 ·obtain ⟨i,hi,rfl⟩:=D1d hy
  exact C9b (h4 i hi).1
 ·simp only [Js];omega
 simp only [Js];omega
theorem C8r {ins:List A9}(h:D0r ins):∀y∈ins,y.ok:=fun y hy=>by
 obtain ⟨h1,h2,h3,h4,h5⟩:=h.2 y hy;simp only [A9.ok,Iq.ok,Js];omega
def R7 (p:Cs):Prop:=(1≤p.kind∧p.kind≤7)∧(0≤p.a∧p.a≤2)∧(0≤p.b∧p.b≤2)∧(p.kind≠4→p.kind≠5→p.b=0)
theorem C6n {p:Cs}(h:R7 p):p.ok:=by
 obtain ⟨h1,h2,h3,_⟩:=h;refine ⟨?_,?_,?_⟩<;>(show _∧_;omega)
theorem C2c {k:Nat}(h:k<13):1≤([1,1,1,2,3,3,3,4,4,5,6,6,7]:List Int).getD k 0∧([1,1,1,2,3,3,3,4,4,5,6,6,7]:List Int).getD k 0≤7:=by
 have hm:∀w∈([1,1,1,2,3,3,3,4,4,5,6,6,7]:List Int),1≤w∧w≤7:=by decide
 exact hm _ (Am (d:=0) h)
theorem B43 {n:Int}(h:0≤n):0≤n.tmod 3∧n.tmod 3≤2:=by
 have h1:=Wj n (show (0:Int)<3 by decide)
 have h2:=A2g 3 h;omega
theorem C4o (d:Ig)(i h:Int)(hi:0≤i∧i≤d.n):MtR HT 195 d.pins (d.cur i h) [] (fun r:Int×Int×Cs=>(0≤r.1∧r.1≤d.n)∧R7 r.2.2) (fun r=>d.cur r.1 r.2.1) (fun r=>[.agg r.2.2.c]):=by
 refine zeP Tryz.func195 fun B b hH hp=>?_;refine Mg 2 (De [1,1,1,2,3,3,3,4,4,5,6,6,7]) rfl (Cc rfl Td) ?_;refine Ix (M8 d i h [1,1,1,2,3,3,3,4,4,5,6,6,7] hi Bk) hH hp fun r hr=>?_;have hk:=C2c hr.2;refine Ix (D3 d r.1 r.2.1 3 hr.1 Bk) hH hp fun r2 hr2=>?_;have h20:=hr2.2.1;have h21:=hr2.2.2.2 Bk;refine C2 (fun c1=>?_) fun c1=>?_
 ·have e4:([1,1,1,2,3,3,3,4,4,5,6,6,7]:List Int).getD r.2.2 0=4:=eq_of_beq c1
  repeat' (first|(refine Gy ?_;conv=>whnf)|(refine Gz ?_;conv=>whnf)|(refine ⟨fun h=>?_,fun h=>?_⟩<;>conv=>whnf)|(refine Ew ?_;conv=>whnf)|fail)
  refine Oj rfl (I0 0 rfl (I0 3 rfl (R0 1 4 ?_ ?_)))
  focus
   refine Aq (I0 2 rfl (Ms 4 ?_));refine Ix (D3 d r2.1 r2.2.1 2 hr2.1 Bk) hH hp fun r3 hr3=>?_;refine Aq ?_
  rotate_left 1
  focus
   refine Ix (D3 d r2.1 r2.2.1 2 hr2.1 Bk) hH hp fun r3 hr3=>?_;refine Aq (Ms 1 ?_);refine Aq (I0 2 rfl ?_)
  all_goals
   refine I0 5 rfl (I0 6 rfl (I0 7 rfl (Ms 8 ?_)));refine Aq (Oi Ak (Ag ?_))
  all_goals
   exact Iy (r3.1,r3.2.1,⟨[1,1,1,2,3,3,3,4,4,5,6,6,7].getD r.2.2 0,r2.2.2,(r2.2.2+1+r3.2.2).tmod 3⟩) ⟨hr3.1,hk,⟨h20,by show r2.2.2≤2;omega⟩,B43 (by have:=hr3.2.1;omega),fun n=>absurd e4 n⟩
 repeat' (first|(refine Gy ?_;conv=>whnf)|(refine Gz ?_;conv=>whnf)|(refine ⟨fun h=>?_,fun h=>?_⟩<;>conv=>whnf)|(refine Ew ?_;conv=>whnf)|fail)
 ·have e5:([1,1,1,2,3,3,3,4,4,5,6,6,7]:List Int).getD r.2.2 0=5:=by first|exact eq_of_beq h|(rename_i h5;exact eq_of_beq h5)
  refine Oj rfl (I0 0 rfl (I0 3 rfl (R0 1 4 ?_ ?_)))
  focus
   refine Aq (I0 2 rfl (Ms 4 ?_));refine Ix (D3 d r2.1 r2.2.1 2 hr2.1 Bk) hH hp fun r3 hr3=>?_;refine Aq ?_
  rotate_left 1
  focus
   refine Ix (D3 d r2.1 r2.2.1 2 hr2.1 Bk) hH hp fun r3 hr3=>?_;refine Aq (Ms 1 ?_);refine Aq (I0 2 rfl ?_)
  all_goals
   refine I0 5 rfl (I0 6 rfl (I0 7 rfl (Ms 8 ?_)));refine Aq (Oi Ak (Ag ?_))
  all_goals
   exact Ke A0 (r3.1,r3.2.1,⟨[1,1,1,2,3,3,3,4,4,5,6,6,7].getD r.2.2 0,r2.2.2,(r2.2.2+1+r3.2.2).tmod 3⟩) ⟨hr3.1,hk,⟨h20,by show r2.2.2≤2;omega⟩,B43 (by have:=hr3.2.1;omega),fun _ n=>absurd e5 n⟩ rfl rfl rfl rfl I1
 exact Ke A0 (r2.1,r2.2.1,⟨[1,1,1,2,3,3,3,4,4,5,6,6,7].getD r.2.2 0,r2.2.2,0⟩) ⟨hr2.1,hk,⟨h20,by show r2.2.2≤2;omega⟩,⟨T8 _,by show (0:Int)≤2;decide⟩,fun _ _=>rfl⟩ rfl rfl rfl rfl I1
theorem C1l (d:Ig)(i h:Int)(m:Nat)(hm:m≤1000)(hi:0≤i∧i≤d.n):MtR HT 137 d.pins (d.cur i h) [.one (vi m)] (fun r:Int×Int×List Cs=>(0≤r.1∧r.1≤d.n)∧r.2.2.length≤m∧∀p∈r.2.2,R7 p) (fun r=>d.cur r.1 r.2.1) (fun r=>[.one (Ch r.2.2)]):=by
 refine zeP Tryz.func137 fun B b hH hp=>?_;refine Fi 1 (Ch []) rfl (Cc rfl Td) ?_;refine zlW [7] (fun j:JPk=>[(6,.c (vi j.k))]) (fun j=>[⟨0,[.c (.val d.v),.c (vi j.i),.c (vi j.h)]⟩]) (fun j=>[⟨1,Ch j.xs⟩]) (fun j=>(0≤j.i∧j.i≤d.n)∧j.k≤m∧j.xs.length=j.k∧∀p∈j.xs,R7 p) (fun j=>m-j.k) (⟨0,i,h,[]⟩) (⟨hi,Ff _,rfl,fun _ h=>by cases h⟩) fun j hj=>?_;obtain ⟨hi,hk,hx,ho⟩:=hj;refine B6 ?_;refine Ix (D3 d j.i j.h (m+1) hi A7) hH hp fun r hr=>?_;refine E3 (fun hlt=>?_) fun hlt=>?_
 ·have hlt2:(r.2.2:Int)<m+1:=hr.2.2.2 A7
  refine Ix (C4o d r.1 r.2.1 hr.1) hH hp fun r2 hr2=>?_;refine Bg A0 rfl (Ch (j.xs++[r2.2.2])) (An rfl) Ij A7 (F1 ?_);refine Co [(1,3)] (⟨j.k+1,r2.1,r2.2.1,j.xs++[r2.2.2]⟩) (⟨hr2.1,by show j.k+1≤m;omega,by simp [hx],fun p hp=>(Hg.1 hp).elim (ho p) fun hp=>by rw [Hh.1 hp];exact hr2.2⟩) (by show m-(j.k+1)<_;omega) ⟨rfl,trivial⟩ ⟨rfl,trivial⟩
 exact Iy (r.1,r.2.1,j.xs) ⟨hr.1,by show j.xs.length≤m;omega,ho⟩
def C0q (m:Nat) (s:B5):Prop:=(C3n s.az∧B6p s.az)∧D0r s.ap∧(s.an.length≤m∧∀p∈s.an,R7 p)∧(s.aa=0∨s.aa=30∨s.aa=200)
theorem C6v (k:Nat):([0,0,30,200]:List Int).getD k 0=0∨([0,0,30,200]:List Int).getD k 0=30∨([0,0,30,200]:List Int).getD k 0=200:=
 Zy (p:=fun w:Int=>w=0∨w=30∨w=200) _ k 0 Bk (.inl rfl)
set_option maxHeartbeats 2000000 in
theorem Sj (d:Ig)(i h:Int)(m:Nat)(hm:m≤1000)(hi:0≤i∧i≤d.n):MtR HT 75 d.pins (d.cur i h) [.one (vi m)] (fun r:Int×Int×B5=>(0≤r.1∧r.1≤d.n)∧C0q m r.2.2) (fun r=>d.cur r.1 r.2.1) (fun r=>[.agg r.2.2.c]):=by
 refine zeP Tryz.func75 fun B b hH hp=>?_;refine Ix (C1j d i h hi) hH hp fun r1 hr1=>?_;refine Ix (C1k d r1.1 r1.2.1 hr1.1) hH hp fun r2 hr2=>?_;refine Ix (C1l d r2.1 r2.2.1 m hm hr2.1) hH hp fun r3 hr3=>?_;refine Mg 5 (De [0,0,30,200]) rfl (Cc rfl Td) ?_;refine Ix (M8 d r3.1 r3.2.1 [0,0,30,200] hr3.1 Bk) hH hp fun r4 hr4=>?_;exact Ke A0 (r4.1,r4.2.1,(⟨r1.2.2,r2.2.2,r3.2.2,[0,0,30,200].getD r4.2.2 0⟩:B5)) ⟨hr4.1,hr1.2,hr2.2,hr3.2,C6v _⟩ rfl rfl rfl rfl I1
theorem A36 {m:Nat}{s:B5}(h:C0q m s)(hm:m≤1000):s.ok∧s.w≤1100:=by
 obtain ⟨⟨hg,hs⟩,hi,hp,hr⟩:=h;have e:s.w=s.az.w+s.ap.length+s.an.length:=rfl;have h1:=hg.1;have h2:=hi.1;have h3:=hp.1;refine ⟨⟨C5f (C5e hs),⟨by simp only [maxLen];omega,C8r hi⟩,⟨by simp only [maxLen];omega,fun p h=>C6n (hp.2 p h)⟩,?_⟩,by omega⟩
 rcases hr with hr|hr|hr<;>rw [hr]<;>exact ⟨by decide,by decide⟩
theorem C58 {g:Ax}{l:List A9}(h:(C9 g l).2=true):Js .i64 (C9 g l).1.az.aq:=by
 by_cases hN:Xg g l
 ·rw [A0j hN]
  have:=hN.1.2.1
  show (_:Int)≤g.aq∧g.aq≤_
  omega
 rw [N4 hN] at h
 cases h
theorem C9c {x:Ba}(o:x.ok)(h:A09 x):(Be x).size≤300:=by
 have h0:=N5 x o;have h1:=Tw (C5 x.kind++(⟨#[32]⟩:ByteArray)++Gf x.a++(⟨#[32]⟩:ByteArray)++Gf x.b) x.ax o.2.2.2.2 x.ax.length (Bu _);have h2:=h.2.2.2.1;rw [H5] at h1;rw [Be]
 split
 ·rw [H4,Qk]
  show 5+_≤300
  omega
 exact Ff _
theorem C5n {x:A9}(h:x.ok):(B8 x).size≤300:=by
 have h1:=Cl h.2.1.1;have h2:=Cl h.2.2.1;have h3:=Cl h.2.2.2;rw [B8]
 split
 ·simp only [H4,Xl,Gh,Ep,Hi]
  omega
 exact Ff _
theorem Xd (xs:List ByteArray)(k n:Nat)(h:∀x∈xs,x.size≤n):(xs.getD k default).size≤n:=Zy (p:=fun w:ByteArray=>w.size≤n) xs k default h (Ff _)
theorem C9l {x:Cs}(h:x.ok):(Bs x).size≤300:=by
 have h1:=Cl h.2.1;have h2:=Cl h.2.2;have h3:(Gt x.kind).size≤6:=Xd _ _ 6 Bk;rw [Bs]
 split
 ·split
  ·simp only [H4,Xl,Gh,Ep,Hi]
   omega
  simp only [H4,Xl,Gh,Ep,Hi];omega
 decide
theorem C5g {g:Ax}(o:g.ok):(Ce g).size≤300:=by
 have h1:=Cl o.2.1;have h2:=Cl o.2.2;rw [Ce]
 split
 ·simp only [H4,Xl,Gh,Ep,Hi]
  omega
 exact Ff _
theorem B40 {s:B5}(o:s.ok)(hn:A8n s.az.ay):∀l∈Aw s,l.size≤300:=by
 intro l hl;rw [Aw] at hl
 rcases Hg.1 hl with hl|hl
 ·rcases Hg.1 hl with hl|hl
  ·rcases Hg.1 hl with hl|hl
   ·rcases Hg.1 hl with hl|hl
    ·rw [Hh.1 hl]
     exact C5g o.1
    obtain ⟨x,hx,rfl⟩:=Ea.1 hl;exact C9c (o.1.1.2 x hx) (hn x hx)
   obtain ⟨x,hx,rfl⟩:=Ea.1 hl;exact C5n (o.2.1.2 x hx)
  obtain ⟨x,hx,rfl⟩:=Ea.1 hl;exact C9l (o.2.2.1.2 x hx)
 split at hl
 ·rw [Hh.1 hl,H4]
  have:=Cl o.2.2.2
  show 5+_≤300
  omega
 cases hl
theorem C2f {m:Nat}{s:B5}(h:C0q m s):(Aw s).length≤14+m:=by
 have h1:=h.1.1.2.2.1.2;have h2:=h.2.1.1;have h3:=h.2.2.1.1;rw [Aw]
 split<;>simp<;>omega
theorem B3x (d:Ig)(i h:Int)(xs:List ByteArray)(hi:0≤i∧i≤d.n)(hx:0<xs.length∧xs.length≤1000):MtR HT 139 d.pins (d.cur i h) [.one (En xs)] (fun r:Int×Int×Nat=>(0≤r.1∧r.1≤d.n)∧r.2.2<xs.length) (fun r=>d.cur r.1 r.2.1) (fun r=>[.one (vs (xs.getD r.2.2 default))]):=by
 refine zeP Tryz.func139 fun B b hH hp=>?_;refine Ix (D3 d i h xs.length hi A7) hH hp fun r hr=>?_;refine B6 ?_;exact Ke A0 (r.1,r.2.1,r.2.2.toNat) ⟨hr.1,by have:=hr.2.2.2 A7;show r.2.2.toNat<_;omega⟩ rfl rfl rfl rfl I1
def Pe (m k:Nat):List UInt8:=List.replicate k 10++List.replicate (m-k) 0
theorem A93 {m k:Nat}(h:k≤m):(Pe m k).length=m:=by
 rw [Pe,Dn,Pl,Pl];omega
theorem C10 {m k:Nat}(h:k<m):(Pe m k).set k 10=Pe m (k+1):=by
 rw [Pe,Pe,List.set_append_right _ _ (by rw [Pl];exact Bu _),Pl,Nat.sub_self,show m-k=(m-(k+1))+1 by omega,List.replicate_succ,List.set_cons_zero,List.replicate_succ',Ci]
 rfl
theorem C64 (m:Nat)(h:m≤12001):Df 140 [.one (vi m),.one (.val (.int .u8 10))] [.one (vs ⟨(Pe m m).toArray⟩)]:=by
 refine Dy Tryz.func140 fun W=>?_;refine B6 ?_;refine Fi 0 (W6 (List.replicate m 0)) rfl (C1e (α:=UInt8) (e:=fun b=>[vy b]) m ⟨.inl rfl,trivial⟩) ?_;refine Fs [8] (fun k:Nat=>[(6,.c (vi k))]) (fun k=>[]) (fun k=>[⟨0,W6 (Pe m k)⟩]) (fun k=>k≤m) (fun k=>m-k) fun k hk=>?_;refine E3 (fun h'=>?_) fun h'=>?_
 ·have h':k<m:=by omega
  have hl:=A93 (m:=m) (k:=k) A7;refine B6 ?_;refine Bi (j:=(k:Int)) A0 rfl _ (Cn (j:=k) (xs:=Pe m k) (e:=fun b=>[vy b]) (x:=10) A7 (by exact rfl)) (F1 ?_);refine Co [] (k+1) A7 A7 ⟨rfl,trivial⟩ ⟨A6 W6 (C10 h'),trivial⟩
 have e:k=m:=by omega
 refine D1r A0 rfl rfl rfl rfl rfl rfl rfl rfl rfl (Pe m k) rfl (Ag ?_);exact Af A0 rfl rfl ⟨A6 (fun k=>vs ⟨(Pe m k).toArray⟩) e.symm,trivial⟩
structure JTx where
 k:Nat
 i:Int
 h:Int
 s:ByteArray
set_option maxHeartbeats 4000000 in
theorem C75 (d:Ig)(i h:Int)(hi:0≤i∧i≤d.n):MtR HT 78 d.pins (d.cur i h) [] (fun r:Int×Int×ByteArray=>(0≤r.1∧r.1≤d.n)∧r.2.2.size≤100000) (fun r=>d.cur r.1 r.2.1) (fun r=>[.one (vs r.2.2)]):=by
 refine zeP Tryz.func78 fun B b hH hp=>?_;refine Ix (Sj d i h 30 Bk hi) hH hp fun r hr=>?_;have hk:=A36 hr.2 Bk;have hsm:=B40 hk.1 hr.2.1.1.2.1;have hfe:=C2f hr.2;refine Fh (Us r.2.2 hk.1 A7) ?_;generalize Aw r.2.2=L at hsm hfe ⊢;refine zlW [] (fun j:JTx=>[(3,.c (vs j.s)),(5,.c (vi j.k))]) (fun j=>[⟨0,[.c (.val d.v),.c (vi j.i),.c (vi j.h)]⟩]) (fun j=>[]) (fun j=>(0≤j.i∧j.i≤d.n)∧j.k≤L.length∧j.s.size≤400 * j.k) (fun j=>L.length-j.k) (⟨0,r.1,r.2.1,(⟨#[]⟩:ByteArray)⟩) (⟨hr.1,Ff _,Ff _⟩) fun j hj=>?_;obtain ⟨hi2,hk2,hs2⟩:=hj;refine E3 (fun h'=>?_) fun h'=>?_
 ·have h':j.k<L.length:=by omega
  have hlk:=Xd L j.k 300 hsm;have hlk2:(L.getD (j.k:Int).toNat default).size≤300:=hlk;refine Ix (D3 d j.i j.h 40 hi2 Bk) hH hp fun a ha=>?_;refine Ar ?_;refine C2 (fun c0=>?_) fun c0=>?_
  ·refine Ar ?_
   refine Mg 4 (En [(⟨#[]⟩:ByteArray),(⟨#[35,32,115,97,105,100]⟩:ByteArray),(⟨#[32,32]⟩:ByteArray)]) rfl (Cc rfl Td) ?_;refine Ix (B3x d a.1 a.2.1 [(⟨#[]⟩:ByteArray),(⟨#[35,32,115,97,105,100]⟩:ByteArray),(⟨#[32,32]⟩:ByteArray)] ha.1 Bk) hH hp fun b hb=>?_;have hz:=Xd [(⟨#[]⟩:ByteArray),(⟨#[35,32,115,97,105,100]⟩:ByteArray),(⟨#[32,32]⟩:ByteArray)] b.2.2 10 Bk;refine B6 ?_;refine Ix (My d b.1 b.2.1 60 hb.1 Bk) hH hp fun c9 hc9=>?_;refine Ar ?_;refine C2 (fun cc=>?_) fun cc=>?_
   ·refine B6 ?_
    refine Co [] (⟨j.k+1,c9.1,c9.2.1,(j.s++([(⟨#[]⟩:ByteArray),(⟨#[35,32,115,97,105,100]⟩:ByteArray),(⟨#[32,32]⟩:ByteArray)]:List ByteArray).getD b.2.2 default++⟨#[10]⟩)++L.getD j.k default++⟨#[10]⟩⟩) (⟨hc9,by show j.k+1≤_;omega,by show ((j.s++([(⟨#[]⟩:ByteArray),(⟨#[35,32,115,97,105,100]⟩:ByteArray),(⟨#[32,32]⟩:ByteArray)]:List ByteArray).getD b.2.2 default++⟨#[10]⟩)++L.getD j.k default++⟨#[10]⟩).size≤400 * (j.k+1);simp only [H4,Xl,Gh,Ep,Hi];omega⟩) B3j ⟨rfl,rfl,trivial⟩ trivial
   refine B6 ?_;refine Co [] (⟨j.k+1,c9.1,c9.2.1,(j.s++([(⟨#[]⟩:ByteArray),(⟨#[35,32,115,97,105,100]⟩:ByteArray),(⟨#[32,32]⟩:ByteArray)]:List ByteArray).getD b.2.2 default++⟨#[10]⟩)⟩) (⟨hc9,by show j.k+1≤_;omega,by show ((j.s++([(⟨#[]⟩:ByteArray),(⟨#[35,32,115,97,105,100]⟩:ByteArray),(⟨#[32,32]⟩:ByteArray)]:List ByteArray).getD b.2.2 default++⟨#[10]⟩)).size≤400 * (j.k+1);(try simp only [H4,Xl,Gh,Ep,Hi]);omega⟩) B3j ⟨rfl,rfl,trivial⟩ trivial
  refine Ar ?_;refine C2 (fun c1=>?_) fun c1=>?_
  ·refine Ar ?_
   refine Ix (My d a.1 a.2.1 4 ha.1 Bk) hH hp fun b hb=>?_;refine Ar ?_;refine C2 (fun c2=>?_) fun c2=>?_
   ·refine Mg 4 (En [⟨#[127]⟩,(⟨#[119,97,108,107]⟩:ByteArray),(⟨#[103,114,97,112,104,32,49,32,49]⟩:ByteArray),(⟨#[102,97,105,114,32,51,48,48,49]⟩:ByteArray),⟨#[35,32,1]⟩]) rfl (Cc rfl Td) ?_
    refine Ix (B3x d b.1 b.2.1 [⟨#[127]⟩,(⟨#[119,97,108,107]⟩:ByteArray),(⟨#[103,114,97,112,104,32,49,32,49]⟩:ByteArray),(⟨#[102,97,105,114,32,51,48,48,49]⟩:ByteArray),⟨#[35,32,1]⟩] hb Bk) hH hp fun e he=>?_;have hz:=Xd [⟨#[127]⟩,(⟨#[119,97,108,107]⟩:ByteArray),(⟨#[103,114,97,112,104,32,49,32,49]⟩:ByteArray),(⟨#[102,97,105,114,32,51,48,48,49]⟩:ByteArray),⟨#[35,32,1]⟩] e.2.2 10 Bk;refine B6 ?_;refine Ix (My d e.1 e.2.1 60 he.1 Bk) hH hp fun c9 hc9=>?_;refine Ar ?_;refine C2 (fun cc=>?_) fun cc=>?_
    ·refine B6 ?_
     refine Co [] (⟨j.k+1,c9.1,c9.2.1,(j.s++([⟨#[127]⟩,(⟨#[119,97,108,107]⟩:ByteArray),(⟨#[103,114,97,112,104,32,49,32,49]⟩:ByteArray),(⟨#[102,97,105,114,32,51,48,48,49]⟩:ByteArray),⟨#[35,32,1]⟩]:List ByteArray).getD e.2.2 default++⟨#[10]⟩)++L.getD j.k default++⟨#[10]⟩⟩) (⟨hc9,by show j.k+1≤_;omega,by show ((j.s++([⟨#[127]⟩,(⟨#[119,97,108,107]⟩:ByteArray),(⟨#[103,114,97,112,104,32,49,32,49]⟩:ByteArray),(⟨#[102,97,105,114,32,51,48,48,49]⟩:ByteArray),⟨#[35,32,1]⟩]:List ByteArray).getD e.2.2 default++⟨#[10]⟩)++L.getD j.k default++⟨#[10]⟩).size≤400 * (j.k+1);simp only [H4,Xl,Gh,Ep,Hi];omega⟩) B3j ⟨rfl,rfl,trivial⟩ trivial
    refine B6 ?_;refine Co [] (⟨j.k+1,c9.1,c9.2.1,(j.s++([⟨#[127]⟩,(⟨#[119,97,108,107]⟩:ByteArray),(⟨#[103,114,97,112,104,32,49,32,49]⟩:ByteArray),(⟨#[102,97,105,114,32,51,48,48,49]⟩:ByteArray),⟨#[35,32,1]⟩]:List ByteArray).getD e.2.2 default++⟨#[10]⟩)⟩) (⟨hc9,by show j.k+1≤_;omega,by show ((j.s++([⟨#[127]⟩,(⟨#[119,97,108,107]⟩:ByteArray),(⟨#[103,114,97,112,104,32,49,32,49]⟩:ByteArray),(⟨#[102,97,105,114,32,51,48,48,49]⟩:ByteArray),⟨#[35,32,1]⟩]:List ByteArray).getD e.2.2 default++⟨#[10]⟩)).size≤400 * (j.k+1);(try simp only [H4,Xl,Gh,Ep,Hi]);omega⟩) B3j ⟨rfl,rfl,trivial⟩ trivial
   refine Ix (My d b.1 b.2.1 60 hb Bk) hH hp fun c9 hc9=>?_;refine Ar ?_;refine C2 (fun cc=>?_) fun cc=>?_
   ·refine B6 ?_
    refine Co [] (⟨j.k+1,c9.1,c9.2.1,j.s++L.getD j.k default++⟨#[10]⟩⟩) (⟨hc9,by show j.k+1≤_;omega,by show (j.s++L.getD j.k default++⟨#[10]⟩).size≤400 * (j.k+1);simp only [H4,Xl,Gh,Ep,Hi];omega⟩) B3j ⟨rfl,rfl,trivial⟩ trivial
   refine B6 ?_;refine Co [] (⟨j.k+1,c9.1,c9.2.1,j.s⟩) (⟨hc9,by show j.k+1≤_;omega,by show (j.s).size≤400 * (j.k+1);(try simp only [H4,Xl,Gh,Ep,Hi]);omega⟩) B3j ⟨rfl,rfl,trivial⟩ trivial
  refine Ar ?_;refine Ix (My d a.1 a.2.1 60 ha.1 Bk) hH hp fun c9 hc9=>?_;refine Ar ?_;refine C2 (fun cc=>?_) fun cc=>?_
  ·refine B6 ?_
   refine Co [] (⟨j.k+1,c9.1,c9.2.1,j.s++L.getD j.k default++⟨#[10]⟩⟩) (⟨hc9,by show j.k+1≤_;omega,by show (j.s++L.getD j.k default++⟨#[10]⟩).size≤400 * (j.k+1);simp only [H4,Xl,Gh,Ep,Hi];omega⟩) B3j ⟨rfl,rfl,trivial⟩ trivial
  refine B6 ?_;refine Co [] (⟨j.k+1,c9.1,c9.2.1,j.s⟩) (⟨hc9,by show j.k+1≤_;omega,by show (j.s).size≤400 * (j.k+1);(try simp only [H4,Xl,Gh,Ep,Hi]);omega⟩) B3j ⟨rfl,rfl,trivial⟩ trivial
 refine Ix (My d j.i j.h 30 hi2 Bk) hH hp fun e1 he1=>?_;refine Ar ?_;refine C2 (fun c3=>?_) fun c3=>?_
 ·refine B6 ?_
  refine Ix (D3 d e1.1 e1.2.1 2 he1 Bk) hH hp fun f hf=>?_;have hf3:=hf.2.2.2 Bk;have hf4:=hf.2.1;refine B6 ?_;have hb:=Hn (12001-(j.s.size:Int)-f.2.2) 0 12001 Bk;refine Fh (Ou (12001-(j.s.size:Int)-f.2.2) 0 12001) ?_;obtain ⟨m,hm⟩:∃m:Nat,E5 (12001-(j.s.size:Int)-f.2.2) 0 12001=m:=⟨(E5 (12001-(j.s.size:Int)-f.2.2) 0 12001).toNat,by omega⟩;rw [hm];have hm2:m≤12001:=by omega
  refine Fh (C64 m hm2) ?_;have hl:=A93 (m:=m) (k:=m) (Bu _);have hl2:(⟨(Pe m m).toArray⟩:ByteArray).size=m:=hl;refine B6 ?_;refine Ix (My d f.1 f.2.1 30 hf.1 Bk) hH hp fun g hg=>?_;refine Ar ?_;refine C2 (fun c4=>?_) fun c4=>?_
  ·refine zlW [] (fun j:JTx=>[(3,.c (vs j.s)),(6,.c (vi j.k))]) (fun j=>[⟨0,[.c (.val d.v),.c (vi j.i),.c (vi j.h)]⟩]) (fun j=>[]) (fun j=>(j.i=g.1∧j.h=g.2.1)∧j.k≤200∧j.s.size≤30000+7 * j.k) (fun j=>200-j.k) (⟨0,g.1,g.2.1,(j.s++⟨(Pe m m).toArray⟩)⟩) (⟨⟨rfl,rfl⟩,Ff _,by show ((j.s++⟨(Pe m m).toArray⟩)).size≤30000+7 * 0;(try simp only [H4,Xl,Gh]);omega⟩) fun j hj=>?_
   obtain ⟨⟨hi5,hh5⟩,hk5,hs5⟩:=hj;refine E3 (fun h5=>?_) fun h5=>?_
   ·have h5:j.k<200:=by omega
    refine B6 ?_;refine Co [] (⟨j.k+1,j.i,j.h,j.s++⟨#[119,111,114,107,32,48,10]⟩⟩) (⟨⟨hi5,hh5⟩,by show j.k+1≤200;omega,by show (j.s++⟨#[119,111,114,107,32,48,10]⟩).size≤30000+7 * (j.k+1);simp only [H4,Xl,Gh,Ep,Hi];omega⟩) (by show 200-(j.k+1)<_;omega) ⟨rfl,rfl,trivial⟩ trivial
   exact Ke A0 (j.i,j.h,j.s) ⟨by show 0≤j.i∧j.i≤_;rw [hi5];exact hg,by show j.s.size≤100000;omega⟩ rfl rfl rfl rfl I1
  exact Iy (g.1,g.2.1,(j.s++⟨(Pe m m).toArray⟩)) ⟨hg,by show ((j.s++⟨(Pe m m).toArray⟩)).size≤100000;(try simp only [H4,Xl,Gh]);omega⟩
 refine Ix (My d e1.1 e1.2.1 30 he1 Bk) hH hp fun g hg=>?_;refine Ar ?_;refine C2 (fun c4=>?_) fun c4=>?_
 ·refine zlW [] (fun j:JTx=>[(3,.c (vs j.s)),(6,.c (vi j.k))]) (fun j=>[⟨0,[.c (.val d.v),.c (vi j.i),.c (vi j.h)]⟩]) (fun j=>[]) (fun j=>(j.i=g.1∧j.h=g.2.1)∧j.k≤200∧j.s.size≤30000+7 * j.k) (fun j=>200-j.k) (⟨0,g.1,g.2.1,j.s⟩) (⟨⟨rfl,rfl⟩,Ff _,by show (j.s).size≤30000+7 * 0;(try simp only [H4,Xl,Gh]);omega⟩) fun j hj=>?_
  obtain ⟨⟨hi5,hh5⟩,hk5,hs5⟩:=hj;refine E3 (fun h5=>?_) fun h5=>?_
  ·have h5:j.k<200:=by omega
   refine B6 ?_;refine Co [] (⟨j.k+1,j.i,j.h,j.s++⟨#[119,111,114,107,32,48,10]⟩⟩) (⟨⟨hi5,hh5⟩,by show j.k+1≤200;omega,by show (j.s++⟨#[119,111,114,107,32,48,10]⟩).size≤30000+7 * (j.k+1);simp only [H4,Xl,Gh,Ep,Hi];omega⟩) (by show 200-(j.k+1)<_;omega) ⟨rfl,rfl,trivial⟩ trivial
  exact Ke A0 (j.i,j.h,j.s) ⟨by show 0≤j.i∧j.i≤_;rw [hi5];exact hg,by show j.s.size≤100000;omega⟩ rfl rfl rfl rfl I1
 exact Iy (g.1,g.2.1,j.s) ⟨hg,by show (j.s).size≤100000;(try simp only [H4,Xl,Gh]);omega⟩
end Go.Proofs.YtmhcebdkjgkmlaaGreatDoor
