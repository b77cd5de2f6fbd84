/- Part 35 of the proof that each of the laws FnConsole returns true for every input. No conditions. -/
import Derived.Test.YtmhcebdkjgkmlaaGreatDoorQ34

set_option linter.unusedSimpArgs false
set_option linter.unusedVariables false
set_option maxRecDepth 100000
namespace Go.Proofs.YtmhcebdkjgkmlaaGreatDoor
open Go.Sx
def A2k (x:C3):Prop:=(-9≤x.kind∧x.kind≤1000)∧(-9≤x.a∧x.a≤1000)∧(-9≤x.b∧x.b≤1000)∧x.ax.length≤10∧∀n∈x.ax,-9≤n∧n≤1000
def B2r (xs:List C3):Prop:=∀x∈xs,A2k x
theorem Lv {k a b:Int}{l:List Int}(hk: -9≤k∧k≤1000)(ha: -9≤a∧a≤1000)(hb: -9≤b∧b≤1000)(hl:l.length≤10)(h:∀n∈l,-9≤n∧n≤1000):A2k ⟨k,a,b,l⟩:=⟨hk,ha,hb,hl,h⟩
theorem Lm:B2r []:=fun _ h=>(Ph h).elim
variable {x : C3} {xs : List C3}
theorem K1 (h:A2k x)(hs:B2r xs):B2r (x::xs):=fun y hy=>by
 rcases Ch.1 hy with rfl|hy
 ·exact h
 exact hs y hy
theorem K2 (hs:B2r xs)(h:A2k x):B2r (xs++[x]):=fun y hy=>by
 rcases Ki.1 hy with hy|hy
 ·exact hs y hy
 rw [I3.1 hy];exact h
theorem Ln {j:Nat}(hs:B2r xs)(h:A2k x):B2r (xs.set j x):=fun y hy=>by
 rcases List.mem_or_eq_of_mem_set hy with hy|rfl
 ·exact hs y hy
 exact h
def C02 (G a b:Int):List C3:=[⟨1,0,0,[1]⟩,⟨G,0,0,[2,5]⟩,⟨4,a,0,[3]⟩,⟨2,b,0,[4]⟩,⟨7,0,0,[1]⟩,⟨8,0,0,[]⟩]
def C48 (l:List C3):Prop:=∃G a b k:Int,(G=6∨G=5)∧(1≤a∧a≤3)∧(0≤b∧b≤3)∧(1≤k∧k≤3)∧
 (l=(C02 G a b).set 3 ⟨3,k,0,[4]⟩∨l=[⟨1,0,0,[1]⟩,⟨G,0,0,[2,5]⟩,⟨4,a,0,[3]⟩,⟨2,b,0,[4]⟩,⟨8,0,0,[]⟩,⟨8,0,0,[]⟩]∨l=(C02 G a b).set 2 ⟨4,a,0,[3,4]⟩∨l=(C02 G a b++[(⟨8,0,0,[]⟩:C3)]).set 0 ⟨1,0,0,[1,6]⟩∨l=C02 G a b)
def B8i (g:B0):Prop:=(1≤g.aq∧g.aq≤3)∧(1≤g.cap∧g.cap≤3)∧C48 g.ak
def C46 (g:B0):Prop:=g.w≤64∧B2r g.ak∧(1≤g.ak.length∧g.ak.length≤7)∧(0≤g.aq∧g.aq≤100)∧(0≤g.cap∧g.cap≤100)
set_option maxHeartbeats 1600000 in
theorem C29 (d:Kd)(i h:Int)(hi:0≤i∧i≤d.n):MtR HT 135 d.pins (d.cur i h) [] (fun r:Int×Int×B0=>(0≤r.1∧r.1≤d.n)∧C46 r.2.2∧B8i r.2.2) (fun r=>d.cur r.1 r.2.1) (fun r=>[.agg r.2.2.c]):=by
 refine zeP Tryz.func135 fun B b hH hp=>?_;refine M4 (Ef d i h 3 hi Bq) hH hp fun r hr=>?_;refine B4 ?_;refine M4 (Ef d r.1 r.2.1 3 hr.1 Bq) hH hp fun r2 hr2=>?_;refine B4 ?_;refine Ns 3 (Cn [2,5]) rfl (Cf rfl V7) ?_;refine M4 (Pq d r2.1 r2.2.1 3 hr2.1 Bq) hH hp fun r3 hr3=>?_;refine C1 (fun cg=>?_) fun cg=>?_
 ·refine M4 (Ef d r3.1 r3.2.1 3 hr3 Bq) hH hp fun r4 hr4=>?_
  refine B4 ?_;refine Ns 5 (Cn [3]) rfl (Cf rfl V7) ?_;refine M4 (Ef d r4.1 r4.2.1 4 hr4.1 Bq) hH hp fun r5 hr5=>?_;refine Ns 7 (Cn [4]) rfl (Cf rfl V7) ?_;refine A6h (Ef d r5.1 r5.2.1 3 hr5.1 Bq) hH hp rfl J0 rfl rfl (fun r6 hr6=>goF 28 A0 false ?_);conv=>whnf
  refine ⟨by show _∧_;omega,?_⟩
  conv=>whnf
  refine Eu 9 (Cn [4]) rfl (Cf rfl V7) ?_;refine Eu 11 (Cn [1]) rfl (Cf rfl V7) ?_;refine Eu 14 (Cn [1]) rfl (Cf rfl V7) ?_
  refine Li A0 rfl (l:=[.c (vi 1),.c (vi 0),.c (vi 0),.own 14,.c (vi 6),.c (vi 0),.c (vi 0),.own 3,.c (vi 4),.c (vi (1+r4.2.2)),.c (vi 0),.own 5,.c (vi 2),.c (vi r5.2.2),.c (vi 0),.own 7,.c (vi 7),.c (vi 0),.c (vi 0),.own 11,.c (vi 8),.c (vi 0),.c (vi 0),.c (.val (.slice none 0 0))]) Am
   (cs:=[vi 1,vi 0,vi 0,Cn [1],vi 6,vi 0,vi 0,Cn [2,5],vi 4,vi (1+r4.2.2),vi 0,Cn [3],vi 2,vi r5.2.2,vi 0,Cn [4],vi 7,vi 0,vi 0,Cn [1],vi 8,vi 0,vi 0,.val (.slice none 0 0)]) (ks:=[14,3,5,7,11]) Am Am (It ?_)
  conv=>whnf
  refine Ns 15 (At [⟨1,0,0,[1]⟩,⟨6,0,0,[2,5]⟩,⟨4,1+r4.2.2,0,[3]⟩,⟨2,r5.2.2,0,[4]⟩,⟨7,0,0,[1]⟩,⟨8,0,0,[]⟩]) rfl (O0 rfl C2k) ?_;refine M4 (Ef d r6.1 r6.2.1 6 hr6.1 Bq) hH hp fun r7 hr7=>?_;have q1:=hr.2.2.2 Bq;have p1:=hr.2.1;have q2:=hr2.2.2.2 Bq;have p2:=hr2.2.1;have q4:=hr4.2.2.2 Bq;have p4:=hr4.2.1;have q5:=hr5.2.2.2 Bq;have p5:=hr5.2.1;have q6:=hr6.2.2.2 Bq;have p6:=hr6.2.1;refine C1 (fun c0=>?_) fun c0=>?_
  ·refine ⟨by simp,?_⟩
   conv=>whnf
   refine Bi (j:=3) A0 rfl _ (Cm (j:=3) (xs:=[⟨1,0,0,[1]⟩,⟨6,0,0,[2,5]⟩,⟨4,1+r4.2.2,0,[3]⟩,⟨2,r5.2.2,0,[4]⟩,⟨7,0,0,[1]⟩,⟨8,0,0,[]⟩]) (e:=C3.c) (x:=⟨3,1+r6.2.2,0,[4]⟩) Ey rfl) (Ah ?_);exact Mw A0 (r7.1,r7.2.1,⟨List.set [⟨1,0,0,[1]⟩,⟨6,0,0,[2,5]⟩,⟨4,1+r4.2.2,0,[3]⟩,⟨2,r5.2.2,0,[4]⟩,⟨7,0,0,[1]⟩,⟨8,0,0,[]⟩] 3 ⟨3,1+r6.2.2,0,[4]⟩,1+r.2.2,1+r2.2.2⟩) ⟨hr7.1,⟨Dg rfl,(by repeat' (first|exact Lm|refine K2 ?_ ?_|refine Ln ?_ ?_|refine K1 ?_ ?_|refine Lv ?_ ?_ ?_ ?_ ?_|decide|omega)),⟨Dg rfl,Dg rfl⟩,⟨by show 0≤1+r.2.2;omega,by show 1+r.2.2≤100;omega⟩,⟨by show 0≤1+r2.2.2;omega,by show 1+r2.2.2≤100;omega⟩⟩,⟨by show 1≤1+r.2.2;omega,by show 1+r.2.2≤3;omega⟩,⟨by show 1≤1+r2.2.2;omega,by show 1+r2.2.2≤3;omega⟩,6,1+r4.2.2,r5.2.2,1+r6.2.2,by decide,by omega,by omega,by omega,.inl rfl⟩ rfl rfl rfl rfl A9y
  refine C1 (fun c1=>?_) fun c1=>?_
  ·refine ⟨by simp,?_⟩
   conv=>whnf
   refine Bi (j:=4) A0 rfl _ (B2q (j:=4) rfl) (Ah ?_);refine Oq 15 (At [⟨1,0,0,[1]⟩,⟨6,0,0,[2,5]⟩,⟨4,1+r4.2.2,0,[3]⟩,⟨2,r5.2.2,0,[4]⟩,⟨8,0,0,[]⟩,⟨8,0,0,[]⟩]) rfl (O0 rfl C2k) ?_;exact Mw A0 (r7.1,r7.2.1,⟨[⟨1,0,0,[1]⟩,⟨6,0,0,[2,5]⟩,⟨4,1+r4.2.2,0,[3]⟩,⟨2,r5.2.2,0,[4]⟩,⟨8,0,0,[]⟩,⟨8,0,0,[]⟩],1+r.2.2,1+r2.2.2⟩) ⟨hr7.1,⟨Dg rfl,(by repeat' (first|exact Lm|refine K2 ?_ ?_|refine Ln ?_ ?_|refine K1 ?_ ?_|refine Lv ?_ ?_ ?_ ?_ ?_|decide|omega)),⟨Dg rfl,Dg rfl⟩,⟨by show 0≤1+r.2.2;omega,by show 1+r.2.2≤100;omega⟩,⟨by show 0≤1+r2.2.2;omega,by show 1+r2.2.2≤100;omega⟩⟩,⟨by show 1≤1+r.2.2;omega,by show 1+r.2.2≤3;omega⟩,⟨by show 1≤1+r2.2.2;omega,by show 1+r2.2.2≤3;omega⟩,6,1+r4.2.2,r5.2.2,1+r6.2.2,by decide,by omega,by omega,by omega,.inr (.inl rfl)⟩ rfl rfl rfl rfl A9y
  refine C1 (fun c2=>?_) fun c2=>?_
  ·refine ⟨by simp,?_⟩
   conv=>whnf
   refine Eu 16 (Cn [3,4]) rfl (Cf rfl V7) ?_;refine Bi (j:=2) A0 rfl _ (Cm (j:=2) (xs:=[⟨1,0,0,[1]⟩,⟨6,0,0,[2,5]⟩,⟨4,1+r4.2.2,0,[3]⟩,⟨2,r5.2.2,0,[4]⟩,⟨7,0,0,[1]⟩,⟨8,0,0,[]⟩]) (e:=C3.c) (x:=⟨4,1+r4.2.2,0,[3,4]⟩) Ey rfl) (Ah ?_);exact Mw A0 (r7.1,r7.2.1,⟨List.set [⟨1,0,0,[1]⟩,⟨6,0,0,[2,5]⟩,⟨4,1+r4.2.2,0,[3]⟩,⟨2,r5.2.2,0,[4]⟩,⟨7,0,0,[1]⟩,⟨8,0,0,[]⟩] 2 ⟨4,1+r4.2.2,0,[3,4]⟩,1+r.2.2,1+r2.2.2⟩) ⟨hr7.1,⟨Dg rfl,(by repeat' (first|exact Lm|refine K2 ?_ ?_|refine Ln ?_ ?_|refine K1 ?_ ?_|refine Lv ?_ ?_ ?_ ?_ ?_|decide|omega)),⟨Dg rfl,Dg rfl⟩,⟨by show 0≤1+r.2.2;omega,by show 1+r.2.2≤100;omega⟩,⟨by show 0≤1+r2.2.2;omega,by show 1+r2.2.2≤100;omega⟩⟩,⟨by show 1≤1+r.2.2;omega,by show 1+r.2.2≤3;omega⟩,⟨by show 1≤1+r2.2.2;omega,by show 1+r2.2.2≤3;omega⟩,6,1+r4.2.2,r5.2.2,1+r6.2.2,by decide,by omega,by omega,by omega,.inr (.inr (.inl rfl))⟩ rfl rfl rfl rfl A9y
  refine C1 (fun c3=>?_) fun c3=>?_
  ·refine Eu 16 (At [⟨8,0,0,[]⟩]) rfl (O0 rfl C2k) ?_
   refine B6 A0 rfl (At ([⟨1,0,0,[1]⟩,⟨6,0,0,[2,5]⟩,⟨4,1+r4.2.2,0,[3]⟩,⟨2,r5.2.2,0,[4]⟩,⟨7,0,0,[1]⟩,⟨8,0,0,[]⟩]++[⟨8,0,0,[]⟩])) (Ao (xs:=[⟨1,0,0,[1]⟩,⟨6,0,0,[2,5]⟩,⟨4,1+r4.2.2,0,[3]⟩,⟨2,r5.2.2,0,[4]⟩,⟨7,0,0,[1]⟩,⟨8,0,0,[]⟩]) (x:=⟨8,0,0,[]⟩) (e:=C3.c) rfl) Hd Ey (Ah ?_);refine ⟨by simp,?_⟩;conv=>whnf
   refine Eu 18 (Cn [1,6]) rfl (Cf rfl V7) ?_;refine Bi (j:=0) A0 rfl _ (Cm (j:=0) (xs:=[⟨1,0,0,[1]⟩,⟨6,0,0,[2,5]⟩,⟨4,1+r4.2.2,0,[3]⟩,⟨2,r5.2.2,0,[4]⟩,⟨7,0,0,[1]⟩,⟨8,0,0,[]⟩]++[⟨8,0,0,[]⟩]) (e:=C3.c) (x:=⟨1,0,0,[1,6]⟩) Ey rfl) (Ah ?_);exact Mw A0 (r7.1,r7.2.1,⟨List.set ([⟨1,0,0,[1]⟩,⟨6,0,0,[2,5]⟩,⟨4,1+r4.2.2,0,[3]⟩,⟨2,r5.2.2,0,[4]⟩,⟨7,0,0,[1]⟩,⟨8,0,0,[]⟩]++[⟨8,0,0,[]⟩]) 0 ⟨1,0,0,[1,6]⟩,1+r.2.2,1+r2.2.2⟩) ⟨hr7.1,⟨Dg rfl,(by repeat' (first|exact Lm|refine K2 ?_ ?_|refine Ln ?_ ?_|refine K1 ?_ ?_|refine Lv ?_ ?_ ?_ ?_ ?_|decide|omega)),⟨Dg rfl,Dg rfl⟩,⟨by show 0≤1+r.2.2;omega,by show 1+r.2.2≤100;omega⟩,⟨by show 0≤1+r2.2.2;omega,by show 1+r2.2.2≤100;omega⟩⟩,⟨by show 1≤1+r.2.2;omega,by show 1+r.2.2≤3;omega⟩,⟨by show 1≤1+r2.2.2;omega,by show 1+r2.2.2≤3;omega⟩,6,1+r4.2.2,r5.2.2,1+r6.2.2,by decide,by omega,by omega,by omega,.inr (.inr (.inr (.inl rfl)))⟩ rfl rfl rfl rfl A9y
  exact Mw A0 (r7.1,r7.2.1,⟨[⟨1,0,0,[1]⟩,⟨6,0,0,[2,5]⟩,⟨4,1+r4.2.2,0,[3]⟩,⟨2,r5.2.2,0,[4]⟩,⟨7,0,0,[1]⟩,⟨8,0,0,[]⟩],1+r.2.2,1+r2.2.2⟩) ⟨hr7.1,⟨Dg rfl,(by repeat' (first|exact Lm|refine K2 ?_ ?_|refine Ln ?_ ?_|refine K1 ?_ ?_|refine Lv ?_ ?_ ?_ ?_ ?_|decide|omega)),⟨Dg rfl,Dg rfl⟩,⟨by show 0≤1+r.2.2;omega,by show 1+r.2.2≤100;omega⟩,⟨by show 0≤1+r2.2.2;omega,by show 1+r2.2.2≤100;omega⟩⟩,⟨by show 1≤1+r.2.2;omega,by show 1+r.2.2≤3;omega⟩,⟨by show 1≤1+r2.2.2;omega,by show 1+r2.2.2≤3;omega⟩,6,1+r4.2.2,r5.2.2,1+r6.2.2,by decide,by omega,by omega,by omega,.inr (.inr (.inr (.inr rfl)))⟩ rfl rfl rfl rfl A9y
 refine M4 (Ef d r3.1 r3.2.1 3 hr3 Bq) hH hp fun r4 hr4=>?_;refine B4 ?_;refine Ns 5 (Cn [3]) rfl (Cf rfl V7) ?_;refine M4 (Ef d r4.1 r4.2.1 4 hr4.1 Bq) hH hp fun r5 hr5=>?_;refine Ns 7 (Cn [4]) rfl (Cf rfl V7) ?_;refine A6h (Ef d r5.1 r5.2.1 3 hr5.1 Bq) hH hp rfl J0 rfl rfl (fun r6 hr6=>goF 28 A0 false ?_);conv=>whnf
 refine ⟨by show _∧_;omega,?_⟩
 conv=>whnf
 refine Eu 9 (Cn [4]) rfl (Cf rfl V7) ?_;refine Eu 11 (Cn [1]) rfl (Cf rfl V7) ?_;refine Eu 14 (Cn [1]) rfl (Cf rfl V7) ?_
 refine Li A0 rfl (l:=[.c (vi 1),.c (vi 0),.c (vi 0),.own 14,.c (vi 5),.c (vi 0),.c (vi 0),.own 3,.c (vi 4),.c (vi (1+r4.2.2)),.c (vi 0),.own 5,.c (vi 2),.c (vi r5.2.2),.c (vi 0),.own 7,.c (vi 7),.c (vi 0),.c (vi 0),.own 11,.c (vi 8),.c (vi 0),.c (vi 0),.c (.val (.slice none 0 0))]) Am
  (cs:=[vi 1,vi 0,vi 0,Cn [1],vi 5,vi 0,vi 0,Cn [2,5],vi 4,vi (1+r4.2.2),vi 0,Cn [3],vi 2,vi r5.2.2,vi 0,Cn [4],vi 7,vi 0,vi 0,Cn [1],vi 8,vi 0,vi 0,.val (.slice none 0 0)]) (ks:=[14,3,5,7,11]) Am Am (It ?_)
 conv=>whnf
 refine Ns 15 (At [⟨1,0,0,[1]⟩,⟨5,0,0,[2,5]⟩,⟨4,1+r4.2.2,0,[3]⟩,⟨2,r5.2.2,0,[4]⟩,⟨7,0,0,[1]⟩,⟨8,0,0,[]⟩]) rfl (O0 rfl C2k) ?_;refine M4 (Ef d r6.1 r6.2.1 6 hr6.1 Bq) hH hp fun r7 hr7=>?_;have q1:=hr.2.2.2 Bq;have p1:=hr.2.1;have q2:=hr2.2.2.2 Bq;have p2:=hr2.2.1;have q4:=hr4.2.2.2 Bq;have p4:=hr4.2.1;have q5:=hr5.2.2.2 Bq;have p5:=hr5.2.1;have q6:=hr6.2.2.2 Bq;have p6:=hr6.2.1;refine C1 (fun c0=>?_) fun c0=>?_
 ·refine ⟨by simp,?_⟩
  conv=>whnf
  refine Bi (j:=3) A0 rfl _ (Cm (j:=3) (xs:=[⟨1,0,0,[1]⟩,⟨5,0,0,[2,5]⟩,⟨4,1+r4.2.2,0,[3]⟩,⟨2,r5.2.2,0,[4]⟩,⟨7,0,0,[1]⟩,⟨8,0,0,[]⟩]) (e:=C3.c) (x:=⟨3,1+r6.2.2,0,[4]⟩) Ey rfl) (Ah ?_);exact Mw A0 (r7.1,r7.2.1,⟨List.set [⟨1,0,0,[1]⟩,⟨5,0,0,[2,5]⟩,⟨4,1+r4.2.2,0,[3]⟩,⟨2,r5.2.2,0,[4]⟩,⟨7,0,0,[1]⟩,⟨8,0,0,[]⟩] 3 ⟨3,1+r6.2.2,0,[4]⟩,1+r.2.2,1+r2.2.2⟩) ⟨hr7.1,⟨Dg rfl,(by repeat' (first|exact Lm|refine K2 ?_ ?_|refine Ln ?_ ?_|refine K1 ?_ ?_|refine Lv ?_ ?_ ?_ ?_ ?_|decide|omega)),⟨Dg rfl,Dg rfl⟩,⟨by show 0≤1+r.2.2;omega,by show 1+r.2.2≤100;omega⟩,⟨by show 0≤1+r2.2.2;omega,by show 1+r2.2.2≤100;omega⟩⟩,⟨by show 1≤1+r.2.2;omega,by show 1+r.2.2≤3;omega⟩,⟨by show 1≤1+r2.2.2;omega,by show 1+r2.2.2≤3;omega⟩,5,1+r4.2.2,r5.2.2,1+r6.2.2,by decide,by omega,by omega,by omega,.inl rfl⟩ rfl rfl rfl rfl A9y
 refine C1 (fun c1=>?_) fun c1=>?_
 ·refine ⟨by simp,?_⟩
  conv=>whnf
  refine Bi (j:=4) A0 rfl _ (B2q (j:=4) rfl) (Ah ?_);refine Oq 15 (At [⟨1,0,0,[1]⟩,⟨5,0,0,[2,5]⟩,⟨4,1+r4.2.2,0,[3]⟩,⟨2,r5.2.2,0,[4]⟩,⟨8,0,0,[]⟩,⟨8,0,0,[]⟩]) rfl (O0 rfl C2k) ?_;exact Mw A0 (r7.1,r7.2.1,⟨[⟨1,0,0,[1]⟩,⟨5,0,0,[2,5]⟩,⟨4,1+r4.2.2,0,[3]⟩,⟨2,r5.2.2,0,[4]⟩,⟨8,0,0,[]⟩,⟨8,0,0,[]⟩],1+r.2.2,1+r2.2.2⟩) ⟨hr7.1,⟨Dg rfl,(by repeat' (first|exact Lm|refine K2 ?_ ?_|refine Ln ?_ ?_|refine K1 ?_ ?_|refine Lv ?_ ?_ ?_ ?_ ?_|decide|omega)),⟨Dg rfl,Dg rfl⟩,⟨by show 0≤1+r.2.2;omega,by show 1+r.2.2≤100;omega⟩,⟨by show 0≤1+r2.2.2;omega,by show 1+r2.2.2≤100;omega⟩⟩,⟨by show 1≤1+r.2.2;omega,by show 1+r.2.2≤3;omega⟩,⟨by show 1≤1+r2.2.2;omega,by show 1+r2.2.2≤3;omega⟩,5,1+r4.2.2,r5.2.2,1+r6.2.2,by decide,by omega,by omega,by omega,.inr (.inl rfl)⟩ rfl rfl rfl rfl A9y
 refine C1 (fun c2=>?_) fun c2=>?_
 ·refine ⟨by simp,?_⟩
  conv=>whnf
  refine Eu 16 (Cn [3,4]) rfl (Cf rfl V7) ?_;refine Bi (j:=2) A0 rfl _ (Cm (j:=2) (xs:=[⟨1,0,0,[1]⟩,⟨5,0,0,[2,5]⟩,⟨4,1+r4.2.2,0,[3]⟩,⟨2,r5.2.2,0,[4]⟩,⟨7,0,0,[1]⟩,⟨8,0,0,[]⟩]) (e:=C3.c) (x:=⟨4,1+r4.2.2,0,[3,4]⟩) Ey rfl) (Ah ?_);exact Mw A0 (r7.1,r7.2.1,⟨List.set [⟨1,0,0,[1]⟩,⟨5,0,0,[2,5]⟩,⟨4,1+r4.2.2,0,[3]⟩,⟨2,r5.2.2,0,[4]⟩,⟨7,0,0,[1]⟩,⟨8,0,0,[]⟩] 2 ⟨4,1+r4.2.2,0,[3,4]⟩,1+r.2.2,1+r2.2.2⟩) ⟨hr7.1,⟨Dg rfl,(by repeat' (first|exact Lm|refine K2 ?_ ?_|refine Ln ?_ ?_|refine K1 ?_ ?_|refine Lv ?_ ?_ ?_ ?_ ?_|decide|omega)),⟨Dg rfl,Dg rfl⟩,⟨by show 0≤1+r.2.2;omega,by show 1+r.2.2≤100;omega⟩,⟨by show 0≤1+r2.2.2;omega,by show 1+r2.2.2≤100;omega⟩⟩,⟨by show 1≤1+r.2.2;omega,by show 1+r.2.2≤3;omega⟩,⟨by show 1≤1+r2.2.2;omega,by show 1+r2.2.2≤3;omega⟩,5,1+r4.2.2,r5.2.2,1+r6.2.2,by decide,by omega,by omega,by omega,.inr (.inr (.inl rfl))⟩ rfl rfl rfl rfl A9y
 refine C1 (fun c3=>?_) fun c3=>?_
 ·refine Eu 16 (At [⟨8,0,0,[]⟩]) rfl (O0 rfl C2k) ?_
  refine B6 A0 rfl (At ([⟨1,0,0,[1]⟩,⟨5,0,0,[2,5]⟩,⟨4,1+r4.2.2,0,[3]⟩,⟨2,r5.2.2,0,[4]⟩,⟨7,0,0,[1]⟩,⟨8,0,0,[]⟩]++[⟨8,0,0,[]⟩])) (Ao (xs:=[⟨1,0,0,[1]⟩,⟨5,0,0,[2,5]⟩,⟨4,1+r4.2.2,0,[3]⟩,⟨2,r5.2.2,0,[4]⟩,⟨7,0,0,[1]⟩,⟨8,0,0,[]⟩]) (x:=⟨8,0,0,[]⟩) (e:=C3.c) rfl) Hd Ey (Ah ?_);refine ⟨by simp,?_⟩;conv=>whnf
  refine Eu 18 (Cn [1,6]) rfl (Cf rfl V7) ?_;refine Bi (j:=0) A0 rfl _ (Cm (j:=0) (xs:=[⟨1,0,0,[1]⟩,⟨5,0,0,[2,5]⟩,⟨4,1+r4.2.2,0,[3]⟩,⟨2,r5.2.2,0,[4]⟩,⟨7,0,0,[1]⟩,⟨8,0,0,[]⟩]++[⟨8,0,0,[]⟩]) (e:=C3.c) (x:=⟨1,0,0,[1,6]⟩) Ey rfl) (Ah ?_);exact Mw A0 (r7.1,r7.2.1,⟨List.set ([⟨1,0,0,[1]⟩,⟨5,0,0,[2,5]⟩,⟨4,1+r4.2.2,0,[3]⟩,⟨2,r5.2.2,0,[4]⟩,⟨7,0,0,[1]⟩,⟨8,0,0,[]⟩]++[⟨8,0,0,[]⟩]) 0 ⟨1,0,0,[1,6]⟩,1+r.2.2,1+r2.2.2⟩) ⟨hr7.1,⟨Dg rfl,(by repeat' (first|exact Lm|refine K2 ?_ ?_|refine Ln ?_ ?_|refine K1 ?_ ?_|refine Lv ?_ ?_ ?_ ?_ ?_|decide|omega)),⟨Dg rfl,Dg rfl⟩,⟨by show 0≤1+r.2.2;omega,by show 1+r.2.2≤100;omega⟩,⟨by show 0≤1+r2.2.2;omega,by show 1+r2.2.2≤100;omega⟩⟩,⟨by show 1≤1+r.2.2;omega,by show 1+r.2.2≤3;omega⟩,⟨by show 1≤1+r2.2.2;omega,by show 1+r2.2.2≤3;omega⟩,5,1+r4.2.2,r5.2.2,1+r6.2.2,by decide,by omega,by omega,by omega,.inr (.inr (.inr (.inl rfl)))⟩ rfl rfl rfl rfl A9y
 exact Mw A0 (r7.1,r7.2.1,⟨[⟨1,0,0,[1]⟩,⟨5,0,0,[2,5]⟩,⟨4,1+r4.2.2,0,[3]⟩,⟨2,r5.2.2,0,[4]⟩,⟨7,0,0,[1]⟩,⟨8,0,0,[]⟩],1+r.2.2,1+r2.2.2⟩) ⟨hr7.1,⟨Dg rfl,(by repeat' (first|exact Lm|refine K2 ?_ ?_|refine Ln ?_ ?_|refine K1 ?_ ?_|refine Lv ?_ ?_ ?_ ?_ ?_|decide|omega)),⟨Dg rfl,Dg rfl⟩,⟨by show 0≤1+r.2.2;omega,by show 1+r.2.2≤100;omega⟩,⟨by show 0≤1+r2.2.2;omega,by show 1+r2.2.2≤100;omega⟩⟩,⟨by show 1≤1+r.2.2;omega,by show 1+r.2.2≤3;omega⟩,⟨by show 1≤1+r2.2.2;omega,by show 1+r2.2.2≤3;omega⟩,5,1+r4.2.2,r5.2.2,1+r6.2.2,by decide,by omega,by omega,by omega,.inr (.inr (.inr (.inr rfl)))⟩ rfl rfl rfl rfl A9y
structure JPk where
 k:Nat
 i:Int
 h:Int
 xs:List Do
structure OkR (w:Ae):Prop where
 q:∀y∈w.ar,y.ok
 s:∀y∈w.aa,y.ok
 i:∀y∈w.au,y.ok
 c:∀y∈w.cells,y.ok
 n:∀y∈w.al,Gv .i64 y
 d:∀y∈w.an,y.ok
theorem C91 {ins:List Aa}(h:D1s ins):∀y∈ins,y.ok:=fun y hy=>by
 obtain ⟨h1,h2,h3,h4,h5⟩:=h.2 y hy;simp only [Aa.ok,Iz.ok,Gv];omega
structure OkL (l:D5):Prop where
 c:Gv .i64 l.cap
 q:∀y∈l.ar,y.ok
 r:Gv .i64 l.bv
 b:Gv .i64 l.back
 s:Gv .i64 l.bj
 g:Gv .i64 l.got
theorem C7m {l:List C3}(h:C48 l):Gw ⟨l,1,1⟩:=by
 obtain ⟨G,a,b,k,hG,ha,hb,hk,hl⟩:=h;have ha:a=1∨a=2∨a=3:=by omega
 have hb:b=0∨b=1∨b=2∨b=3:=by omega
 have hk:k=1∨k=2∨k=3:=by omega
 rcases hl with rfl|rfl|rfl|rfl|rfl
 ·show Gw ⟨[⟨1,0,0,[1]⟩,⟨G,0,0,[2,5]⟩,⟨4,a,0,[3]⟩,⟨3,k,0,[4]⟩,⟨7,0,0,[1]⟩,⟨8,0,0,[]⟩],1,1⟩
  rcases hG with rfl|rfl<;>rcases ha with rfl|rfl|rfl<;>rcases hk with rfl|rfl|rfl<;>decide
 ·rcases hG with rfl|rfl<;>rcases ha with rfl|rfl|rfl<;>rcases hb with rfl|rfl|rfl|rfl<;>decide
 ·rcases hG with rfl|rfl<;>rcases ha with rfl|rfl|rfl<;>rcases hb with rfl|rfl|rfl|rfl<;>decide
 ·rcases hG with rfl|rfl<;>rcases ha with rfl|rfl|rfl<;>rcases hb with rfl|rfl|rfl|rfl<;>decide
 rcases hG with rfl|rfl<;>rcases ha with rfl|rfl|rfl<;>rcases hb with rfl|rfl|rfl|rfl<;>decide
theorem C6o {g:B0}(h:B8i g):Gw g:=by
 obtain ⟨h1,h2,hn⟩:=h
 have:Gw ⟨g.ak,1,1⟩:=C7m hn
 exact ⟨this.1,by omega,by omega,this.2.2.2⟩
def B47 (p:Do):Prop:=(1≤p.kind∧p.kind≤7)∧(0≤p.a∧p.a≤2)∧(0≤p.b∧p.b≤2)∧(p.kind≠4→p.kind≠5→p.b=0)
theorem C71 {p:Do}(h:B47 p):p.ok:=by
 obtain ⟨h1,h2,h3,_⟩:=h;refine ⟨?_,?_,?_⟩<;>(show _∧_;omega)
theorem C30 {k:Nat}(h:k<13):1≤([1,1,1,2,3,3,3,4,4,5,6,6,7]:List Int).getD k 0∧([1,1,1,2,3,3,3,4,4,5,6,6,7]:List Int).getD k 0≤7:=by
 have hm:∀w∈([1,1,1,2,3,3,3,4,4,5,6,6,7]:List Int),1≤w∧w≤7:=by decide
 exact hm _ (Al (d:=0) h)
theorem B6u {n:Int}(h:0≤n):0≤n.tmod 3∧n.tmod 3≤2:=by
 have h1:=X2 n (show (0:Int)<3 by decide)
 have h2:=A3n 3 h;omega
theorem C52 (d:Kd)(i h:Int)(hi:0≤i∧i≤d.n):MtR HT 195 d.pins (d.cur i h) [] (fun r:Int×Int×Do=>(0≤r.1∧r.1≤d.n)∧B47 r.2.2) (fun r=>d.cur r.1 r.2.1) (fun r=>[.agg r.2.2.c]):=by
 refine zeP Tryz.func195 fun B b hH hp=>?_;refine Ns 2 (Cn [1,1,1,2,3,3,3,4,4,5,6,6,7]) rfl (Cf rfl V7) ?_;refine M4 (A6n d i h [1,1,1,2,3,3,3,4,4,5,6,6,7] hi Bq) hH hp fun r hr=>?_;have hk:=C30 hr.2;refine M4 (Ef d r.1 r.2.1 3 hr.1 Bq) hH hp fun r2 hr2=>?_;have h20:=hr2.2.1;have h21:=hr2.2.2.2 Bq;refine C1 (fun c1=>?_) fun c1=>?_
 ·have e4:([1,1,1,2,3,3,3,4,4,5,6,6,7]:List Int).getD r.2.2 0=4:=eq_of_beq c1
  repeat' (first|(refine Ho ?_;conv=>whnf)|(refine Hp ?_;conv=>whnf)|(refine ⟨fun h=>?_,fun h=>?_⟩<;>conv=>whnf)|(refine Gn ?_;conv=>whnf)|fail)
  refine Rc rfl (Ib 0 rfl (Ib 3 rfl (T8 1 4 ?_ ?_)))
  focus
   refine Av (Ib 2 rfl (P4 4 ?_));refine M4 (Ef d r2.1 r2.2.1 2 hr2.1 Bq) hH hp fun r3 hr3=>?_;refine Av ?_
  rotate_left 1
  focus
   refine M4 (Ef d r2.1 r2.2.1 2 hr2.1 Bq) hH hp fun r3 hr3=>?_;refine Av (P4 1 ?_);refine Av (Ib 2 rfl ?_)
  all_goals
   refine Ib 5 rfl (Ib 6 rfl (Ib 7 rfl (P4 8 ?_)));refine Av (Rb Am (Ah ?_))
  all_goals
   exact Jf (r3.1,r3.2.1,⟨[1,1,1,2,3,3,3,4,4,5,6,6,7].getD r.2.2 0,r2.2.2,(r2.2.2+1+r3.2.2).tmod 3⟩) ⟨hr3.1,hk,⟨h20,by show r2.2.2≤2;omega⟩,B6u (by have:=hr3.2.1;omega),fun n=>absurd e4 n⟩
 repeat' (first|(refine Ho ?_;conv=>whnf)|(refine Hp ?_;conv=>whnf)|(refine ⟨fun h=>?_,fun h=>?_⟩<;>conv=>whnf)|(refine Gn ?_;conv=>whnf)|fail)
 ·have e5:([1,1,1,2,3,3,3,4,4,5,6,6,7]:List Int).getD r.2.2 0=5:=by first|exact eq_of_beq h|(rename_i h5;exact eq_of_beq h5)
  refine Rc rfl (Ib 0 rfl (Ib 3 rfl (T8 1 4 ?_ ?_)))
  focus
   refine Av (Ib 2 rfl (P4 4 ?_));refine M4 (Ef d r2.1 r2.2.1 2 hr2.1 Bq) hH hp fun r3 hr3=>?_;refine Av ?_
  rotate_left 1
  focus
   refine M4 (Ef d r2.1 r2.2.1 2 hr2.1 Bq) hH hp fun r3 hr3=>?_;refine Av (P4 1 ?_);refine Av (Ib 2 rfl ?_)
  all_goals
   refine Ib 5 rfl (Ib 6 rfl (Ib 7 rfl (P4 8 ?_)));refine Av (Rb Am (Ah ?_))
  all_goals
   exact Mw A0 (r3.1,r3.2.1,⟨[1,1,1,2,3,3,3,4,4,5,6,6,7].getD r.2.2 0,r2.2.2,(r2.2.2+1+r3.2.2).tmod 3⟩) ⟨hr3.1,hk,⟨h20,by show r2.2.2≤2;omega⟩,B6u (by have:=hr3.2.1;omega),fun _ n=>absurd e5 n⟩ rfl rfl rfl rfl J0
 exact Mw A0 (r2.1,r2.2.1,⟨[1,1,1,2,3,3,3,4,4,5,6,6,7].getD r.2.2 0,r2.2.2,0⟩) ⟨hr2.1,hk,⟨h20,by show r2.2.2≤2;omega⟩,⟨Tj _,by show (0:Int)≤2;decide⟩,fun _ _=>rfl⟩ rfl rfl rfl rfl J0
theorem C3b (d:Kd)(i h:Int)(m:Nat)(hm:m≤1000)(hi:0≤i∧i≤d.n):MtR HT 137 d.pins (d.cur i h) [.one (vi m)] (fun r:Int×Int×List Do=>(0≤r.1∧r.1≤d.n)∧r.2.2.length≤m∧∀p∈r.2.2,B47 p) (fun r=>d.cur r.1 r.2.1) (fun r=>[.one (D7 r.2.2)]):=by
 refine zeP Tryz.func137 fun B b hH hp=>?_;refine Eu 1 (D7 []) rfl (Cf rfl V7) ?_;refine zlW [7] (fun j:JPk=>[(6,.c (vi j.k))]) (fun j=>[⟨0,[.c (.val d.v),.c (vi j.i),.c (vi j.h)]⟩]) (fun j=>[⟨1,D7 j.xs⟩]) (fun j=>(0≤j.i∧j.i≤d.n)∧j.k≤m∧j.xs.length=j.k∧∀p∈j.xs,B47 p) (fun j=>m-j.k) (⟨0,i,h,[]⟩) (⟨hi,Fe _,rfl,fun _ h=>by cases h⟩) fun j hj=>?_;obtain ⟨hi,hk,hx,ho⟩:=hj;refine B4 ?_;refine M4 (Ef d j.i j.h (m+1) hi A7) hH hp fun r hr=>?_;refine Dv (fun hlt=>?_) fun hlt=>?_
 ·have hlt2:(r.2.2:Int)<m+1:=hr.2.2.2 A7
  refine M4 (C52 d r.1 r.2.1 hr.1) hH hp fun r2 hr2=>?_;refine B6 A0 rfl (D7 (j.xs++[r2.2.2])) (Ao rfl) Hd A7 (Em ?_);refine Cc [(1,3)] (⟨j.k+1,r2.1,r2.2.1,j.xs++[r2.2.2]⟩) (⟨hr2.1,by show j.k+1≤m;omega,by simp [hx],fun p hp=>(Ki.1 hp).elim (ho p) fun hp=>by rw [I3.1 hp];exact hr2.2⟩) (by show m-(j.k+1)<_;omega) ⟨rfl,trivial⟩ ⟨rfl,trivial⟩
 exact Jf (r.1,r.2.1,j.xs) ⟨hr.1,by show j.xs.length≤m;omega,ho⟩
def D1u (m:Nat) (s:C7):Prop:=(C46 s.az∧B8i s.az)∧D1s s.au∧(s.ae.length≤m∧∀p∈s.ae,B47 p)∧(s.bq=0∨s.bq=30∨s.bq=200)
theorem C79 (k:Nat):([0,0,30,200]:List Int).getD k 0=0∨([0,0,30,200]:List Int).getD k 0=30∨([0,0,30,200]:List Int).getD k 0=200:=
 A68 (p:=fun w:Int=>w=0∨w=30∨w=200) _ k 0 Bq (.inl rfl)
set_option maxHeartbeats 2000000 in
theorem B1b (d:Kd)(i h:Int)(m:Nat)(hm:m≤1000)(hi:0≤i∧i≤d.n):MtR HT 75 d.pins (d.cur i h) [.one (vi m)] (fun r:Int×Int×C7=>(0≤r.1∧r.1≤d.n)∧D1u m r.2.2) (fun r=>d.cur r.1 r.2.1) (fun r=>[.agg r.2.2.c]):=by
 refine zeP Tryz.func75 fun B b hH hp=>?_;refine M4 (C29 d i h hi) hH hp fun r1 hr1=>?_;refine M4 (C3a d r1.1 r1.2.1 hr1.1) hH hp fun r2 hr2=>?_;refine M4 (C3b d r2.1 r2.2.1 m hm hr2.1) hH hp fun r3 hr3=>?_;refine Ns 5 (Cn [0,0,30,200]) rfl (Cf rfl V7) ?_;refine M4 (A6n d r3.1 r3.2.1 [0,0,30,200] hr3.1 Bq) hH hp fun r4 hr4=>?_;exact Mw A0 (r4.1,r4.2.1,(⟨r1.2.2,r2.2.2,r3.2.2,[0,0,30,200].getD r4.2.2 0⟩:C7)) ⟨hr4.1,hr1.2,hr2.2,hr3.2,C79 _⟩ rfl rfl rfl rfl J0
theorem C15 {m:Nat}{s:C7}(h:D1u m s)(hm:m≤1000):s.ok∧s.w≤1100:=by
 obtain ⟨⟨hg,hs⟩,hi,hp,hr⟩:=h;have e:s.w=s.az.w+s.au.length+s.ae.length:=rfl;have h1:=hg.1;have h2:=hi.1;have h3:=hp.1;refine ⟨⟨B51 (C6o hs),⟨by simp only [maxLen];omega,C91 hi⟩,⟨by simp only [maxLen];omega,fun p h=>C71 (hp.2 p h)⟩,?_⟩,by omega⟩
 rcases hr with hr|hr|hr<;>rw [hr]<;>exact ⟨by decide,by decide⟩
def Io (s:C7):List ByteArray:=[Gj s.az]++s.az.ak.map Dz++s.au.map Dx++s.ae.map F7++(if s.bq>0 then [(⟨#[102,97,105,114,32]⟩:ByteArray)++I9 s.bq] else [])
theorem V3 (x:C7)(ox:x.ok)(hx:x.w≤1048576):Di 26 [.agg x.c] [.one (C6 (Io x))]:=by
 have hw:x.az.w+x.au.length+x.ae.length≤1048576:=hx;have hg:x.az.w≤1048576:=by omega
 have hn:=B0.nodes_le hg;have dr:=B8 ox.2.2.2;refine E7 Tryz.func26 fun W=>?_
 repeat' (first|(refine Ho ?_;conv=>whnf)|(refine Hp ?_;conv=>whnf)|(refine ⟨fun h=>?_,fun h=>?_⟩<;>conv=>whnf)|(refine Aq (B0n x.az ox.1 hg) rfl (Ah ?_))|(refine Cp ?_;conv=>whnf)|fail)
 refine Eu 1 (C6 [Gj x.az]) rfl (A6i rfl) ?_;refine Fx [10] (fun k:Nat=>[(4,.c (vi k))]) (fun k=>[⟨0,[.c (At x.az.ak),.c (vi x.az.aq),.c (vi x.az.cap),.c (A9 x.au),.c (D7 x.ae),.c (vi x.bq)]⟩]) (fun k=>[⟨1,C6 ([Gj x.az]++(x.az.ak.take k).map Dz)⟩]) (fun k=>k≤x.az.ak.length) (fun k=>x.az.ak.length-k) fun k hk=>?_;refine Dv (fun h'=>?_) fun h'=>?_
 ·have h':k<x.az.ak.length:=by omega
  have hwk:=B0.node_le hg h';refine B4 ?_;refine Aq (A16 (x.az.ak.getD k default) (ox.1.1.2 _ (Al (d:=default) h')) hwk) rfl (Ah ?_);refine B6 A0 rfl (C6 ([Gj x.az]++(x.az.ak.take k).map Dz++[Dz (x.az.ak.getD k default)])) (Ao rfl) Hd Pn (Em ?_);refine Cc [(1,3)] (k+1) A7 A7 ⟨rfl,trivial⟩ ⟨A6 C6 (by rw [T2 _ _ _ h',Cr]),trivial⟩
 have e1:k=x.az.ak.length:=by omega
 refine Fx [] (fun j:Nat=>[(5,.c (vi j))]) (fun j=>[⟨0,[.c (At x.az.ak),.c (vi x.az.aq),.c (vi x.az.cap),.c (A9 x.au),.c (D7 x.ae),.c (vi x.bq)]⟩]) (fun j=>[⟨1,C6 ([Gj x.az]++(x.az.ak.take k).map Dz++(x.au.take j).map Dx)⟩]) (fun j=>j≤x.au.length) (fun j=>x.au.length-j) fun j hj=>?_;refine Dv (fun h2=>?_) fun h2=>?_
 ·have h2:j<x.au.length:=by omega
  refine B4 ?_;refine Aq (Yt (x.au.getD j default) (ox.2.1.2 _ (Al (d:=default) h2))) rfl (Ah ?_);refine B6 A0 rfl (C6 ([Gj x.az]++(x.az.ak.take k).map Dz++(x.au.take j).map Dx++[Dx (x.au.getD j default)])) (Ao rfl) Hd Pn (Em ?_);refine Cc [(1,3)] (j+1) A7 A7 ⟨rfl,trivial⟩ ⟨A6 C6 (by rw [T2 _ _ _ h2];simp only [Cr]),trivial⟩
 have e2:j=x.au.length:=by omega
 refine Fx [] (fun i:Nat=>[(6,.c (vi i))]) (fun i=>[⟨0,[.c (At x.az.ak),.c (vi x.az.aq),.c (vi x.az.cap),.c (A9 x.au),.c (D7 x.ae),.c (vi x.bq)]⟩]) (fun i=>[⟨1,C6 ([Gj x.az]++(x.az.ak.take k).map Dz++(x.au.take j).map Dx++(x.ae.take i).map F7)⟩]) (fun i=>i≤x.ae.length) (fun i=>x.ae.length-i) fun i hi=>?_;refine Dv (fun h3=>?_) fun h3=>?_
 ·have h3:i<x.ae.length:=by omega
  refine B4 ?_;refine Aq (Um (x.ae.getD i default) (ox.2.2.1.2 _ (Al (d:=default) h3))) rfl (Ah ?_);refine B6 A0 rfl (C6 ([Gj x.az]++(x.az.ak.take k).map Dz++(x.au.take j).map Dx++(x.ae.take i).map F7++[F7 (x.ae.getD i default)])) (Ao rfl) Hd Pn (Em ?_);refine Cc [(1,3)] (i+1) A7 A7 ⟨rfl,trivial⟩ ⟨A6 C6 (by rw [T2 _ _ _ h3];simp only [Cr]),trivial⟩
 have e3:i=x.ae.length:=by omega
 have hT:[Gj x.az]++(x.az.ak.take k).map Dz++(x.au.take j).map Dx++(x.ae.take i).map F7=[Gj x.az]++x.az.ak.map Dz++x.au.map Dx++x.ae.map F7:=by
  rw [e1,e2,e3,H4,H4,H4]
 refine C1 (fun hr=>?_) fun hr=>?_
 ·have hr:x.bq>0:=Bn hr
  refine Aq (Cq x.bq ox.2.2.2) rfl (Em ?_);refine B6 A0 rfl (C6 ([Gj x.az]++(x.az.ak.take k).map Dz++(x.au.take j).map Dx++(x.ae.take i).map F7++[(⟨#[102,97,105,114,32]⟩:ByteArray)++I9 x.bq])) (Ao rfl) Hd Pn (Ah ?_);refine An A0 rfl rfl ⟨?_,trivial⟩;exact A6 C6 (by rw [hT,Io,Ak hr])
 have hr:¬ x.bq>0:=Cv hr;refine An A0 rfl rfl ⟨?_,trivial⟩;exact A6 C6 (by rw [hT,Io,Ab hr,I4])
end Go.Proofs.YtmhcebdkjgkmlaaGreatDoor
