/- Part 17 of the proof that each of the laws FnScriptsBack returns true for every input. No conditions. -/
import Derived.Test.YtmhcebdkjgkmlaaGreatDoorR12

set_option linter.unusedSimpArgs false
set_option linter.unusedVariables false
set_option maxRecDepth 100000
namespace Go.Proofs.YtmhcebdkjgkmlaaGreatDoor
open Go.Sx
def A09 (x:Ba):Prop:=(-9≤x.kind∧x.kind≤1000)∧(-9≤x.a∧x.a≤1000)∧(-9≤x.b∧x.b≤1000)∧x.ax.length≤10∧∀n∈x.ax,-9≤n∧n≤1000
def A8n (xs:List Ba):Prop:=∀x∈xs,A09 x
theorem Ly {k a b:Int}{l:List Int}(hk: -9≤k∧k≤1000)(ha: -9≤a∧a≤1000)(hb: -9≤b∧b≤1000)(hl:l.length≤10)(h:∀n∈l,-9≤n∧n≤1000):A09 ⟨k,a,b,l⟩:=⟨hk,ha,hb,hl,h⟩
theorem Lo:A8n []:=fun _ h=>(K0 h).elim
variable {x : Ba} {xs : List Ba}
theorem K2 (h:A09 x)(hs:A8n xs):A8n (x::xs):=fun y hy=>by
 rcases C7.1 hy with rfl|hy
 ·exact h
 exact hs y hy
theorem K3 (hs:A8n xs)(h:A09 x):A8n (xs++[x]):=fun y hy=>by
 rcases Hg.1 hy with hy|hy
 ·exact hs y hy
 rw [Hh.1 hy];exact h
theorem Lp {j:Nat}(hs:A8n xs)(h:A09 x):A8n (xs.set j x):=fun y hy=>by
 rcases List.mem_or_eq_of_mem_set hy with hy|rfl
 ·exact hs y hy
 exact h
def B87 (G a b:Int):List Ba:=[⟨1,0,0,[1]⟩,⟨G,0,0,[2,5]⟩,⟨4,a,0,[3]⟩,⟨2,b,0,[4]⟩,⟨7,0,0,[1]⟩,⟨8,0,0,[]⟩]
def C3p (l:List Ba):Prop:=∃G a b k:Int,(G=6∨G=5)∧(1≤a∧a≤3)∧(0≤b∧b≤3)∧(1≤k∧k≤3)∧
 (l=(B87 G a b).set 3 ⟨3,k,0,[4]⟩∨l=[⟨1,0,0,[1]⟩,⟨G,0,0,[2,5]⟩,⟨4,a,0,[3]⟩,⟨2,b,0,[4]⟩,⟨8,0,0,[]⟩,⟨8,0,0,[]⟩]∨l=(B87 G a b).set 2 ⟨4,a,0,[3,4]⟩∨l=(B87 G a b++[(⟨8,0,0,[]⟩:Ba)]).set 0 ⟨1,0,0,[1,6]⟩∨l=B87 G a b)
def B6p (g:Ax):Prop:=(1≤g.aq∧g.aq≤3)∧(1≤g.cap∧g.cap≤3)∧C3p g.ay
def C3n (g:Ax):Prop:=g.w≤64∧A8n g.ay∧(1≤g.ay.length∧g.ay.length≤7)∧(0≤g.aq∧g.aq≤100)∧(0≤g.cap∧g.cap≤100)
set_option maxHeartbeats 1600000 in
theorem C1j (d:Ig)(i h:Int)(hi:0≤i∧i≤d.n):MtR HT 135 d.pins (d.cur i h) [] (fun r:Int×Int×Ax=>(0≤r.1∧r.1≤d.n)∧C3n r.2.2∧B6p r.2.2) (fun r=>d.cur r.1 r.2.1) (fun r=>[.agg r.2.2.c]):=by
 refine zeP Tryz.func135 fun B b hH hp=>?_;refine Ix (D3 d i h 3 hi Bk) hH hp fun r hr=>?_;refine B6 ?_;refine Ix (D3 d r.1 r.2.1 3 hr.1 Bk) hH hp fun r2 hr2=>?_;refine B6 ?_;refine Mg 3 (De [2,5]) rfl (Cc rfl Td) ?_;refine Ix (My d r2.1 r2.2.1 3 hr2.1 Bk) hH hp fun r3 hr3=>?_;refine C2 (fun cg=>?_) fun cg=>?_
 ·refine Ix (D3 d r3.1 r3.2.1 3 hr3 Bk) hH hp fun r4 hr4=>?_
  refine B6 ?_;refine Mg 5 (De [3]) rfl (Cc rfl Td) ?_;refine Ix (D3 d r4.1 r4.2.1 4 hr4.1 Bk) hH hp fun r5 hr5=>?_;refine Mg 7 (De [4]) rfl (Cc rfl Td) ?_;refine A2q (D3 d r5.1 r5.2.1 3 hr5.1 Bk) hH hp rfl I1 rfl rfl (fun r6 hr6=>goF 28 A0 false ?_);conv=>whnf
  refine ⟨by show _∧_;omega,?_⟩
  conv=>whnf
  refine Fi 9 (De [4]) rfl (Cc rfl Td) ?_;refine Fi 11 (De [1]) rfl (Cc rfl Td) ?_;refine Fi 14 (De [1]) rfl (Cc rfl Td) ?_
  refine Lg A0 rfl (l:=[.c (vi 1),.c (vi 0),.c (vi 0),.own 14,.c (vi 6),.c (vi 0),.c (vi 0),.own 3,.c (vi 4),.c (vi (1+r4.2.2)),.c (vi 0),.own 5,.c (vi 2),.c (vi r5.2.2),.c (vi 0),.own 7,.c (vi 7),.c (vi 0),.c (vi 0),.own 11,.c (vi 8),.c (vi 0),.c (vi 0),.c (.val (.slice none 0 0))]) Ak
   (cs:=[vi 1,vi 0,vi 0,De [1],vi 6,vi 0,vi 0,De [2,5],vi 4,vi (1+r4.2.2),vi 0,De [3],vi 2,vi r5.2.2,vi 0,De [4],vi 7,vi 0,vi 0,De [1],vi 8,vi 0,vi 0,.val (.slice none 0 0)]) (ks:=[14,3,5,7,11]) Ak Ak (I7 ?_)
  conv=>whnf
  refine Mg 15 (Ay [⟨1,0,0,[1]⟩,⟨6,0,0,[2,5]⟩,⟨4,1+r4.2.2,0,[3]⟩,⟨2,r5.2.2,0,[4]⟩,⟨7,0,0,[1]⟩,⟨8,0,0,[]⟩]) rfl (Nw rfl C0r) ?_;refine Ix (D3 d r6.1 r6.2.1 6 hr6.1 Bk) hH hp fun r7 hr7=>?_;have q1:=hr.2.2.2 Bk;have p1:=hr.2.1;have q2:=hr2.2.2.2 Bk;have p2:=hr2.2.1;have q4:=hr4.2.2.2 Bk;have p4:=hr4.2.1;have q5:=hr5.2.2.2 Bk;have p5:=hr5.2.1;have q6:=hr6.2.2.2 Bk;have p6:=hr6.2.1;refine C2 (fun c0=>?_) fun c0=>?_
  ·refine ⟨by simp,?_⟩
   conv=>whnf
   refine Bi (j:=3) A0 rfl _ (Cn (j:=3) (xs:=[⟨1,0,0,[1]⟩,⟨6,0,0,[2,5]⟩,⟨4,1+r4.2.2,0,[3]⟩,⟨2,r5.2.2,0,[4]⟩,⟨7,0,0,[1]⟩,⟨8,0,0,[]⟩]) (e:=Ba.c) (x:=⟨3,1+r6.2.2,0,[4]⟩) Ef rfl) (Ag ?_);exact Ke A0 (r7.1,r7.2.1,⟨List.set [⟨1,0,0,[1]⟩,⟨6,0,0,[2,5]⟩,⟨4,1+r4.2.2,0,[3]⟩,⟨2,r5.2.2,0,[4]⟩,⟨7,0,0,[1]⟩,⟨8,0,0,[]⟩] 3 ⟨3,1+r6.2.2,0,[4]⟩,1+r.2.2,1+r2.2.2⟩) ⟨hr7.1,⟨Cz rfl,(by repeat' (first|exact Lo|refine K3 ?_ ?_|refine Lp ?_ ?_|refine K2 ?_ ?_|refine Ly ?_ ?_ ?_ ?_ ?_|decide|omega)),⟨Cz rfl,Cz rfl⟩,⟨by show 0≤1+r.2.2;omega,by show 1+r.2.2≤100;omega⟩,⟨by show 0≤1+r2.2.2;omega,by show 1+r2.2.2≤100;omega⟩⟩,⟨by show 1≤1+r.2.2;omega,by show 1+r.2.2≤3;omega⟩,⟨by show 1≤1+r2.2.2;omega,by show 1+r2.2.2≤3;omega⟩,6,1+r4.2.2,r5.2.2,1+r6.2.2,by decide,by omega,by omega,by omega,.inl rfl⟩ rfl rfl rfl rfl A8o
  refine C2 (fun c1=>?_) fun c1=>?_
  ·refine ⟨by simp,?_⟩
   conv=>whnf
   refine Bi (j:=4) A0 rfl _ (B09 (j:=4) rfl) (Ag ?_);refine R9 15 (Ay [⟨1,0,0,[1]⟩,⟨6,0,0,[2,5]⟩,⟨4,1+r4.2.2,0,[3]⟩,⟨2,r5.2.2,0,[4]⟩,⟨8,0,0,[]⟩,⟨8,0,0,[]⟩]) rfl (Nw rfl C0r) ?_;exact Ke A0 (r7.1,r7.2.1,⟨[⟨1,0,0,[1]⟩,⟨6,0,0,[2,5]⟩,⟨4,1+r4.2.2,0,[3]⟩,⟨2,r5.2.2,0,[4]⟩,⟨8,0,0,[]⟩,⟨8,0,0,[]⟩],1+r.2.2,1+r2.2.2⟩) ⟨hr7.1,⟨Cz rfl,(by repeat' (first|exact Lo|refine K3 ?_ ?_|refine Lp ?_ ?_|refine K2 ?_ ?_|refine Ly ?_ ?_ ?_ ?_ ?_|decide|omega)),⟨Cz rfl,Cz rfl⟩,⟨by show 0≤1+r.2.2;omega,by show 1+r.2.2≤100;omega⟩,⟨by show 0≤1+r2.2.2;omega,by show 1+r2.2.2≤100;omega⟩⟩,⟨by show 1≤1+r.2.2;omega,by show 1+r.2.2≤3;omega⟩,⟨by show 1≤1+r2.2.2;omega,by show 1+r2.2.2≤3;omega⟩,6,1+r4.2.2,r5.2.2,1+r6.2.2,by decide,by omega,by omega,by omega,.inr (.inl rfl)⟩ rfl rfl rfl rfl A8o
  refine C2 (fun c2=>?_) fun c2=>?_
  ·refine ⟨by simp,?_⟩
   conv=>whnf
   refine Fi 16 (De [3,4]) rfl (Cc rfl Td) ?_;refine Bi (j:=2) A0 rfl _ (Cn (j:=2) (xs:=[⟨1,0,0,[1]⟩,⟨6,0,0,[2,5]⟩,⟨4,1+r4.2.2,0,[3]⟩,⟨2,r5.2.2,0,[4]⟩,⟨7,0,0,[1]⟩,⟨8,0,0,[]⟩]) (e:=Ba.c) (x:=⟨4,1+r4.2.2,0,[3,4]⟩) Ef rfl) (Ag ?_);exact Ke A0 (r7.1,r7.2.1,⟨List.set [⟨1,0,0,[1]⟩,⟨6,0,0,[2,5]⟩,⟨4,1+r4.2.2,0,[3]⟩,⟨2,r5.2.2,0,[4]⟩,⟨7,0,0,[1]⟩,⟨8,0,0,[]⟩] 2 ⟨4,1+r4.2.2,0,[3,4]⟩,1+r.2.2,1+r2.2.2⟩) ⟨hr7.1,⟨Cz rfl,(by repeat' (first|exact Lo|refine K3 ?_ ?_|refine Lp ?_ ?_|refine K2 ?_ ?_|refine Ly ?_ ?_ ?_ ?_ ?_|decide|omega)),⟨Cz rfl,Cz rfl⟩,⟨by show 0≤1+r.2.2;omega,by show 1+r.2.2≤100;omega⟩,⟨by show 0≤1+r2.2.2;omega,by show 1+r2.2.2≤100;omega⟩⟩,⟨by show 1≤1+r.2.2;omega,by show 1+r.2.2≤3;omega⟩,⟨by show 1≤1+r2.2.2;omega,by show 1+r2.2.2≤3;omega⟩,6,1+r4.2.2,r5.2.2,1+r6.2.2,by decide,by omega,by omega,by omega,.inr (.inr (.inl rfl))⟩ rfl rfl rfl rfl A8o
  refine C2 (fun c3=>?_) fun c3=>?_
  ·refine Fi 16 (Ay [⟨8,0,0,[]⟩]) rfl (Nw rfl C0r) ?_
   refine Bg A0 rfl (Ay ([⟨1,0,0,[1]⟩,⟨6,0,0,[2,5]⟩,⟨4,1+r4.2.2,0,[3]⟩,⟨2,r5.2.2,0,[4]⟩,⟨7,0,0,[1]⟩,⟨8,0,0,[]⟩]++[⟨8,0,0,[]⟩])) (An (xs:=[⟨1,0,0,[1]⟩,⟨6,0,0,[2,5]⟩,⟨4,1+r4.2.2,0,[3]⟩,⟨2,r5.2.2,0,[4]⟩,⟨7,0,0,[1]⟩,⟨8,0,0,[]⟩]) (x:=⟨8,0,0,[]⟩) (e:=Ba.c) rfl) Ij Ef (Ag ?_);refine ⟨by simp,?_⟩;conv=>whnf
   refine Fi 18 (De [1,6]) rfl (Cc rfl Td) ?_;refine Bi (j:=0) A0 rfl _ (Cn (j:=0) (xs:=[⟨1,0,0,[1]⟩,⟨6,0,0,[2,5]⟩,⟨4,1+r4.2.2,0,[3]⟩,⟨2,r5.2.2,0,[4]⟩,⟨7,0,0,[1]⟩,⟨8,0,0,[]⟩]++[⟨8,0,0,[]⟩]) (e:=Ba.c) (x:=⟨1,0,0,[1,6]⟩) Ef rfl) (Ag ?_);exact Ke A0 (r7.1,r7.2.1,⟨List.set ([⟨1,0,0,[1]⟩,⟨6,0,0,[2,5]⟩,⟨4,1+r4.2.2,0,[3]⟩,⟨2,r5.2.2,0,[4]⟩,⟨7,0,0,[1]⟩,⟨8,0,0,[]⟩]++[⟨8,0,0,[]⟩]) 0 ⟨1,0,0,[1,6]⟩,1+r.2.2,1+r2.2.2⟩) ⟨hr7.1,⟨Cz rfl,(by repeat' (first|exact Lo|refine K3 ?_ ?_|refine Lp ?_ ?_|refine K2 ?_ ?_|refine Ly ?_ ?_ ?_ ?_ ?_|decide|omega)),⟨Cz rfl,Cz rfl⟩,⟨by show 0≤1+r.2.2;omega,by show 1+r.2.2≤100;omega⟩,⟨by show 0≤1+r2.2.2;omega,by show 1+r2.2.2≤100;omega⟩⟩,⟨by show 1≤1+r.2.2;omega,by show 1+r.2.2≤3;omega⟩,⟨by show 1≤1+r2.2.2;omega,by show 1+r2.2.2≤3;omega⟩,6,1+r4.2.2,r5.2.2,1+r6.2.2,by decide,by omega,by omega,by omega,.inr (.inr (.inr (.inl rfl)))⟩ rfl rfl rfl rfl A8o
  exact Ke A0 (r7.1,r7.2.1,⟨[⟨1,0,0,[1]⟩,⟨6,0,0,[2,5]⟩,⟨4,1+r4.2.2,0,[3]⟩,⟨2,r5.2.2,0,[4]⟩,⟨7,0,0,[1]⟩,⟨8,0,0,[]⟩],1+r.2.2,1+r2.2.2⟩) ⟨hr7.1,⟨Cz rfl,(by repeat' (first|exact Lo|refine K3 ?_ ?_|refine Lp ?_ ?_|refine K2 ?_ ?_|refine Ly ?_ ?_ ?_ ?_ ?_|decide|omega)),⟨Cz rfl,Cz rfl⟩,⟨by show 0≤1+r.2.2;omega,by show 1+r.2.2≤100;omega⟩,⟨by show 0≤1+r2.2.2;omega,by show 1+r2.2.2≤100;omega⟩⟩,⟨by show 1≤1+r.2.2;omega,by show 1+r.2.2≤3;omega⟩,⟨by show 1≤1+r2.2.2;omega,by show 1+r2.2.2≤3;omega⟩,6,1+r4.2.2,r5.2.2,1+r6.2.2,by decide,by omega,by omega,by omega,.inr (.inr (.inr (.inr rfl)))⟩ rfl rfl rfl rfl A8o
 refine Ix (D3 d r3.1 r3.2.1 3 hr3 Bk) hH hp fun r4 hr4=>?_;refine B6 ?_;refine Mg 5 (De [3]) rfl (Cc rfl Td) ?_;refine Ix (D3 d r4.1 r4.2.1 4 hr4.1 Bk) hH hp fun r5 hr5=>?_;refine Mg 7 (De [4]) rfl (Cc rfl Td) ?_;refine A2q (D3 d r5.1 r5.2.1 3 hr5.1 Bk) hH hp rfl I1 rfl rfl (fun r6 hr6=>goF 28 A0 false ?_);conv=>whnf
 refine ⟨by show _∧_;omega,?_⟩
 conv=>whnf
 refine Fi 9 (De [4]) rfl (Cc rfl Td) ?_;refine Fi 11 (De [1]) rfl (Cc rfl Td) ?_;refine Fi 14 (De [1]) rfl (Cc rfl Td) ?_
 refine Lg A0 rfl (l:=[.c (vi 1),.c (vi 0),.c (vi 0),.own 14,.c (vi 5),.c (vi 0),.c (vi 0),.own 3,.c (vi 4),.c (vi (1+r4.2.2)),.c (vi 0),.own 5,.c (vi 2),.c (vi r5.2.2),.c (vi 0),.own 7,.c (vi 7),.c (vi 0),.c (vi 0),.own 11,.c (vi 8),.c (vi 0),.c (vi 0),.c (.val (.slice none 0 0))]) Ak
  (cs:=[vi 1,vi 0,vi 0,De [1],vi 5,vi 0,vi 0,De [2,5],vi 4,vi (1+r4.2.2),vi 0,De [3],vi 2,vi r5.2.2,vi 0,De [4],vi 7,vi 0,vi 0,De [1],vi 8,vi 0,vi 0,.val (.slice none 0 0)]) (ks:=[14,3,5,7,11]) Ak Ak (I7 ?_)
 conv=>whnf
 refine Mg 15 (Ay [⟨1,0,0,[1]⟩,⟨5,0,0,[2,5]⟩,⟨4,1+r4.2.2,0,[3]⟩,⟨2,r5.2.2,0,[4]⟩,⟨7,0,0,[1]⟩,⟨8,0,0,[]⟩]) rfl (Nw rfl C0r) ?_;refine Ix (D3 d r6.1 r6.2.1 6 hr6.1 Bk) hH hp fun r7 hr7=>?_;have q1:=hr.2.2.2 Bk;have p1:=hr.2.1;have q2:=hr2.2.2.2 Bk;have p2:=hr2.2.1;have q4:=hr4.2.2.2 Bk;have p4:=hr4.2.1;have q5:=hr5.2.2.2 Bk;have p5:=hr5.2.1;have q6:=hr6.2.2.2 Bk;have p6:=hr6.2.1;refine C2 (fun c0=>?_) fun c0=>?_
 ·refine ⟨by simp,?_⟩
  conv=>whnf
  refine Bi (j:=3) A0 rfl _ (Cn (j:=3) (xs:=[⟨1,0,0,[1]⟩,⟨5,0,0,[2,5]⟩,⟨4,1+r4.2.2,0,[3]⟩,⟨2,r5.2.2,0,[4]⟩,⟨7,0,0,[1]⟩,⟨8,0,0,[]⟩]) (e:=Ba.c) (x:=⟨3,1+r6.2.2,0,[4]⟩) Ef rfl) (Ag ?_);exact Ke A0 (r7.1,r7.2.1,⟨List.set [⟨1,0,0,[1]⟩,⟨5,0,0,[2,5]⟩,⟨4,1+r4.2.2,0,[3]⟩,⟨2,r5.2.2,0,[4]⟩,⟨7,0,0,[1]⟩,⟨8,0,0,[]⟩] 3 ⟨3,1+r6.2.2,0,[4]⟩,1+r.2.2,1+r2.2.2⟩) ⟨hr7.1,⟨Cz rfl,(by repeat' (first|exact Lo|refine K3 ?_ ?_|refine Lp ?_ ?_|refine K2 ?_ ?_|refine Ly ?_ ?_ ?_ ?_ ?_|decide|omega)),⟨Cz rfl,Cz rfl⟩,⟨by show 0≤1+r.2.2;omega,by show 1+r.2.2≤100;omega⟩,⟨by show 0≤1+r2.2.2;omega,by show 1+r2.2.2≤100;omega⟩⟩,⟨by show 1≤1+r.2.2;omega,by show 1+r.2.2≤3;omega⟩,⟨by show 1≤1+r2.2.2;omega,by show 1+r2.2.2≤3;omega⟩,5,1+r4.2.2,r5.2.2,1+r6.2.2,by decide,by omega,by omega,by omega,.inl rfl⟩ rfl rfl rfl rfl A8o
 refine C2 (fun c1=>?_) fun c1=>?_
 ·refine ⟨by simp,?_⟩
  conv=>whnf
  refine Bi (j:=4) A0 rfl _ (B09 (j:=4) rfl) (Ag ?_);refine R9 15 (Ay [⟨1,0,0,[1]⟩,⟨5,0,0,[2,5]⟩,⟨4,1+r4.2.2,0,[3]⟩,⟨2,r5.2.2,0,[4]⟩,⟨8,0,0,[]⟩,⟨8,0,0,[]⟩]) rfl (Nw rfl C0r) ?_;exact Ke A0 (r7.1,r7.2.1,⟨[⟨1,0,0,[1]⟩,⟨5,0,0,[2,5]⟩,⟨4,1+r4.2.2,0,[3]⟩,⟨2,r5.2.2,0,[4]⟩,⟨8,0,0,[]⟩,⟨8,0,0,[]⟩],1+r.2.2,1+r2.2.2⟩) ⟨hr7.1,⟨Cz rfl,(by repeat' (first|exact Lo|refine K3 ?_ ?_|refine Lp ?_ ?_|refine K2 ?_ ?_|refine Ly ?_ ?_ ?_ ?_ ?_|decide|omega)),⟨Cz rfl,Cz rfl⟩,⟨by show 0≤1+r.2.2;omega,by show 1+r.2.2≤100;omega⟩,⟨by show 0≤1+r2.2.2;omega,by show 1+r2.2.2≤100;omega⟩⟩,⟨by show 1≤1+r.2.2;omega,by show 1+r.2.2≤3;omega⟩,⟨by show 1≤1+r2.2.2;omega,by show 1+r2.2.2≤3;omega⟩,5,1+r4.2.2,r5.2.2,1+r6.2.2,by decide,by omega,by omega,by omega,.inr (.inl rfl)⟩ rfl rfl rfl rfl A8o
 refine C2 (fun c2=>?_) fun c2=>?_
 ·refine ⟨by simp,?_⟩
  conv=>whnf
  refine Fi 16 (De [3,4]) rfl (Cc rfl Td) ?_;refine Bi (j:=2) A0 rfl _ (Cn (j:=2) (xs:=[⟨1,0,0,[1]⟩,⟨5,0,0,[2,5]⟩,⟨4,1+r4.2.2,0,[3]⟩,⟨2,r5.2.2,0,[4]⟩,⟨7,0,0,[1]⟩,⟨8,0,0,[]⟩]) (e:=Ba.c) (x:=⟨4,1+r4.2.2,0,[3,4]⟩) Ef rfl) (Ag ?_);exact Ke A0 (r7.1,r7.2.1,⟨List.set [⟨1,0,0,[1]⟩,⟨5,0,0,[2,5]⟩,⟨4,1+r4.2.2,0,[3]⟩,⟨2,r5.2.2,0,[4]⟩,⟨7,0,0,[1]⟩,⟨8,0,0,[]⟩] 2 ⟨4,1+r4.2.2,0,[3,4]⟩,1+r.2.2,1+r2.2.2⟩) ⟨hr7.1,⟨Cz rfl,(by repeat' (first|exact Lo|refine K3 ?_ ?_|refine Lp ?_ ?_|refine K2 ?_ ?_|refine Ly ?_ ?_ ?_ ?_ ?_|decide|omega)),⟨Cz rfl,Cz rfl⟩,⟨by show 0≤1+r.2.2;omega,by show 1+r.2.2≤100;omega⟩,⟨by show 0≤1+r2.2.2;omega,by show 1+r2.2.2≤100;omega⟩⟩,⟨by show 1≤1+r.2.2;omega,by show 1+r.2.2≤3;omega⟩,⟨by show 1≤1+r2.2.2;omega,by show 1+r2.2.2≤3;omega⟩,5,1+r4.2.2,r5.2.2,1+r6.2.2,by decide,by omega,by omega,by omega,.inr (.inr (.inl rfl))⟩ rfl rfl rfl rfl A8o
 refine C2 (fun c3=>?_) fun c3=>?_
 ·refine Fi 16 (Ay [⟨8,0,0,[]⟩]) rfl (Nw rfl C0r) ?_
  refine Bg A0 rfl (Ay ([⟨1,0,0,[1]⟩,⟨5,0,0,[2,5]⟩,⟨4,1+r4.2.2,0,[3]⟩,⟨2,r5.2.2,0,[4]⟩,⟨7,0,0,[1]⟩,⟨8,0,0,[]⟩]++[⟨8,0,0,[]⟩])) (An (xs:=[⟨1,0,0,[1]⟩,⟨5,0,0,[2,5]⟩,⟨4,1+r4.2.2,0,[3]⟩,⟨2,r5.2.2,0,[4]⟩,⟨7,0,0,[1]⟩,⟨8,0,0,[]⟩]) (x:=⟨8,0,0,[]⟩) (e:=Ba.c) rfl) Ij Ef (Ag ?_);refine ⟨by simp,?_⟩;conv=>whnf
  refine Fi 18 (De [1,6]) rfl (Cc rfl Td) ?_;refine Bi (j:=0) A0 rfl _ (Cn (j:=0) (xs:=[⟨1,0,0,[1]⟩,⟨5,0,0,[2,5]⟩,⟨4,1+r4.2.2,0,[3]⟩,⟨2,r5.2.2,0,[4]⟩,⟨7,0,0,[1]⟩,⟨8,0,0,[]⟩]++[⟨8,0,0,[]⟩]) (e:=Ba.c) (x:=⟨1,0,0,[1,6]⟩) Ef rfl) (Ag ?_);exact Ke A0 (r7.1,r7.2.1,⟨List.set ([⟨1,0,0,[1]⟩,⟨5,0,0,[2,5]⟩,⟨4,1+r4.2.2,0,[3]⟩,⟨2,r5.2.2,0,[4]⟩,⟨7,0,0,[1]⟩,⟨8,0,0,[]⟩]++[⟨8,0,0,[]⟩]) 0 ⟨1,0,0,[1,6]⟩,1+r.2.2,1+r2.2.2⟩) ⟨hr7.1,⟨Cz rfl,(by repeat' (first|exact Lo|refine K3 ?_ ?_|refine Lp ?_ ?_|refine K2 ?_ ?_|refine Ly ?_ ?_ ?_ ?_ ?_|decide|omega)),⟨Cz rfl,Cz rfl⟩,⟨by show 0≤1+r.2.2;omega,by show 1+r.2.2≤100;omega⟩,⟨by show 0≤1+r2.2.2;omega,by show 1+r2.2.2≤100;omega⟩⟩,⟨by show 1≤1+r.2.2;omega,by show 1+r.2.2≤3;omega⟩,⟨by show 1≤1+r2.2.2;omega,by show 1+r2.2.2≤3;omega⟩,5,1+r4.2.2,r5.2.2,1+r6.2.2,by decide,by omega,by omega,by omega,.inr (.inr (.inr (.inl rfl)))⟩ rfl rfl rfl rfl A8o
 exact Ke A0 (r7.1,r7.2.1,⟨[⟨1,0,0,[1]⟩,⟨5,0,0,[2,5]⟩,⟨4,1+r4.2.2,0,[3]⟩,⟨2,r5.2.2,0,[4]⟩,⟨7,0,0,[1]⟩,⟨8,0,0,[]⟩],1+r.2.2,1+r2.2.2⟩) ⟨hr7.1,⟨Cz rfl,(by repeat' (first|exact Lo|refine K3 ?_ ?_|refine Lp ?_ ?_|refine K2 ?_ ?_|refine Ly ?_ ?_ ?_ ?_ ?_|decide|omega)),⟨Cz rfl,Cz rfl⟩,⟨by show 0≤1+r.2.2;omega,by show 1+r.2.2≤100;omega⟩,⟨by show 0≤1+r2.2.2;omega,by show 1+r2.2.2≤100;omega⟩⟩,⟨by show 1≤1+r.2.2;omega,by show 1+r.2.2≤3;omega⟩,⟨by show 1≤1+r2.2.2;omega,by show 1+r2.2.2≤3;omega⟩,5,1+r4.2.2,r5.2.2,1+r6.2.2,by decide,by omega,by omega,by omega,.inr (.inr (.inr (.inr rfl)))⟩ rfl rfl rfl rfl A8o
theorem C6a {l:List Ba}(h:C3p l):Gc ⟨l,1,1⟩:=by
 obtain ⟨G,a,b,k,hG,ha,hb,hk,hl⟩:=h;have ha:a=1∨a=2∨a=3:=by omega
 have hb:b=0∨b=1∨b=2∨b=3:=by omega
 have hk:k=1∨k=2∨k=3:=by omega
 rcases hl with rfl|rfl|rfl|rfl|rfl
 ·show Gc ⟨[⟨1,0,0,[1]⟩,⟨G,0,0,[2,5]⟩,⟨4,a,0,[3]⟩,⟨3,k,0,[4]⟩,⟨7,0,0,[1]⟩,⟨8,0,0,[]⟩],1,1⟩
  rcases hG with rfl|rfl<;>rcases ha with rfl|rfl|rfl<;>rcases hk with rfl|rfl|rfl<;>decide
 ·rcases hG with rfl|rfl<;>rcases ha with rfl|rfl|rfl<;>rcases hb with rfl|rfl|rfl|rfl<;>decide
 ·rcases hG with rfl|rfl<;>rcases ha with rfl|rfl|rfl<;>rcases hb with rfl|rfl|rfl|rfl<;>decide
 ·rcases hG with rfl|rfl<;>rcases ha with rfl|rfl|rfl<;>rcases hb with rfl|rfl|rfl|rfl<;>decide
 rcases hG with rfl|rfl<;>rcases ha with rfl|rfl|rfl<;>rcases hb with rfl|rfl|rfl|rfl<;>decide
theorem C5e {g:Ax}(h:B6p g):Gc g:=by
 obtain ⟨h1,h2,hn⟩:=h
 have:Gc ⟨g.ay,1,1⟩:=C6a hn
 exact ⟨this.1,by omega,by omega,this.2.2.2⟩
end Go.Proofs.YtmhcebdkjgkmlaaGreatDoor
