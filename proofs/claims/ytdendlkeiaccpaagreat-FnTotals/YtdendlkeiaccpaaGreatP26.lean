/- Part 26 of the proof that each of the laws FnTotals returns true for every input. No conditions. -/
import Derived.Test.YtdendlkeiaccpaaGreatP22

set_option linter.unusedSimpArgs false
set_option linter.unusedVariables false
set_option maxRecDepth 100000
namespace Go.Proofs.YtdendlkeiaccpaaGreat
open Go.Sx
def Qu (x:An):Prop:=(-9≤x.kind∧x.kind≤1000)∧(-9≤x.a∧x.a≤1000)∧(-9≤x.b∧x.b≤1000)∧x.outs.length≤10∧∀n∈x.outs,-9≤n∧n≤1000
def Xp (xs:List An):Prop:=∀x∈xs,Qu x
theorem He {k a b:Int}{l:List Int}(hk: -9≤k∧k≤1000)(ha: -9≤a∧a≤1000)(hb: -9≤b∧b≤1000)(hl:l.length≤10)(h:∀n∈l,-9≤n∧n≤1000):Qu ⟨k,a,b,l⟩:=⟨hk,ha,hb,hl,h⟩
theorem H8:Xp []:=fun _ h=>(List.not_mem_nil h).elim
theorem G6 {x:An}{xs:List An}(h:Qu x)(hs:Xp xs):Xp (x::xs):=fun y hy=>by
 rcases List.mem_cons.1 hy with rfl|hy
 ·exact h
 exact hs y hy
theorem G7 {x:An}{xs:List An}(hs:Xp xs)(h:Qu x):Xp (xs++[x]):=fun y hy=>by
 rcases List.mem_append.1 hy with hy|hy
 ·exact hs y hy
 rw [List.mem_singleton.1 hy];exact h
theorem H9 {x:An}{xs:List An}{j:Nat}(hs:Xp xs)(h:Qu x):Xp (xs.set j x):=fun y hy=>by
 rcases List.mem_or_eq_of_mem_set hy with hy|rfl
 ·exact hs y hy
 exact h
def A4c (G a b:Int):List An:=[⟨1,0,0,[1]⟩,⟨G,0,0,[2,5]⟩,⟨4,a,0,[3]⟩,⟨2,b,0,[4]⟩,⟨7,0,0,[1]⟩,⟨8,0,0,[]⟩]
def A7z (l:List An):Prop:=∃G a b k:Int,(G=6∨G=5)∧(1≤a∧a≤3)∧(0≤b∧b≤3)∧(1≤k∧k≤3)∧
 (l=(A4c G a b).set 3 ⟨3,k,0,[4]⟩∨l=[⟨1,0,0,[1]⟩,⟨G,0,0,[2,5]⟩,⟨4,a,0,[3]⟩,⟨2,b,0,[4]⟩,⟨8,0,0,[]⟩,⟨8,0,0,[]⟩]∨l=(A4c G a b).set 2 ⟨4,a,0,[3,4]⟩∨l=(A4c G a b++[(⟨8,0,0,[]⟩:An)]).set 0 ⟨1,0,0,[1,6]⟩∨l=A4c G a b)
def Xr (g:Ao):Prop:=(1≤g.workers∧g.workers≤3)∧(1≤g.cap∧g.cap≤3)∧A7z g.nodes
def A2b (g:Ao):Prop:=g.w≤64∧Xp g.nodes∧(1≤g.nodes.length∧g.nodes.length≤7)∧(0≤g.workers∧g.workers≤100)∧(0≤g.cap∧g.cap≤100)
set_option maxHeartbeats 1600000 in
theorem Wu (d:Dy)(i h:Int)(hi:0≤i∧i≤d.n):Cr Tryz.prog HT 47 d.pins (d.cur i h) [] (fun r:Int×Int×Ao=>(0≤r.1∧r.1≤d.n)∧A2b r.2.2∧Xr r.2.2) (fun r=>d.cur r.1 r.2.1) (fun r=>[.agg r.2.2.c]):=by
 refine Df A0 false Tryz.func47 rfl Aw fun B b hH hp=>?_
 conv=>whnf
 refine Ai (Ah d i h 3 hi Aw) hH hp rfl At rfl rfl (fun r hr=>go A0 false ?_)
 conv=>whnf
 (repeat refine Am ?_)
 refine Ai (Ah d r.1 r.2.1 3 hr.1 Aw) hH hp rfl At rfl rfl (fun r2 hr2=>go A0 false ?_)
 conv=>whnf
 (repeat refine Am ?_)
 refine Em 3 (Ap [2,5]) rfl (Ba rfl Cf) ?_
 refine Ai (Pu d r2.1 r2.2.1 3 hr2.1 Aw) hH hp rfl At rfl rfl (fun r3 hr3=>go A0 false ?_)
 conv=>whnf
 refine ⟨fun cg=>?_,fun cg=>?_⟩<;>conv=>whnf
 ·refine Ai (Ah d r3.1 r3.2.1 3 hr3 Aw) hH hp rfl At rfl rfl (fun r4 hr4=>go A0 false ?_)
  conv=>whnf
  (repeat refine Am ?_)
  refine Em 5 (Ap [3]) rfl (Ba rfl Cf) ?_
  refine Ai (Ah d r4.1 r4.2.1 4 hr4.1 Aw) hH hp rfl At rfl rfl (fun r5 hr5=>go A0 false ?_)
  conv=>whnf
  refine Em 7 (Ap [4]) rfl (Ba rfl Cf) ?_
  refine Ai (Ah d r5.1 r5.2.1 3 hr5.1 Aw) hH hp rfl At rfl rfl (fun r6 hr6=>goF 28 A0 false ?_)
  conv=>whnf
  refine ⟨by show _∧_;omega,?_⟩
  conv=>whnf
  refine Dv 9 (Ap [4]) rfl (Ba rfl Cf) ?_
  refine Dv 11 (Ap [1]) rfl (Ba rfl Cf) ?_
  refine Dv 14 (Ap [1]) rfl (Ba rfl Cf) ?_
  refine Ou A0 rfl rfl rfl rfl rfl rfl (l:=[.c (vi 1),.c (vi 0),.c (vi 0),.own 14,.c (vi 6),.c (vi 0),.c (vi 0),.own 3,.c (vi 4),.c (vi (1+r4.2.2)),.c (vi 0),.own 5,.c (vi 2),.c (vi r5.2.2),.c (vi 0),.own 7,.c (vi 7),.c (vi 0),.c (vi 0),.own 11,.c (vi 8),.c (vi 0),.c (vi 0),.c (.val (.slice none 0 0))]) A7
   (cs:=[vi 1,vi 0,vi 0,Ap [1],vi 6,vi 0,vi 0,Ap [2,5],vi 4,vi (1+r4.2.2),vi 0,Ap [3],vi 2,vi r5.2.2,vi 0,Ap [4],vi 7,vi 0,vi 0,Ap [1],vi 8,vi 0,vi 0,.val (.slice none 0 0)]) (ks:=[14,3,5,7,11]) A7 A7 (Jf ?_)
  conv=>whnf
  refine Em 15 (Br [⟨1,0,0,[1]⟩,⟨6,0,0,[2,5]⟩,⟨4,1+r4.2.2,0,[3]⟩,⟨2,r5.2.2,0,[4]⟩,⟨7,0,0,[1]⟩,⟨8,0,0,[]⟩]) rfl (Gq rfl Zs) ?_
  refine Ai (Ah d r6.1 r6.2.1 6 hr6.1 Aw) hH hp rfl At rfl rfl (fun r7 hr7=>go A0 false ?_)
  conv=>whnf
  have q1:=hr.2.2.2 Aw
  have p1:=hr.2.1
  have q2:=hr2.2.2.2 Aw
  have p2:=hr2.2.1
  have q4:=hr4.2.2.2 Aw
  have p4:=hr4.2.1
  have q5:=hr5.2.2.2 Aw
  have p5:=hr5.2.1
  have q6:=hr6.2.2.2 Aw
  have p6:=hr6.2.1
  refine ⟨fun c0=>?_,fun c0=>?_⟩<;>conv=>whnf
  ·refine ⟨by simp,?_⟩
   conv=>whnf
   refine Al (j:=3) A0 rfl rfl rfl rfl rfl rfl rfl rfl _ (C0 (j:=3) (xs:=[⟨1,0,0,[1]⟩,⟨6,0,0,[2,5]⟩,⟨4,1+r4.2.2,0,[3]⟩,⟨2,r5.2.2,0,[4]⟩,⟨7,0,0,[1]⟩,⟨8,0,0,[]⟩]) (e:=An.c) (x:=⟨3,1+r6.2.2,0,[4]⟩) Cg rfl) (A8 ?_)
   exact Bm A0 (r7.1,r7.2.1,⟨List.set [⟨1,0,0,[1]⟩,⟨6,0,0,[2,5]⟩,⟨4,1+r4.2.2,0,[3]⟩,⟨2,r5.2.2,0,[4]⟩,⟨7,0,0,[1]⟩,⟨8,0,0,[]⟩] 3 ⟨3,1+r6.2.2,0,[4]⟩,1+r.2.2,1+r2.2.2⟩) ⟨hr7.1,⟨Nat.le_of_ble_eq_true rfl,(by repeat' (first|exact H8|refine G7 ?_ ?_|refine H9 ?_ ?_|refine G6 ?_ ?_|refine He ?_ ?_ ?_ ?_ ?_|decide|omega)),⟨Nat.le_of_ble_eq_true rfl,Nat.le_of_ble_eq_true rfl⟩,⟨by show 0≤1+r.2.2;omega,by show 1+r.2.2≤100;omega⟩,⟨by show 0≤1+r2.2.2;omega,by show 1+r2.2.2≤100;omega⟩⟩,⟨by show 1≤1+r.2.2;omega,by show 1+r.2.2≤3;omega⟩,⟨by show 1≤1+r2.2.2;omega,by show 1+r2.2.2≤3;omega⟩,6,1+r4.2.2,r5.2.2,1+r6.2.2,by decide,by omega,by omega,by omega,.inl rfl⟩ rfl rfl rfl rfl W0
  refine ⟨fun c1=>?_,fun c1=>?_⟩<;>conv=>whnf
  ·refine ⟨by simp,?_⟩
   conv=>whnf
   refine Al (j:=4) A0 rfl rfl rfl rfl rfl rfl rfl rfl _ (Xn (j:=4) rfl) (A8 ?_)
   refine L7 15 (Br [⟨1,0,0,[1]⟩,⟨6,0,0,[2,5]⟩,⟨4,1+r4.2.2,0,[3]⟩,⟨2,r5.2.2,0,[4]⟩,⟨8,0,0,[]⟩,⟨8,0,0,[]⟩]) rfl (Gq rfl Zs) ?_
   exact Bm A0 (r7.1,r7.2.1,⟨[⟨1,0,0,[1]⟩,⟨6,0,0,[2,5]⟩,⟨4,1+r4.2.2,0,[3]⟩,⟨2,r5.2.2,0,[4]⟩,⟨8,0,0,[]⟩,⟨8,0,0,[]⟩],1+r.2.2,1+r2.2.2⟩) ⟨hr7.1,⟨Nat.le_of_ble_eq_true rfl,(by repeat' (first|exact H8|refine G7 ?_ ?_|refine H9 ?_ ?_|refine G6 ?_ ?_|refine He ?_ ?_ ?_ ?_ ?_|decide|omega)),⟨Nat.le_of_ble_eq_true rfl,Nat.le_of_ble_eq_true rfl⟩,⟨by show 0≤1+r.2.2;omega,by show 1+r.2.2≤100;omega⟩,⟨by show 0≤1+r2.2.2;omega,by show 1+r2.2.2≤100;omega⟩⟩,⟨by show 1≤1+r.2.2;omega,by show 1+r.2.2≤3;omega⟩,⟨by show 1≤1+r2.2.2;omega,by show 1+r2.2.2≤3;omega⟩,6,1+r4.2.2,r5.2.2,1+r6.2.2,by decide,by omega,by omega,by omega,.inr (.inl rfl)⟩ rfl rfl rfl rfl W0
  refine ⟨fun c2=>?_,fun c2=>?_⟩<;>conv=>whnf
  ·refine ⟨by simp,?_⟩
   conv=>whnf
   refine Dv 16 (Ap [3,4]) rfl (Ba rfl Cf) ?_
   refine Al (j:=2) A0 rfl rfl rfl rfl rfl rfl rfl rfl _ (C0 (j:=2) (xs:=[⟨1,0,0,[1]⟩,⟨6,0,0,[2,5]⟩,⟨4,1+r4.2.2,0,[3]⟩,⟨2,r5.2.2,0,[4]⟩,⟨7,0,0,[1]⟩,⟨8,0,0,[]⟩]) (e:=An.c) (x:=⟨4,1+r4.2.2,0,[3,4]⟩) Cg rfl) (A8 ?_)
   exact Bm A0 (r7.1,r7.2.1,⟨List.set [⟨1,0,0,[1]⟩,⟨6,0,0,[2,5]⟩,⟨4,1+r4.2.2,0,[3]⟩,⟨2,r5.2.2,0,[4]⟩,⟨7,0,0,[1]⟩,⟨8,0,0,[]⟩] 2 ⟨4,1+r4.2.2,0,[3,4]⟩,1+r.2.2,1+r2.2.2⟩) ⟨hr7.1,⟨Nat.le_of_ble_eq_true rfl,(by repeat' (first|exact H8|refine G7 ?_ ?_|refine H9 ?_ ?_|refine G6 ?_ ?_|refine He ?_ ?_ ?_ ?_ ?_|decide|omega)),⟨Nat.le_of_ble_eq_true rfl,Nat.le_of_ble_eq_true rfl⟩,⟨by show 0≤1+r.2.2;omega,by show 1+r.2.2≤100;omega⟩,⟨by show 0≤1+r2.2.2;omega,by show 1+r2.2.2≤100;omega⟩⟩,⟨by show 1≤1+r.2.2;omega,by show 1+r.2.2≤3;omega⟩,⟨by show 1≤1+r2.2.2;omega,by show 1+r2.2.2≤3;omega⟩,6,1+r4.2.2,r5.2.2,1+r6.2.2,by decide,by omega,by omega,by omega,.inr (.inr (.inl rfl))⟩ rfl rfl rfl rfl W0
  refine ⟨fun c3=>?_,fun c3=>?_⟩<;>conv=>whnf
  ·refine Dv 16 (Br [⟨8,0,0,[]⟩]) rfl (Gq rfl Zs) ?_
   refine Av A0 rfl rfl rfl rfl rfl rfl rfl rfl rfl rfl rfl (Br ([⟨1,0,0,[1]⟩,⟨6,0,0,[2,5]⟩,⟨4,1+r4.2.2,0,[3]⟩,⟨2,r5.2.2,0,[4]⟩,⟨7,0,0,[1]⟩,⟨8,0,0,[]⟩]++[⟨8,0,0,[]⟩])) (Ad (xs:=[⟨1,0,0,[1]⟩,⟨6,0,0,[2,5]⟩,⟨4,1+r4.2.2,0,[3]⟩,⟨2,r5.2.2,0,[4]⟩,⟨7,0,0,[1]⟩,⟨8,0,0,[]⟩]) (x:=⟨8,0,0,[]⟩) (e:=An.c) rfl) Bj Cg (A8 ?_)
   refine ⟨by simp,?_⟩
   conv=>whnf
   refine Dv 18 (Ap [1,6]) rfl (Ba rfl Cf) ?_
   refine Al (j:=0) A0 rfl rfl rfl rfl rfl rfl rfl rfl _ (C0 (j:=0) (xs:=[⟨1,0,0,[1]⟩,⟨6,0,0,[2,5]⟩,⟨4,1+r4.2.2,0,[3]⟩,⟨2,r5.2.2,0,[4]⟩,⟨7,0,0,[1]⟩,⟨8,0,0,[]⟩]++[⟨8,0,0,[]⟩]) (e:=An.c) (x:=⟨1,0,0,[1,6]⟩) Cg rfl) (A8 ?_)
   exact Bm A0 (r7.1,r7.2.1,⟨List.set ([⟨1,0,0,[1]⟩,⟨6,0,0,[2,5]⟩,⟨4,1+r4.2.2,0,[3]⟩,⟨2,r5.2.2,0,[4]⟩,⟨7,0,0,[1]⟩,⟨8,0,0,[]⟩]++[⟨8,0,0,[]⟩]) 0 ⟨1,0,0,[1,6]⟩,1+r.2.2,1+r2.2.2⟩) ⟨hr7.1,⟨Nat.le_of_ble_eq_true rfl,(by repeat' (first|exact H8|refine G7 ?_ ?_|refine H9 ?_ ?_|refine G6 ?_ ?_|refine He ?_ ?_ ?_ ?_ ?_|decide|omega)),⟨Nat.le_of_ble_eq_true rfl,Nat.le_of_ble_eq_true rfl⟩,⟨by show 0≤1+r.2.2;omega,by show 1+r.2.2≤100;omega⟩,⟨by show 0≤1+r2.2.2;omega,by show 1+r2.2.2≤100;omega⟩⟩,⟨by show 1≤1+r.2.2;omega,by show 1+r.2.2≤3;omega⟩,⟨by show 1≤1+r2.2.2;omega,by show 1+r2.2.2≤3;omega⟩,6,1+r4.2.2,r5.2.2,1+r6.2.2,by decide,by omega,by omega,by omega,.inr (.inr (.inr (.inl rfl)))⟩ rfl rfl rfl rfl W0
  exact Bm A0 (r7.1,r7.2.1,⟨[⟨1,0,0,[1]⟩,⟨6,0,0,[2,5]⟩,⟨4,1+r4.2.2,0,[3]⟩,⟨2,r5.2.2,0,[4]⟩,⟨7,0,0,[1]⟩,⟨8,0,0,[]⟩],1+r.2.2,1+r2.2.2⟩) ⟨hr7.1,⟨Nat.le_of_ble_eq_true rfl,(by repeat' (first|exact H8|refine G7 ?_ ?_|refine H9 ?_ ?_|refine G6 ?_ ?_|refine He ?_ ?_ ?_ ?_ ?_|decide|omega)),⟨Nat.le_of_ble_eq_true rfl,Nat.le_of_ble_eq_true rfl⟩,⟨by show 0≤1+r.2.2;omega,by show 1+r.2.2≤100;omega⟩,⟨by show 0≤1+r2.2.2;omega,by show 1+r2.2.2≤100;omega⟩⟩,⟨by show 1≤1+r.2.2;omega,by show 1+r.2.2≤3;omega⟩,⟨by show 1≤1+r2.2.2;omega,by show 1+r2.2.2≤3;omega⟩,6,1+r4.2.2,r5.2.2,1+r6.2.2,by decide,by omega,by omega,by omega,.inr (.inr (.inr (.inr rfl)))⟩ rfl rfl rfl rfl W0
 refine Ai (Ah d r3.1 r3.2.1 3 hr3 Aw) hH hp rfl At rfl rfl (fun r4 hr4=>go A0 false ?_)
 conv=>whnf
 (repeat refine Am ?_)
 refine Em 5 (Ap [3]) rfl (Ba rfl Cf) ?_
 refine Ai (Ah d r4.1 r4.2.1 4 hr4.1 Aw) hH hp rfl At rfl rfl (fun r5 hr5=>go A0 false ?_)
 conv=>whnf
 refine Em 7 (Ap [4]) rfl (Ba rfl Cf) ?_
 refine Ai (Ah d r5.1 r5.2.1 3 hr5.1 Aw) hH hp rfl At rfl rfl (fun r6 hr6=>goF 28 A0 false ?_)
 conv=>whnf
 refine ⟨by show _∧_;omega,?_⟩
 conv=>whnf
 refine Dv 9 (Ap [4]) rfl (Ba rfl Cf) ?_
 refine Dv 11 (Ap [1]) rfl (Ba rfl Cf) ?_
 refine Dv 14 (Ap [1]) rfl (Ba rfl Cf) ?_
 refine Ou A0 rfl rfl rfl rfl rfl rfl (l:=[.c (vi 1),.c (vi 0),.c (vi 0),.own 14,.c (vi 5),.c (vi 0),.c (vi 0),.own 3,.c (vi 4),.c (vi (1+r4.2.2)),.c (vi 0),.own 5,.c (vi 2),.c (vi r5.2.2),.c (vi 0),.own 7,.c (vi 7),.c (vi 0),.c (vi 0),.own 11,.c (vi 8),.c (vi 0),.c (vi 0),.c (.val (.slice none 0 0))]) A7
  (cs:=[vi 1,vi 0,vi 0,Ap [1],vi 5,vi 0,vi 0,Ap [2,5],vi 4,vi (1+r4.2.2),vi 0,Ap [3],vi 2,vi r5.2.2,vi 0,Ap [4],vi 7,vi 0,vi 0,Ap [1],vi 8,vi 0,vi 0,.val (.slice none 0 0)]) (ks:=[14,3,5,7,11]) A7 A7 (Jf ?_)
 conv=>whnf
 refine Em 15 (Br [⟨1,0,0,[1]⟩,⟨5,0,0,[2,5]⟩,⟨4,1+r4.2.2,0,[3]⟩,⟨2,r5.2.2,0,[4]⟩,⟨7,0,0,[1]⟩,⟨8,0,0,[]⟩]) rfl (Gq rfl Zs) ?_
 refine Ai (Ah d r6.1 r6.2.1 6 hr6.1 Aw) hH hp rfl At rfl rfl (fun r7 hr7=>go A0 false ?_)
 conv=>whnf
 have q1:=hr.2.2.2 Aw
 have p1:=hr.2.1
 have q2:=hr2.2.2.2 Aw
 have p2:=hr2.2.1
 have q4:=hr4.2.2.2 Aw
 have p4:=hr4.2.1
 have q5:=hr5.2.2.2 Aw
 have p5:=hr5.2.1
 have q6:=hr6.2.2.2 Aw
 have p6:=hr6.2.1
 refine ⟨fun c0=>?_,fun c0=>?_⟩<;>conv=>whnf
 ·refine ⟨by simp,?_⟩
  conv=>whnf
  refine Al (j:=3) A0 rfl rfl rfl rfl rfl rfl rfl rfl _ (C0 (j:=3) (xs:=[⟨1,0,0,[1]⟩,⟨5,0,0,[2,5]⟩,⟨4,1+r4.2.2,0,[3]⟩,⟨2,r5.2.2,0,[4]⟩,⟨7,0,0,[1]⟩,⟨8,0,0,[]⟩]) (e:=An.c) (x:=⟨3,1+r6.2.2,0,[4]⟩) Cg rfl) (A8 ?_)
  exact Bm A0 (r7.1,r7.2.1,⟨List.set [⟨1,0,0,[1]⟩,⟨5,0,0,[2,5]⟩,⟨4,1+r4.2.2,0,[3]⟩,⟨2,r5.2.2,0,[4]⟩,⟨7,0,0,[1]⟩,⟨8,0,0,[]⟩] 3 ⟨3,1+r6.2.2,0,[4]⟩,1+r.2.2,1+r2.2.2⟩) ⟨hr7.1,⟨Nat.le_of_ble_eq_true rfl,(by repeat' (first|exact H8|refine G7 ?_ ?_|refine H9 ?_ ?_|refine G6 ?_ ?_|refine He ?_ ?_ ?_ ?_ ?_|decide|omega)),⟨Nat.le_of_ble_eq_true rfl,Nat.le_of_ble_eq_true rfl⟩,⟨by show 0≤1+r.2.2;omega,by show 1+r.2.2≤100;omega⟩,⟨by show 0≤1+r2.2.2;omega,by show 1+r2.2.2≤100;omega⟩⟩,⟨by show 1≤1+r.2.2;omega,by show 1+r.2.2≤3;omega⟩,⟨by show 1≤1+r2.2.2;omega,by show 1+r2.2.2≤3;omega⟩,5,1+r4.2.2,r5.2.2,1+r6.2.2,by decide,by omega,by omega,by omega,.inl rfl⟩ rfl rfl rfl rfl W0
 refine ⟨fun c1=>?_,fun c1=>?_⟩<;>conv=>whnf
 ·refine ⟨by simp,?_⟩
  conv=>whnf
  refine Al (j:=4) A0 rfl rfl rfl rfl rfl rfl rfl rfl _ (Xn (j:=4) rfl) (A8 ?_)
  refine L7 15 (Br [⟨1,0,0,[1]⟩,⟨5,0,0,[2,5]⟩,⟨4,1+r4.2.2,0,[3]⟩,⟨2,r5.2.2,0,[4]⟩,⟨8,0,0,[]⟩,⟨8,0,0,[]⟩]) rfl (Gq rfl Zs) ?_
  exact Bm A0 (r7.1,r7.2.1,⟨[⟨1,0,0,[1]⟩,⟨5,0,0,[2,5]⟩,⟨4,1+r4.2.2,0,[3]⟩,⟨2,r5.2.2,0,[4]⟩,⟨8,0,0,[]⟩,⟨8,0,0,[]⟩],1+r.2.2,1+r2.2.2⟩) ⟨hr7.1,⟨Nat.le_of_ble_eq_true rfl,(by repeat' (first|exact H8|refine G7 ?_ ?_|refine H9 ?_ ?_|refine G6 ?_ ?_|refine He ?_ ?_ ?_ ?_ ?_|decide|omega)),⟨Nat.le_of_ble_eq_true rfl,Nat.le_of_ble_eq_true rfl⟩,⟨by show 0≤1+r.2.2;omega,by show 1+r.2.2≤100;omega⟩,⟨by show 0≤1+r2.2.2;omega,by show 1+r2.2.2≤100;omega⟩⟩,⟨by show 1≤1+r.2.2;omega,by show 1+r.2.2≤3;omega⟩,⟨by show 1≤1+r2.2.2;omega,by show 1+r2.2.2≤3;omega⟩,5,1+r4.2.2,r5.2.2,1+r6.2.2,by decide,by omega,by omega,by omega,.inr (.inl rfl)⟩ rfl rfl rfl rfl W0
 refine ⟨fun c2=>?_,fun c2=>?_⟩<;>conv=>whnf
 ·refine ⟨by simp,?_⟩
  conv=>whnf
  refine Dv 16 (Ap [3,4]) rfl (Ba rfl Cf) ?_
  refine Al (j:=2) A0 rfl rfl rfl rfl rfl rfl rfl rfl _ (C0 (j:=2) (xs:=[⟨1,0,0,[1]⟩,⟨5,0,0,[2,5]⟩,⟨4,1+r4.2.2,0,[3]⟩,⟨2,r5.2.2,0,[4]⟩,⟨7,0,0,[1]⟩,⟨8,0,0,[]⟩]) (e:=An.c) (x:=⟨4,1+r4.2.2,0,[3,4]⟩) Cg rfl) (A8 ?_)
  exact Bm A0 (r7.1,r7.2.1,⟨List.set [⟨1,0,0,[1]⟩,⟨5,0,0,[2,5]⟩,⟨4,1+r4.2.2,0,[3]⟩,⟨2,r5.2.2,0,[4]⟩,⟨7,0,0,[1]⟩,⟨8,0,0,[]⟩] 2 ⟨4,1+r4.2.2,0,[3,4]⟩,1+r.2.2,1+r2.2.2⟩) ⟨hr7.1,⟨Nat.le_of_ble_eq_true rfl,(by repeat' (first|exact H8|refine G7 ?_ ?_|refine H9 ?_ ?_|refine G6 ?_ ?_|refine He ?_ ?_ ?_ ?_ ?_|decide|omega)),⟨Nat.le_of_ble_eq_true rfl,Nat.le_of_ble_eq_true rfl⟩,⟨by show 0≤1+r.2.2;omega,by show 1+r.2.2≤100;omega⟩,⟨by show 0≤1+r2.2.2;omega,by show 1+r2.2.2≤100;omega⟩⟩,⟨by show 1≤1+r.2.2;omega,by show 1+r.2.2≤3;omega⟩,⟨by show 1≤1+r2.2.2;omega,by show 1+r2.2.2≤3;omega⟩,5,1+r4.2.2,r5.2.2,1+r6.2.2,by decide,by omega,by omega,by omega,.inr (.inr (.inl rfl))⟩ rfl rfl rfl rfl W0
 refine ⟨fun c3=>?_,fun c3=>?_⟩<;>conv=>whnf
 ·refine Dv 16 (Br [⟨8,0,0,[]⟩]) rfl (Gq rfl Zs) ?_
  refine Av A0 rfl rfl rfl rfl rfl rfl rfl rfl rfl rfl rfl (Br ([⟨1,0,0,[1]⟩,⟨5,0,0,[2,5]⟩,⟨4,1+r4.2.2,0,[3]⟩,⟨2,r5.2.2,0,[4]⟩,⟨7,0,0,[1]⟩,⟨8,0,0,[]⟩]++[⟨8,0,0,[]⟩])) (Ad (xs:=[⟨1,0,0,[1]⟩,⟨5,0,0,[2,5]⟩,⟨4,1+r4.2.2,0,[3]⟩,⟨2,r5.2.2,0,[4]⟩,⟨7,0,0,[1]⟩,⟨8,0,0,[]⟩]) (x:=⟨8,0,0,[]⟩) (e:=An.c) rfl) Bj Cg (A8 ?_)
  refine ⟨by simp,?_⟩
  conv=>whnf
  refine Dv 18 (Ap [1,6]) rfl (Ba rfl Cf) ?_
  refine Al (j:=0) A0 rfl rfl rfl rfl rfl rfl rfl rfl _ (C0 (j:=0) (xs:=[⟨1,0,0,[1]⟩,⟨5,0,0,[2,5]⟩,⟨4,1+r4.2.2,0,[3]⟩,⟨2,r5.2.2,0,[4]⟩,⟨7,0,0,[1]⟩,⟨8,0,0,[]⟩]++[⟨8,0,0,[]⟩]) (e:=An.c) (x:=⟨1,0,0,[1,6]⟩) Cg rfl) (A8 ?_)
  exact Bm A0 (r7.1,r7.2.1,⟨List.set ([⟨1,0,0,[1]⟩,⟨5,0,0,[2,5]⟩,⟨4,1+r4.2.2,0,[3]⟩,⟨2,r5.2.2,0,[4]⟩,⟨7,0,0,[1]⟩,⟨8,0,0,[]⟩]++[⟨8,0,0,[]⟩]) 0 ⟨1,0,0,[1,6]⟩,1+r.2.2,1+r2.2.2⟩) ⟨hr7.1,⟨Nat.le_of_ble_eq_true rfl,(by repeat' (first|exact H8|refine G7 ?_ ?_|refine H9 ?_ ?_|refine G6 ?_ ?_|refine He ?_ ?_ ?_ ?_ ?_|decide|omega)),⟨Nat.le_of_ble_eq_true rfl,Nat.le_of_ble_eq_true rfl⟩,⟨by show 0≤1+r.2.2;omega,by show 1+r.2.2≤100;omega⟩,⟨by show 0≤1+r2.2.2;omega,by show 1+r2.2.2≤100;omega⟩⟩,⟨by show 1≤1+r.2.2;omega,by show 1+r.2.2≤3;omega⟩,⟨by show 1≤1+r2.2.2;omega,by show 1+r2.2.2≤3;omega⟩,5,1+r4.2.2,r5.2.2,1+r6.2.2,by decide,by omega,by omega,by omega,.inr (.inr (.inr (.inl rfl)))⟩ rfl rfl rfl rfl W0
 exact Bm A0 (r7.1,r7.2.1,⟨[⟨1,0,0,[1]⟩,⟨5,0,0,[2,5]⟩,⟨4,1+r4.2.2,0,[3]⟩,⟨2,r5.2.2,0,[4]⟩,⟨7,0,0,[1]⟩,⟨8,0,0,[]⟩],1+r.2.2,1+r2.2.2⟩) ⟨hr7.1,⟨Nat.le_of_ble_eq_true rfl,(by repeat' (first|exact H8|refine G7 ?_ ?_|refine H9 ?_ ?_|refine G6 ?_ ?_|refine He ?_ ?_ ?_ ?_ ?_|decide|omega)),⟨Nat.le_of_ble_eq_true rfl,Nat.le_of_ble_eq_true rfl⟩,⟨by show 0≤1+r.2.2;omega,by show 1+r.2.2≤100;omega⟩,⟨by show 0≤1+r2.2.2;omega,by show 1+r2.2.2≤100;omega⟩⟩,⟨by show 1≤1+r.2.2;omega,by show 1+r.2.2≤3;omega⟩,⟨by show 1≤1+r2.2.2;omega,by show 1+r2.2.2≤3;omega⟩,5,1+r4.2.2,r5.2.2,1+r6.2.2,by decide,by omega,by omega,by omega,.inr (.inr (.inr (.inr rfl)))⟩ rfl rfl rfl rfl W0
theorem A54 (d:Dy)(i h:Int)(hi:0≤i∧i≤d.n):Cr Tryz.prog HT 47 d.pins (d.cur i h) [] (fun r:Int×Int×Ao=>(0≤r.1∧r.1≤d.n)∧A2b r.2.2) (fun r=>d.cur r.1 r.2.1) (fun r=>[.agg r.2.2.c]):=(Wu d i h hi).weak fun _ h=>⟨h.1,h.2.1⟩
theorem N6 (k:Nat):Et .i64 ([1,1,1,2,3,3,3,4,4,5,6,6,7].getD k 0):=
 U0 (p:=fun w=>Et .i64 w) _ k 0 (fun x hx=>by simp only [List.mem_cons,List.not_mem_nil,or_false] at hx;show _∧_;omega) ⟨by decide,by decide⟩
theorem Sy (n:Int):Et .i64 (n.tmod 3):=by
 show _∧_
 have h1:=Int.tmod_lt_of_pos n (show (0:Int)<3 by decide)
 have h2:=Int.lt_tmod_of_pos n (show (0:Int)<3 by decide)
 omega
theorem A8p (d:Dy)(i h:Int)(hi:0≤i∧i≤d.n):Cr Tryz.prog HT 128 d.pins (d.cur i h) [] (fun r:Int×Int×D5=>(0≤r.1∧r.1≤d.n)∧r.2.2.ok) (fun r=>d.cur r.1 r.2.1) (fun r=>[.agg r.2.2.c]):=by
 refine Df A0 false Tryz.func128 rfl Aw fun B b hH hp=>?_
 conv=>whnf
 refine Em 2 (Ap [1,1,1,2,3,3,3,4,4,5,6,6,7]) rfl (Ba rfl Cf) ?_
 refine Ai (D4 d i h [1,1,1,2,3,3,3,4,4,5,6,6,7] hi Aw) hH hp rfl At rfl rfl (fun r hr=>go A0 false ?_)
 conv=>whnf
 refine Ai (Ah d r.1 r.2.1 3 hr.1 Aw) hH hp rfl At rfl rfl (fun r2 hr2=>go A0 false ?_)
 conv=>whnf
 refine ⟨fun c1=>?_,fun c1=>?_⟩<;>conv=>whnf
 ·repeat' (first|(refine Oo ?_;conv=>whnf)|(refine Oq ?_;conv=>whnf)|(refine ⟨fun h=>?_,fun h=>?_⟩<;>conv=>whnf)|(refine Gl ?_;conv=>whnf)|fail)
  refine Fk rfl ?_
  refine Aj A0 false 0 rfl rfl rfl A7 rfl (A4 B1) ?_
  refine Aj A0 false 3 rfl rfl rfl A7 rfl (A4 B1) ?_
  refine A3 [1,4] A7 ⟨?_,?_,trivial⟩
  focus
   refine A8 ?_
   refine A5 ?_
   refine Aj A0 false 2 rfl rfl rfl A7 rfl (A4 B1) ?_
   refine A3 [4] A7 ⟨A8 ?_,trivial⟩
   refine Ai (Ah d r2.1 r2.2.1 2 hr2.1 Aw) hH hp rfl At rfl rfl (fun r3 hr3=>go A0 false ?_)
   conv=>whnf
   refine A5 ?_
   refine Aj A0 false 5 rfl rfl rfl A7 rfl (A4 B1) ?_
   refine Aj A0 false 6 rfl rfl rfl A7 rfl (A4 B1) ?_
   refine Aj A0 false 7 rfl rfl rfl A7 rfl (A4 B1) ?_
   refine A3 [8] A7 ⟨A8 ?_,trivial⟩
   refine A5 (Aq A7 (A8 ?_))
  rotate_left 1
  focus
   refine A8 ?_
   refine Ai (Ah d r2.1 r2.2.1 2 hr2.1 Aw) hH hp rfl At rfl rfl (fun r3 hr3=>go A0 false ?_)
   conv=>whnf
   refine A5 (A3 [1] A7 ⟨A8 ?_,trivial⟩)
   refine A5 ?_
   refine Aj A0 false 2 rfl rfl rfl A7 rfl (A4 B1) ?_
   refine Aj A0 false 5 rfl rfl rfl A7 rfl (A4 B1) ?_
   refine Aj A0 false 6 rfl rfl rfl A7 rfl (A4 B1) ?_
   refine Aj A0 false 7 rfl rfl rfl A7 rfl (A4 B1) ?_
   refine A3 [8] A7 ⟨A8 ?_,trivial⟩
   refine A5 (Aq A7 (A8 ?_))
  ·exact Bm A0 (r3.1,r3.2.1,⟨[1,1,1,2,3,3,3,4,4,5,6,6,7].getD r.2.2 0,r2.2.2,(r2.2.2+1+r3.2.2).tmod 3⟩) ⟨hr3.1,N6 _,⟨by show _≤r2.2.2;omega,by show r2.2.2≤_;omega⟩,Sy _⟩ rfl rfl rfl rfl At
  exact Bm A0 (r3.1,r3.2.1,⟨[1,1,1,2,3,3,3,4,4,5,6,6,7].getD r.2.2 0,r2.2.2,(r2.2.2+1+r3.2.2).tmod 3⟩) ⟨hr3.1,N6 _,⟨by show _≤r2.2.2;omega,by show r2.2.2≤_;omega⟩,Sy _⟩ rfl rfl rfl rfl At
 repeat' (first|(refine Oo ?_;conv=>whnf)|(refine Oq ?_;conv=>whnf)|(refine ⟨fun h=>?_,fun h=>?_⟩<;>conv=>whnf)|(refine Gl ?_;conv=>whnf)|fail)
 ·refine Fk rfl ?_
  refine Aj A0 false 0 rfl rfl rfl A7 rfl (A4 B1) ?_
  refine Aj A0 false 3 rfl rfl rfl A7 rfl (A4 B1) ?_
  refine A3 [1,4] A7 ⟨?_,?_,trivial⟩
  focus
   refine A8 ?_
   refine A5 ?_
   refine Aj A0 false 2 rfl rfl rfl A7 rfl (A4 B1) ?_
   refine A3 [4] A7 ⟨A8 ?_,trivial⟩
   refine Ai (Ah d r2.1 r2.2.1 2 hr2.1 Aw) hH hp rfl At rfl rfl (fun r3 hr3=>go A0 false ?_)
   conv=>whnf
   refine A5 ?_
   refine Aj A0 false 5 rfl rfl rfl A7 rfl (A4 B1) ?_
   refine Aj A0 false 6 rfl rfl rfl A7 rfl (A4 B1) ?_
   refine Aj A0 false 7 rfl rfl rfl A7 rfl (A4 B1) ?_
   refine A3 [8] A7 ⟨A8 ?_,trivial⟩
   refine A5 (Aq A7 (A8 ?_))
  rotate_left 1
  focus
   refine A8 ?_
   refine Ai (Ah d r2.1 r2.2.1 2 hr2.1 Aw) hH hp rfl At rfl rfl (fun r3 hr3=>go A0 false ?_)
   conv=>whnf
   refine A5 (A3 [1] A7 ⟨A8 ?_,trivial⟩)
   refine A5 ?_
   refine Aj A0 false 2 rfl rfl rfl A7 rfl (A4 B1) ?_
   refine Aj A0 false 5 rfl rfl rfl A7 rfl (A4 B1) ?_
   refine Aj A0 false 6 rfl rfl rfl A7 rfl (A4 B1) ?_
   refine Aj A0 false 7 rfl rfl rfl A7 rfl (A4 B1) ?_
   refine A3 [8] A7 ⟨A8 ?_,trivial⟩
   refine A5 (Aq A7 (A8 ?_))
  ·exact Bm A0 (r3.1,r3.2.1,⟨[1,1,1,2,3,3,3,4,4,5,6,6,7].getD r.2.2 0,r2.2.2,(r2.2.2+1+r3.2.2).tmod 3⟩) ⟨hr3.1,N6 _,⟨by show _≤r2.2.2;omega,by show r2.2.2≤_;omega⟩,Sy _⟩ rfl rfl rfl rfl At
  exact Bm A0 (r3.1,r3.2.1,⟨[1,1,1,2,3,3,3,4,4,5,6,6,7].getD r.2.2 0,r2.2.2,(r2.2.2+1+r3.2.2).tmod 3⟩) ⟨hr3.1,N6 _,⟨by show _≤r2.2.2;omega,by show r2.2.2≤_;omega⟩,Sy _⟩ rfl rfl rfl rfl At
 exact Bm A0 (r2.1,r2.2.1,⟨[1,1,1,2,3,3,3,4,4,5,6,6,7].getD r.2.2 0,r2.2.2,0⟩) ⟨hr2.1,N6 _,⟨by show _≤r2.2.2;omega,by show r2.2.2≤_;omega⟩,⟨by show (-9223372036854775808:Int)≤0;decide,by show (0:Int)≤9223372036854775807;decide⟩⟩ rfl rfl rfl rfl At
theorem A8o (d:Dy)(i h:Int)(hi:0≤i∧i≤d.n):Cr Tryz.prog HT 128 d.pins (d.cur i h) [] (fun r:Int×Int×D5=>0≤r.1∧r.1≤d.n) (fun r=>d.cur r.1 r.2.1) (fun r=>[.agg r.2.2.c]):=(A8p d i h hi).weak fun _ h=>h.1
structure JPk where
 k:Nat
 i:Int
 h:Int
 xs:List D5
theorem A0f (d:Dy)(i h:Int)(m:Nat)(hm:m≤1000)(hi:0≤i∧i≤d.n):Cr Tryz.prog HT 95 d.pins (d.cur i h) [.one (vi m)] (fun r:Int×Int×List D5=>(0≤r.1∧r.1≤d.n)∧r.2.2.length≤m) (fun r=>d.cur r.1 r.2.1) (fun r=>[.one (F7 r.2.2)]):=by
 refine Df A0 false Tryz.func95 rfl Aw fun B b hH hp=>?_
 conv=>whnf
 refine Dv 1 (F7 []) rfl (Ba rfl Cf) ?_
 refine Bv A0 false [7] (fun j:JPk=>[(6,.c (vi j.k))]) (fun j=>[⟨0,[.c (.val d.v),.c (vi j.i),.c (vi j.h)]⟩]) (fun j=>[⟨1,F7 j.xs⟩]) (fun j=>(0≤j.i∧j.i≤d.n)∧j.k≤m∧j.xs.length=j.k) (fun j=>m-j.k) (⟨0,i,h,[]⟩) (⟨hi,Nat.zero_le _,rfl⟩) ⟨F3,trivial⟩ Cf ⟨F2,trivial⟩ Cj A7 (fun j hj=>?_)
 conv=>whnf
 obtain ⟨hi,hk,hx⟩:=hj
 (repeat refine Am ?_)
 refine Ai (Ah d j.i j.h (m+1) hi Ab) hH hp rfl At rfl rfl (fun r hr=>go A0 false ?_)
 conv=>whnf
 refine Es (fun hlt=>?_) fun hlt=>?_<;>conv=>whnf
 ·have hlt2:(r.2.2:Int)<m+1:=hr.2.2.2 Ab
  refine Ai (A8o d r.1 r.2.1 hr.1) hH hp rfl At rfl rfl (fun r2 hr2=>go A0 false ?_)
  conv=>whnf
  refine Av A0 rfl rfl rfl rfl rfl rfl rfl rfl rfl rfl rfl (F7 (j.xs++[r2.2.2])) (Ad rfl) Bj Ab (A8 ?_)
  (repeat refine Am ?_)
  refine B6 [(1,3)] (⟨j.k+1,r2.1,r2.2.1,j.xs++[r2.2.2]⟩) (⟨hr2,by show j.k+1≤m;omega,by simp [hx]⟩) (by show m-(j.k+1)<_;omega) ⟨rfl,trivial⟩ ⟨rfl,trivial⟩ Cf A7 Cj A7
 exact Bm A0 (r.1,r.2.1,j.xs) ⟨hr.1,by show j.xs.length≤m;omega⟩ rfl rfl rfl rfl At
end Go.Proofs.YtdendlkeiaccpaaGreat
