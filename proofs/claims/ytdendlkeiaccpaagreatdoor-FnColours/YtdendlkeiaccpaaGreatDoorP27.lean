/- Part 27 of the proof that each of the laws FnColours returns true for every input. No conditions. -/
import Derived.Test.YtdendlkeiaccpaaGreatDoorP23

set_option linter.unusedSimpArgs false
set_option linter.unusedVariables false
set_option maxRecDepth 100000
namespace Go.Proofs.YtdendlkeiaccpaaGreatDoor
open Go.Sx
def St (x:Av):Prop:=(-9≤x.kind∧x.kind≤1000)∧(-9≤x.a∧x.a≤1000)∧(-9≤x.b∧x.b≤1000)∧x.outs.length≤10∧∀n∈x.outs,-9≤n∧n≤1000
def A0d (xs:List Av):Prop:=∀x∈xs,St x
theorem Ig {k a b:Int}{l:List Int}(hk: -9≤k∧k≤1000)(ha: -9≤a∧a≤1000)(hb: -9≤b∧b≤1000)(hl:l.length≤10)(h:∀n∈l,-9≤n∧n≤1000):St ⟨k,a,b,l⟩:=⟨hk,ha,hb,hl,h⟩
theorem I6:A0d []:=fun _ h=>(List.not_mem_nil h).elim
theorem H6 {x:Av}{xs:List Av}(h:St x)(hs:A0d xs):A0d (x::xs):=fun y hy=>by
 rcases List.mem_cons.1 hy with rfl|hy
 ·exact h
 exact hs y hy
theorem H7 {x:Av}{xs:List Av}(hs:A0d xs)(h:St x):A0d (xs++[x]):=fun y hy=>by
 rcases List.mem_append.1 hy with hy|hy
 ·exact hs y hy
 rw [List.mem_singleton.1 hy];exact h
theorem I7 {x:Av}{xs:List Av}{j:Nat}(hs:A0d xs)(h:St x):A0d (xs.set j x):=fun y hy=>by
 rcases List.mem_or_eq_of_mem_set hy with hy|rfl
 ·exact hs y hy
 exact h
def A7e (G a b:Int):List Av:=[⟨1,0,0,[1]⟩,⟨G,0,0,[2,5]⟩,⟨4,a,0,[3]⟩,⟨2,b,0,[4]⟩,⟨7,0,0,[1]⟩,⟨8,0,0,[]⟩]
def B1d (l:List Av):Prop:=∃G a b k:Int,(G=6∨G=5)∧(1≤a∧a≤3)∧(0≤b∧b≤3)∧(1≤k∧k≤3)∧
 (l=(A7e G a b).set 3 ⟨3,k,0,[4]⟩∨l=[⟨1,0,0,[1]⟩,⟨G,0,0,[2,5]⟩,⟨4,a,0,[3]⟩,⟨2,b,0,[4]⟩,⟨8,0,0,[]⟩,⟨8,0,0,[]⟩]∨l=(A7e G a b).set 2 ⟨4,a,0,[3,4]⟩∨l=(A7e G a b++[(⟨8,0,0,[]⟩:Av)]).set 0 ⟨1,0,0,[1,6]⟩∨l=A7e G a b)
def A0e (g:Aq):Prop:=(1≤g.workers∧g.workers≤3)∧(1≤g.cap∧g.cap≤3)∧B1d g.nodes
def A5d (g:Aq):Prop:=g.w≤64∧A0d g.nodes∧(1≤g.nodes.length∧g.nodes.length≤7)∧(0≤g.workers∧g.workers≤100)∧(0≤g.cap∧g.cap≤100)
set_option maxHeartbeats 1600000 in
theorem Yw (d:E4)(i h:Int)(hi:0≤i∧i≤d.n):Dd Tryz.prog HT 80 d.pins (d.cur i h) [] (fun r:Int×Int×Aq=>(0≤r.1∧r.1≤d.n)∧A5d r.2.2∧A0e r.2.2) (fun r=>d.cur r.1 r.2.1) (fun r=>[.agg r.2.2.c]):=by
 refine Dp A0 false Tryz.func80 rfl Az fun B b hH hp=>?_
 conv=>whnf
 refine Ak (Ai d i h 3 hi Az) hH hp rfl B1 rfl rfl (fun r hr=>go A0 false ?_)
 conv=>whnf
 (repeat refine An ?_)
 refine Ak (Ai d r.1 r.2.1 3 hr.1 Az) hH hp rfl B1 rfl rfl (fun r2 hr2=>go A0 false ?_)
 conv=>whnf
 (repeat refine An ?_)
 refine Fl 3 (Au [2,5]) rfl (Bq rfl Cg) ?_
 refine Ak (Lt d r2.1 r2.2.1 3 hr2.1 Az) hH hp rfl B1 rfl rfl (fun r3 hr3=>go A0 false ?_)
 conv=>whnf
 refine ⟨fun cg=>?_,fun cg=>?_⟩<;>conv=>whnf
 ·refine Ak (Ai d r3.1 r3.2.1 3 hr3 Az) hH hp rfl B1 rfl rfl (fun r4 hr4=>go A0 false ?_)
  conv=>whnf
  (repeat refine An ?_)
  refine Fl 5 (Au [3]) rfl (Bq rfl Cg) ?_
  refine Ak (Ai d r4.1 r4.2.1 4 hr4.1 Az) hH hp rfl B1 rfl rfl (fun r5 hr5=>go A0 false ?_)
  conv=>whnf
  refine Fl 7 (Au [4]) rfl (Bq rfl Cg) ?_
  refine Ak (Ai d r5.1 r5.2.1 3 hr5.1 Az) hH hp rfl B1 rfl rfl (fun r6 hr6=>goF 28 A0 false ?_)
  conv=>whnf
  refine ⟨by show _∧_;omega,?_⟩
  conv=>whnf
  refine Eo 9 (Au [4]) rfl (Bq rfl Cg) ?_
  refine Eo 11 (Au [1]) rfl (Bq rfl Cg) ?_
  refine Eo 14 (Au [1]) rfl (Bq rfl Cg) ?_
  refine Jp A0 rfl rfl rfl rfl rfl rfl (l:=[.c (vi 1),.c (vi 0),.c (vi 0),.own 14,.c (vi 6),.c (vi 0),.c (vi 0),.own 3,.c (vi 4),.c (vi (1+r4.2.2)),.c (vi 0),.own 5,.c (vi 2),.c (vi r5.2.2),.c (vi 0),.own 7,.c (vi 7),.c (vi 0),.c (vi 0),.own 11,.c (vi 8),.c (vi 0),.c (vi 0),.c (.val (.slice none 0 0))]) A7
   (cs:=[vi 1,vi 0,vi 0,Au [1],vi 6,vi 0,vi 0,Au [2,5],vi 4,vi (1+r4.2.2),vi 0,Au [3],vi 2,vi r5.2.2,vi 0,Au [4],vi 7,vi 0,vi 0,Au [1],vi 8,vi 0,vi 0,.val (.slice none 0 0)]) (ks:=[14,3,5,7,11]) A7 A7 (I5 ?_)
  conv=>whnf
  refine Fl 15 (Bn [⟨1,0,0,[1]⟩,⟨6,0,0,[2,5]⟩,⟨4,1+r4.2.2,0,[3]⟩,⟨2,r5.2.2,0,[4]⟩,⟨7,0,0,[1]⟩,⟨8,0,0,[]⟩]) rfl (Hn rfl A2m) ?_
  refine Ak (Ai d r6.1 r6.2.1 6 hr6.1 Az) hH hp rfl B1 rfl rfl (fun r7 hr7=>go A0 false ?_)
  conv=>whnf
  have q1:=hr.2.2.2 Az
  have p1:=hr.2.1
  have q2:=hr2.2.2.2 Az
  have p2:=hr2.2.1
  have q4:=hr4.2.2.2 Az
  have p4:=hr4.2.1
  have q5:=hr5.2.2.2 Az
  have p5:=hr5.2.1
  have q6:=hr6.2.2.2 Az
  have p6:=hr6.2.1
  refine ⟨fun c0=>?_,fun c0=>?_⟩<;>conv=>whnf
  ·refine ⟨by simp,?_⟩
   conv=>whnf
   refine Am (j:=3) A0 rfl rfl rfl rfl rfl rfl rfl rfl _ (C6 (j:=3) (xs:=[⟨1,0,0,[1]⟩,⟨6,0,0,[2,5]⟩,⟨4,1+r4.2.2,0,[3]⟩,⟨2,r5.2.2,0,[4]⟩,⟨7,0,0,[1]⟩,⟨8,0,0,[]⟩]) (e:=Av.c) (x:=⟨3,1+r6.2.2,0,[4]⟩) Cv rfl) (A8 ?_)
   exact Bu A0 (r7.1,r7.2.1,⟨List.set [⟨1,0,0,[1]⟩,⟨6,0,0,[2,5]⟩,⟨4,1+r4.2.2,0,[3]⟩,⟨2,r5.2.2,0,[4]⟩,⟨7,0,0,[1]⟩,⟨8,0,0,[]⟩] 3 ⟨3,1+r6.2.2,0,[4]⟩,1+r.2.2,1+r2.2.2⟩) ⟨hr7.1,⟨Nat.le_of_ble_eq_true rfl,(by repeat' (first|exact I6|refine H7 ?_ ?_|refine I7 ?_ ?_|refine H6 ?_ ?_|refine Ig ?_ ?_ ?_ ?_ ?_|decide|omega)),⟨Nat.le_of_ble_eq_true rfl,Nat.le_of_ble_eq_true rfl⟩,⟨by show 0≤1+r.2.2;omega,by show 1+r.2.2≤100;omega⟩,⟨by show 0≤1+r2.2.2;omega,by show 1+r2.2.2≤100;omega⟩⟩,⟨by show 1≤1+r.2.2;omega,by show 1+r.2.2≤3;omega⟩,⟨by show 1≤1+r2.2.2;omega,by show 1+r2.2.2≤3;omega⟩,6,1+r4.2.2,r5.2.2,1+r6.2.2,by decide,by omega,by omega,by omega,.inl rfl⟩ rfl rfl rfl rfl Xx
  refine ⟨fun c1=>?_,fun c1=>?_⟩<;>conv=>whnf
  ·refine ⟨by simp,?_⟩
   conv=>whnf
   refine Am (j:=4) A0 rfl rfl rfl rfl rfl rfl rfl rfl _ (A0b (j:=4) rfl) (A8 ?_)
   refine Ml 15 (Bn [⟨1,0,0,[1]⟩,⟨6,0,0,[2,5]⟩,⟨4,1+r4.2.2,0,[3]⟩,⟨2,r5.2.2,0,[4]⟩,⟨8,0,0,[]⟩,⟨8,0,0,[]⟩]) rfl (Hn rfl A2m) ?_
   exact Bu A0 (r7.1,r7.2.1,⟨[⟨1,0,0,[1]⟩,⟨6,0,0,[2,5]⟩,⟨4,1+r4.2.2,0,[3]⟩,⟨2,r5.2.2,0,[4]⟩,⟨8,0,0,[]⟩,⟨8,0,0,[]⟩],1+r.2.2,1+r2.2.2⟩) ⟨hr7.1,⟨Nat.le_of_ble_eq_true rfl,(by repeat' (first|exact I6|refine H7 ?_ ?_|refine I7 ?_ ?_|refine H6 ?_ ?_|refine Ig ?_ ?_ ?_ ?_ ?_|decide|omega)),⟨Nat.le_of_ble_eq_true rfl,Nat.le_of_ble_eq_true rfl⟩,⟨by show 0≤1+r.2.2;omega,by show 1+r.2.2≤100;omega⟩,⟨by show 0≤1+r2.2.2;omega,by show 1+r2.2.2≤100;omega⟩⟩,⟨by show 1≤1+r.2.2;omega,by show 1+r.2.2≤3;omega⟩,⟨by show 1≤1+r2.2.2;omega,by show 1+r2.2.2≤3;omega⟩,6,1+r4.2.2,r5.2.2,1+r6.2.2,by decide,by omega,by omega,by omega,.inr (.inl rfl)⟩ rfl rfl rfl rfl Xx
  refine ⟨fun c2=>?_,fun c2=>?_⟩<;>conv=>whnf
  ·refine ⟨by simp,?_⟩
   conv=>whnf
   refine Eo 16 (Au [3,4]) rfl (Bq rfl Cg) ?_
   refine Am (j:=2) A0 rfl rfl rfl rfl rfl rfl rfl rfl _ (C6 (j:=2) (xs:=[⟨1,0,0,[1]⟩,⟨6,0,0,[2,5]⟩,⟨4,1+r4.2.2,0,[3]⟩,⟨2,r5.2.2,0,[4]⟩,⟨7,0,0,[1]⟩,⟨8,0,0,[]⟩]) (e:=Av.c) (x:=⟨4,1+r4.2.2,0,[3,4]⟩) Cv rfl) (A8 ?_)
   exact Bu A0 (r7.1,r7.2.1,⟨List.set [⟨1,0,0,[1]⟩,⟨6,0,0,[2,5]⟩,⟨4,1+r4.2.2,0,[3]⟩,⟨2,r5.2.2,0,[4]⟩,⟨7,0,0,[1]⟩,⟨8,0,0,[]⟩] 2 ⟨4,1+r4.2.2,0,[3,4]⟩,1+r.2.2,1+r2.2.2⟩) ⟨hr7.1,⟨Nat.le_of_ble_eq_true rfl,(by repeat' (first|exact I6|refine H7 ?_ ?_|refine I7 ?_ ?_|refine H6 ?_ ?_|refine Ig ?_ ?_ ?_ ?_ ?_|decide|omega)),⟨Nat.le_of_ble_eq_true rfl,Nat.le_of_ble_eq_true rfl⟩,⟨by show 0≤1+r.2.2;omega,by show 1+r.2.2≤100;omega⟩,⟨by show 0≤1+r2.2.2;omega,by show 1+r2.2.2≤100;omega⟩⟩,⟨by show 1≤1+r.2.2;omega,by show 1+r.2.2≤3;omega⟩,⟨by show 1≤1+r2.2.2;omega,by show 1+r2.2.2≤3;omega⟩,6,1+r4.2.2,r5.2.2,1+r6.2.2,by decide,by omega,by omega,by omega,.inr (.inr (.inl rfl))⟩ rfl rfl rfl rfl Xx
  refine ⟨fun c3=>?_,fun c3=>?_⟩<;>conv=>whnf
  ·refine Eo 16 (Bn [⟨8,0,0,[]⟩]) rfl (Hn rfl A2m) ?_
   refine B6 A0 rfl rfl rfl rfl rfl rfl rfl rfl rfl rfl rfl (Bn ([⟨1,0,0,[1]⟩,⟨6,0,0,[2,5]⟩,⟨4,1+r4.2.2,0,[3]⟩,⟨2,r5.2.2,0,[4]⟩,⟨7,0,0,[1]⟩,⟨8,0,0,[]⟩]++[⟨8,0,0,[]⟩])) (Ad (xs:=[⟨1,0,0,[1]⟩,⟨6,0,0,[2,5]⟩,⟨4,1+r4.2.2,0,[3]⟩,⟨2,r5.2.2,0,[4]⟩,⟨7,0,0,[1]⟩,⟨8,0,0,[]⟩]) (x:=⟨8,0,0,[]⟩) (e:=Av.c) rfl) Bp Cv (A8 ?_)
   refine ⟨by simp,?_⟩
   conv=>whnf
   refine Eo 18 (Au [1,6]) rfl (Bq rfl Cg) ?_
   refine Am (j:=0) A0 rfl rfl rfl rfl rfl rfl rfl rfl _ (C6 (j:=0) (xs:=[⟨1,0,0,[1]⟩,⟨6,0,0,[2,5]⟩,⟨4,1+r4.2.2,0,[3]⟩,⟨2,r5.2.2,0,[4]⟩,⟨7,0,0,[1]⟩,⟨8,0,0,[]⟩]++[⟨8,0,0,[]⟩]) (e:=Av.c) (x:=⟨1,0,0,[1,6]⟩) Cv rfl) (A8 ?_)
   exact Bu A0 (r7.1,r7.2.1,⟨List.set ([⟨1,0,0,[1]⟩,⟨6,0,0,[2,5]⟩,⟨4,1+r4.2.2,0,[3]⟩,⟨2,r5.2.2,0,[4]⟩,⟨7,0,0,[1]⟩,⟨8,0,0,[]⟩]++[⟨8,0,0,[]⟩]) 0 ⟨1,0,0,[1,6]⟩,1+r.2.2,1+r2.2.2⟩) ⟨hr7.1,⟨Nat.le_of_ble_eq_true rfl,(by repeat' (first|exact I6|refine H7 ?_ ?_|refine I7 ?_ ?_|refine H6 ?_ ?_|refine Ig ?_ ?_ ?_ ?_ ?_|decide|omega)),⟨Nat.le_of_ble_eq_true rfl,Nat.le_of_ble_eq_true rfl⟩,⟨by show 0≤1+r.2.2;omega,by show 1+r.2.2≤100;omega⟩,⟨by show 0≤1+r2.2.2;omega,by show 1+r2.2.2≤100;omega⟩⟩,⟨by show 1≤1+r.2.2;omega,by show 1+r.2.2≤3;omega⟩,⟨by show 1≤1+r2.2.2;omega,by show 1+r2.2.2≤3;omega⟩,6,1+r4.2.2,r5.2.2,1+r6.2.2,by decide,by omega,by omega,by omega,.inr (.inr (.inr (.inl rfl)))⟩ rfl rfl rfl rfl Xx
  exact Bu A0 (r7.1,r7.2.1,⟨[⟨1,0,0,[1]⟩,⟨6,0,0,[2,5]⟩,⟨4,1+r4.2.2,0,[3]⟩,⟨2,r5.2.2,0,[4]⟩,⟨7,0,0,[1]⟩,⟨8,0,0,[]⟩],1+r.2.2,1+r2.2.2⟩) ⟨hr7.1,⟨Nat.le_of_ble_eq_true rfl,(by repeat' (first|exact I6|refine H7 ?_ ?_|refine I7 ?_ ?_|refine H6 ?_ ?_|refine Ig ?_ ?_ ?_ ?_ ?_|decide|omega)),⟨Nat.le_of_ble_eq_true rfl,Nat.le_of_ble_eq_true rfl⟩,⟨by show 0≤1+r.2.2;omega,by show 1+r.2.2≤100;omega⟩,⟨by show 0≤1+r2.2.2;omega,by show 1+r2.2.2≤100;omega⟩⟩,⟨by show 1≤1+r.2.2;omega,by show 1+r.2.2≤3;omega⟩,⟨by show 1≤1+r2.2.2;omega,by show 1+r2.2.2≤3;omega⟩,6,1+r4.2.2,r5.2.2,1+r6.2.2,by decide,by omega,by omega,by omega,.inr (.inr (.inr (.inr rfl)))⟩ rfl rfl rfl rfl Xx
 refine Ak (Ai d r3.1 r3.2.1 3 hr3 Az) hH hp rfl B1 rfl rfl (fun r4 hr4=>go A0 false ?_)
 conv=>whnf
 (repeat refine An ?_)
 refine Fl 5 (Au [3]) rfl (Bq rfl Cg) ?_
 refine Ak (Ai d r4.1 r4.2.1 4 hr4.1 Az) hH hp rfl B1 rfl rfl (fun r5 hr5=>go A0 false ?_)
 conv=>whnf
 refine Fl 7 (Au [4]) rfl (Bq rfl Cg) ?_
 refine Ak (Ai d r5.1 r5.2.1 3 hr5.1 Az) hH hp rfl B1 rfl rfl (fun r6 hr6=>goF 28 A0 false ?_)
 conv=>whnf
 refine ⟨by show _∧_;omega,?_⟩
 conv=>whnf
 refine Eo 9 (Au [4]) rfl (Bq rfl Cg) ?_
 refine Eo 11 (Au [1]) rfl (Bq rfl Cg) ?_
 refine Eo 14 (Au [1]) rfl (Bq rfl Cg) ?_
 refine Jp A0 rfl rfl rfl rfl rfl rfl (l:=[.c (vi 1),.c (vi 0),.c (vi 0),.own 14,.c (vi 5),.c (vi 0),.c (vi 0),.own 3,.c (vi 4),.c (vi (1+r4.2.2)),.c (vi 0),.own 5,.c (vi 2),.c (vi r5.2.2),.c (vi 0),.own 7,.c (vi 7),.c (vi 0),.c (vi 0),.own 11,.c (vi 8),.c (vi 0),.c (vi 0),.c (.val (.slice none 0 0))]) A7
  (cs:=[vi 1,vi 0,vi 0,Au [1],vi 5,vi 0,vi 0,Au [2,5],vi 4,vi (1+r4.2.2),vi 0,Au [3],vi 2,vi r5.2.2,vi 0,Au [4],vi 7,vi 0,vi 0,Au [1],vi 8,vi 0,vi 0,.val (.slice none 0 0)]) (ks:=[14,3,5,7,11]) A7 A7 (I5 ?_)
 conv=>whnf
 refine Fl 15 (Bn [⟨1,0,0,[1]⟩,⟨5,0,0,[2,5]⟩,⟨4,1+r4.2.2,0,[3]⟩,⟨2,r5.2.2,0,[4]⟩,⟨7,0,0,[1]⟩,⟨8,0,0,[]⟩]) rfl (Hn rfl A2m) ?_
 refine Ak (Ai d r6.1 r6.2.1 6 hr6.1 Az) hH hp rfl B1 rfl rfl (fun r7 hr7=>go A0 false ?_)
 conv=>whnf
 have q1:=hr.2.2.2 Az
 have p1:=hr.2.1
 have q2:=hr2.2.2.2 Az
 have p2:=hr2.2.1
 have q4:=hr4.2.2.2 Az
 have p4:=hr4.2.1
 have q5:=hr5.2.2.2 Az
 have p5:=hr5.2.1
 have q6:=hr6.2.2.2 Az
 have p6:=hr6.2.1
 refine ⟨fun c0=>?_,fun c0=>?_⟩<;>conv=>whnf
 ·refine ⟨by simp,?_⟩
  conv=>whnf
  refine Am (j:=3) A0 rfl rfl rfl rfl rfl rfl rfl rfl _ (C6 (j:=3) (xs:=[⟨1,0,0,[1]⟩,⟨5,0,0,[2,5]⟩,⟨4,1+r4.2.2,0,[3]⟩,⟨2,r5.2.2,0,[4]⟩,⟨7,0,0,[1]⟩,⟨8,0,0,[]⟩]) (e:=Av.c) (x:=⟨3,1+r6.2.2,0,[4]⟩) Cv rfl) (A8 ?_)
  exact Bu A0 (r7.1,r7.2.1,⟨List.set [⟨1,0,0,[1]⟩,⟨5,0,0,[2,5]⟩,⟨4,1+r4.2.2,0,[3]⟩,⟨2,r5.2.2,0,[4]⟩,⟨7,0,0,[1]⟩,⟨8,0,0,[]⟩] 3 ⟨3,1+r6.2.2,0,[4]⟩,1+r.2.2,1+r2.2.2⟩) ⟨hr7.1,⟨Nat.le_of_ble_eq_true rfl,(by repeat' (first|exact I6|refine H7 ?_ ?_|refine I7 ?_ ?_|refine H6 ?_ ?_|refine Ig ?_ ?_ ?_ ?_ ?_|decide|omega)),⟨Nat.le_of_ble_eq_true rfl,Nat.le_of_ble_eq_true rfl⟩,⟨by show 0≤1+r.2.2;omega,by show 1+r.2.2≤100;omega⟩,⟨by show 0≤1+r2.2.2;omega,by show 1+r2.2.2≤100;omega⟩⟩,⟨by show 1≤1+r.2.2;omega,by show 1+r.2.2≤3;omega⟩,⟨by show 1≤1+r2.2.2;omega,by show 1+r2.2.2≤3;omega⟩,5,1+r4.2.2,r5.2.2,1+r6.2.2,by decide,by omega,by omega,by omega,.inl rfl⟩ rfl rfl rfl rfl Xx
 refine ⟨fun c1=>?_,fun c1=>?_⟩<;>conv=>whnf
 ·refine ⟨by simp,?_⟩
  conv=>whnf
  refine Am (j:=4) A0 rfl rfl rfl rfl rfl rfl rfl rfl _ (A0b (j:=4) rfl) (A8 ?_)
  refine Ml 15 (Bn [⟨1,0,0,[1]⟩,⟨5,0,0,[2,5]⟩,⟨4,1+r4.2.2,0,[3]⟩,⟨2,r5.2.2,0,[4]⟩,⟨8,0,0,[]⟩,⟨8,0,0,[]⟩]) rfl (Hn rfl A2m) ?_
  exact Bu A0 (r7.1,r7.2.1,⟨[⟨1,0,0,[1]⟩,⟨5,0,0,[2,5]⟩,⟨4,1+r4.2.2,0,[3]⟩,⟨2,r5.2.2,0,[4]⟩,⟨8,0,0,[]⟩,⟨8,0,0,[]⟩],1+r.2.2,1+r2.2.2⟩) ⟨hr7.1,⟨Nat.le_of_ble_eq_true rfl,(by repeat' (first|exact I6|refine H7 ?_ ?_|refine I7 ?_ ?_|refine H6 ?_ ?_|refine Ig ?_ ?_ ?_ ?_ ?_|decide|omega)),⟨Nat.le_of_ble_eq_true rfl,Nat.le_of_ble_eq_true rfl⟩,⟨by show 0≤1+r.2.2;omega,by show 1+r.2.2≤100;omega⟩,⟨by show 0≤1+r2.2.2;omega,by show 1+r2.2.2≤100;omega⟩⟩,⟨by show 1≤1+r.2.2;omega,by show 1+r.2.2≤3;omega⟩,⟨by show 1≤1+r2.2.2;omega,by show 1+r2.2.2≤3;omega⟩,5,1+r4.2.2,r5.2.2,1+r6.2.2,by decide,by omega,by omega,by omega,.inr (.inl rfl)⟩ rfl rfl rfl rfl Xx
 refine ⟨fun c2=>?_,fun c2=>?_⟩<;>conv=>whnf
 ·refine ⟨by simp,?_⟩
  conv=>whnf
  refine Eo 16 (Au [3,4]) rfl (Bq rfl Cg) ?_
  refine Am (j:=2) A0 rfl rfl rfl rfl rfl rfl rfl rfl _ (C6 (j:=2) (xs:=[⟨1,0,0,[1]⟩,⟨5,0,0,[2,5]⟩,⟨4,1+r4.2.2,0,[3]⟩,⟨2,r5.2.2,0,[4]⟩,⟨7,0,0,[1]⟩,⟨8,0,0,[]⟩]) (e:=Av.c) (x:=⟨4,1+r4.2.2,0,[3,4]⟩) Cv rfl) (A8 ?_)
  exact Bu A0 (r7.1,r7.2.1,⟨List.set [⟨1,0,0,[1]⟩,⟨5,0,0,[2,5]⟩,⟨4,1+r4.2.2,0,[3]⟩,⟨2,r5.2.2,0,[4]⟩,⟨7,0,0,[1]⟩,⟨8,0,0,[]⟩] 2 ⟨4,1+r4.2.2,0,[3,4]⟩,1+r.2.2,1+r2.2.2⟩) ⟨hr7.1,⟨Nat.le_of_ble_eq_true rfl,(by repeat' (first|exact I6|refine H7 ?_ ?_|refine I7 ?_ ?_|refine H6 ?_ ?_|refine Ig ?_ ?_ ?_ ?_ ?_|decide|omega)),⟨Nat.le_of_ble_eq_true rfl,Nat.le_of_ble_eq_true rfl⟩,⟨by show 0≤1+r.2.2;omega,by show 1+r.2.2≤100;omega⟩,⟨by show 0≤1+r2.2.2;omega,by show 1+r2.2.2≤100;omega⟩⟩,⟨by show 1≤1+r.2.2;omega,by show 1+r.2.2≤3;omega⟩,⟨by show 1≤1+r2.2.2;omega,by show 1+r2.2.2≤3;omega⟩,5,1+r4.2.2,r5.2.2,1+r6.2.2,by decide,by omega,by omega,by omega,.inr (.inr (.inl rfl))⟩ rfl rfl rfl rfl Xx
 refine ⟨fun c3=>?_,fun c3=>?_⟩<;>conv=>whnf
 ·refine Eo 16 (Bn [⟨8,0,0,[]⟩]) rfl (Hn rfl A2m) ?_
  refine B6 A0 rfl rfl rfl rfl rfl rfl rfl rfl rfl rfl rfl (Bn ([⟨1,0,0,[1]⟩,⟨5,0,0,[2,5]⟩,⟨4,1+r4.2.2,0,[3]⟩,⟨2,r5.2.2,0,[4]⟩,⟨7,0,0,[1]⟩,⟨8,0,0,[]⟩]++[⟨8,0,0,[]⟩])) (Ad (xs:=[⟨1,0,0,[1]⟩,⟨5,0,0,[2,5]⟩,⟨4,1+r4.2.2,0,[3]⟩,⟨2,r5.2.2,0,[4]⟩,⟨7,0,0,[1]⟩,⟨8,0,0,[]⟩]) (x:=⟨8,0,0,[]⟩) (e:=Av.c) rfl) Bp Cv (A8 ?_)
  refine ⟨by simp,?_⟩
  conv=>whnf
  refine Eo 18 (Au [1,6]) rfl (Bq rfl Cg) ?_
  refine Am (j:=0) A0 rfl rfl rfl rfl rfl rfl rfl rfl _ (C6 (j:=0) (xs:=[⟨1,0,0,[1]⟩,⟨5,0,0,[2,5]⟩,⟨4,1+r4.2.2,0,[3]⟩,⟨2,r5.2.2,0,[4]⟩,⟨7,0,0,[1]⟩,⟨8,0,0,[]⟩]++[⟨8,0,0,[]⟩]) (e:=Av.c) (x:=⟨1,0,0,[1,6]⟩) Cv rfl) (A8 ?_)
  exact Bu A0 (r7.1,r7.2.1,⟨List.set ([⟨1,0,0,[1]⟩,⟨5,0,0,[2,5]⟩,⟨4,1+r4.2.2,0,[3]⟩,⟨2,r5.2.2,0,[4]⟩,⟨7,0,0,[1]⟩,⟨8,0,0,[]⟩]++[⟨8,0,0,[]⟩]) 0 ⟨1,0,0,[1,6]⟩,1+r.2.2,1+r2.2.2⟩) ⟨hr7.1,⟨Nat.le_of_ble_eq_true rfl,(by repeat' (first|exact I6|refine H7 ?_ ?_|refine I7 ?_ ?_|refine H6 ?_ ?_|refine Ig ?_ ?_ ?_ ?_ ?_|decide|omega)),⟨Nat.le_of_ble_eq_true rfl,Nat.le_of_ble_eq_true rfl⟩,⟨by show 0≤1+r.2.2;omega,by show 1+r.2.2≤100;omega⟩,⟨by show 0≤1+r2.2.2;omega,by show 1+r2.2.2≤100;omega⟩⟩,⟨by show 1≤1+r.2.2;omega,by show 1+r.2.2≤3;omega⟩,⟨by show 1≤1+r2.2.2;omega,by show 1+r2.2.2≤3;omega⟩,5,1+r4.2.2,r5.2.2,1+r6.2.2,by decide,by omega,by omega,by omega,.inr (.inr (.inr (.inl rfl)))⟩ rfl rfl rfl rfl Xx
 exact Bu A0 (r7.1,r7.2.1,⟨[⟨1,0,0,[1]⟩,⟨5,0,0,[2,5]⟩,⟨4,1+r4.2.2,0,[3]⟩,⟨2,r5.2.2,0,[4]⟩,⟨7,0,0,[1]⟩,⟨8,0,0,[]⟩],1+r.2.2,1+r2.2.2⟩) ⟨hr7.1,⟨Nat.le_of_ble_eq_true rfl,(by repeat' (first|exact I6|refine H7 ?_ ?_|refine I7 ?_ ?_|refine H6 ?_ ?_|refine Ig ?_ ?_ ?_ ?_ ?_|decide|omega)),⟨Nat.le_of_ble_eq_true rfl,Nat.le_of_ble_eq_true rfl⟩,⟨by show 0≤1+r.2.2;omega,by show 1+r.2.2≤100;omega⟩,⟨by show 0≤1+r2.2.2;omega,by show 1+r2.2.2≤100;omega⟩⟩,⟨by show 1≤1+r.2.2;omega,by show 1+r.2.2≤3;omega⟩,⟨by show 1≤1+r2.2.2;omega,by show 1+r2.2.2≤3;omega⟩,5,1+r4.2.2,r5.2.2,1+r6.2.2,by decide,by omega,by omega,by omega,.inr (.inr (.inr (.inr rfl)))⟩ rfl rfl rfl rfl Xx
theorem A9d (d:E4)(i h:Int)(hi:0≤i∧i≤d.n):Dd Tryz.prog HT 80 d.pins (d.cur i h) [] (fun r:Int×Int×Aq=>(0≤r.1∧r.1≤d.n)∧A5d r.2.2) (fun r=>d.cur r.1 r.2.1) (fun r=>[.agg r.2.2.c]):=(Yw d i h hi).weak fun _ h=>⟨h.1,h.2.1⟩
theorem On (k:Nat):Eu .i64 ([1,1,1,2,3,3,3,4,4,5,6,6,7].getD k 0):=
 W8 (p:=fun w=>Eu .i64 w) _ k 0 (fun x hx=>by simp only [List.mem_cons,List.not_mem_nil,or_false] at hx;show _∧_;omega) ⟨by decide,by decide⟩
theorem Uu (n:Int):Eu .i64 (n.tmod 3):=by
 show _∧_
 have h1:=Int.tmod_lt_of_pos n (show (0:Int)<3 by decide)
 have h2:=Int.lt_tmod_of_pos n (show (0:Int)<3 by decide)
 omega
theorem B17 (d:E4)(i h:Int)(hi:0≤i∧i≤d.n):Dd Tryz.prog HT 113 d.pins (d.cur i h) [] (fun r:Int×Int×C7=>(0≤r.1∧r.1≤d.n)∧r.2.2.ok) (fun r=>d.cur r.1 r.2.1) (fun r=>[.agg r.2.2.c]):=by
 refine Dp A0 false Tryz.func113 rfl Az fun B b hH hp=>?_
 conv=>whnf
 refine Fl 2 (Au [1,1,1,2,3,3,3,4,4,5,6,6,7]) rfl (Bq rfl Cg) ?_
 refine Ak (De d i h [1,1,1,2,3,3,3,4,4,5,6,6,7] hi Az) hH hp rfl B1 rfl rfl (fun r hr=>go A0 false ?_)
 conv=>whnf
 refine Ak (Ai d r.1 r.2.1 3 hr.1 Az) hH hp rfl B1 rfl rfl (fun r2 hr2=>go A0 false ?_)
 conv=>whnf
 refine ⟨fun c1=>?_,fun c1=>?_⟩<;>conv=>whnf
 ·repeat' (first|(refine J1 ?_;conv=>whnf)|(refine J2 ?_;conv=>whnf)|(refine ⟨fun h=>?_,fun h=>?_⟩<;>conv=>whnf)|(refine Ex ?_;conv=>whnf)|fail)
  refine Fx rfl ?_
  refine Ao A0 false 0 rfl rfl rfl A7 rfl (A5 Bb) ?_
  refine Ao A0 false 3 rfl rfl rfl A7 rfl (A5 Bb) ?_
  refine A4 [1,4] A7 ⟨?_,?_,trivial⟩
  focus
   refine A8 ?_
   refine A6 ?_
   refine Ao A0 false 2 rfl rfl rfl A7 rfl (A5 Bb) ?_
   refine A4 [4] A7 ⟨A8 ?_,trivial⟩
   refine Ak (Ai d r2.1 r2.2.1 2 hr2.1 Az) hH hp rfl B1 rfl rfl (fun r3 hr3=>go A0 false ?_)
   conv=>whnf
   refine A6 ?_
   refine Ao A0 false 5 rfl rfl rfl A7 rfl (A5 Bb) ?_
   refine Ao A0 false 6 rfl rfl rfl A7 rfl (A5 Bb) ?_
   refine Ao A0 false 7 rfl rfl rfl A7 rfl (A5 Bb) ?_
   refine A4 [8] A7 ⟨A8 ?_,trivial⟩
   refine A6 (B2 A7 (A8 ?_))
  rotate_left 1
  focus
   refine A8 ?_
   refine Ak (Ai d r2.1 r2.2.1 2 hr2.1 Az) hH hp rfl B1 rfl rfl (fun r3 hr3=>go A0 false ?_)
   conv=>whnf
   refine A6 (A4 [1] A7 ⟨A8 ?_,trivial⟩)
   refine A6 ?_
   refine Ao A0 false 2 rfl rfl rfl A7 rfl (A5 Bb) ?_
   refine Ao A0 false 5 rfl rfl rfl A7 rfl (A5 Bb) ?_
   refine Ao A0 false 6 rfl rfl rfl A7 rfl (A5 Bb) ?_
   refine Ao A0 false 7 rfl rfl rfl A7 rfl (A5 Bb) ?_
   refine A4 [8] A7 ⟨A8 ?_,trivial⟩
   refine A6 (B2 A7 (A8 ?_))
  ·exact Bu A0 (r3.1,r3.2.1,⟨[1,1,1,2,3,3,3,4,4,5,6,6,7].getD r.2.2 0,r2.2.2,(r2.2.2+1+r3.2.2).tmod 3⟩) ⟨hr3.1,On _,⟨by show _≤r2.2.2;omega,by show r2.2.2≤_;omega⟩,Uu _⟩ rfl rfl rfl rfl B1
  exact Bu A0 (r3.1,r3.2.1,⟨[1,1,1,2,3,3,3,4,4,5,6,6,7].getD r.2.2 0,r2.2.2,(r2.2.2+1+r3.2.2).tmod 3⟩) ⟨hr3.1,On _,⟨by show _≤r2.2.2;omega,by show r2.2.2≤_;omega⟩,Uu _⟩ rfl rfl rfl rfl B1
 repeat' (first|(refine J1 ?_;conv=>whnf)|(refine J2 ?_;conv=>whnf)|(refine ⟨fun h=>?_,fun h=>?_⟩<;>conv=>whnf)|(refine Ex ?_;conv=>whnf)|fail)
 ·refine Fx rfl ?_
  refine Ao A0 false 0 rfl rfl rfl A7 rfl (A5 Bb) ?_
  refine Ao A0 false 3 rfl rfl rfl A7 rfl (A5 Bb) ?_
  refine A4 [1,4] A7 ⟨?_,?_,trivial⟩
  focus
   refine A8 ?_
   refine A6 ?_
   refine Ao A0 false 2 rfl rfl rfl A7 rfl (A5 Bb) ?_
   refine A4 [4] A7 ⟨A8 ?_,trivial⟩
   refine Ak (Ai d r2.1 r2.2.1 2 hr2.1 Az) hH hp rfl B1 rfl rfl (fun r3 hr3=>go A0 false ?_)
   conv=>whnf
   refine A6 ?_
   refine Ao A0 false 5 rfl rfl rfl A7 rfl (A5 Bb) ?_
   refine Ao A0 false 6 rfl rfl rfl A7 rfl (A5 Bb) ?_
   refine Ao A0 false 7 rfl rfl rfl A7 rfl (A5 Bb) ?_
   refine A4 [8] A7 ⟨A8 ?_,trivial⟩
   refine A6 (B2 A7 (A8 ?_))
  rotate_left 1
  focus
   refine A8 ?_
   refine Ak (Ai d r2.1 r2.2.1 2 hr2.1 Az) hH hp rfl B1 rfl rfl (fun r3 hr3=>go A0 false ?_)
   conv=>whnf
   refine A6 (A4 [1] A7 ⟨A8 ?_,trivial⟩)
   refine A6 ?_
   refine Ao A0 false 2 rfl rfl rfl A7 rfl (A5 Bb) ?_
   refine Ao A0 false 5 rfl rfl rfl A7 rfl (A5 Bb) ?_
   refine Ao A0 false 6 rfl rfl rfl A7 rfl (A5 Bb) ?_
   refine Ao A0 false 7 rfl rfl rfl A7 rfl (A5 Bb) ?_
   refine A4 [8] A7 ⟨A8 ?_,trivial⟩
   refine A6 (B2 A7 (A8 ?_))
  ·exact Bu A0 (r3.1,r3.2.1,⟨[1,1,1,2,3,3,3,4,4,5,6,6,7].getD r.2.2 0,r2.2.2,(r2.2.2+1+r3.2.2).tmod 3⟩) ⟨hr3.1,On _,⟨by show _≤r2.2.2;omega,by show r2.2.2≤_;omega⟩,Uu _⟩ rfl rfl rfl rfl B1
  exact Bu A0 (r3.1,r3.2.1,⟨[1,1,1,2,3,3,3,4,4,5,6,6,7].getD r.2.2 0,r2.2.2,(r2.2.2+1+r3.2.2).tmod 3⟩) ⟨hr3.1,On _,⟨by show _≤r2.2.2;omega,by show r2.2.2≤_;omega⟩,Uu _⟩ rfl rfl rfl rfl B1
 exact Bu A0 (r2.1,r2.2.1,⟨[1,1,1,2,3,3,3,4,4,5,6,6,7].getD r.2.2 0,r2.2.2,0⟩) ⟨hr2.1,On _,⟨by show _≤r2.2.2;omega,by show r2.2.2≤_;omega⟩,⟨by show (-9223372036854775808:Int)≤0;decide,by show (0:Int)≤9223372036854775807;decide⟩⟩ rfl rfl rfl rfl B1
theorem B16 (d:E4)(i h:Int)(hi:0≤i∧i≤d.n):Dd Tryz.prog HT 113 d.pins (d.cur i h) [] (fun r:Int×Int×C7=>0≤r.1∧r.1≤d.n) (fun r=>d.cur r.1 r.2.1) (fun r=>[.agg r.2.2.c]):=(B17 d i h hi).weak fun _ h=>h.1
structure JPk where
 k:Nat
 i:Int
 h:Int
 xs:List C7
theorem A23 (d:E4)(i h:Int)(m:Nat)(hm:m≤1000)(hi:0≤i∧i≤d.n):Dd Tryz.prog HT 82 d.pins (d.cur i h) [.one (vi m)] (fun r:Int×Int×List C7=>(0≤r.1∧r.1≤d.n)∧r.2.2.length≤m) (fun r=>d.cur r.1 r.2.1) (fun r=>[.one (Ez r.2.2)]):=by
 refine Dp A0 false Tryz.func82 rfl Az fun B b hH hp=>?_
 conv=>whnf
 refine Eo 1 (Ez []) rfl (Bq rfl Cg) ?_
 refine C0 A0 false [7] (fun j:JPk=>[(6,.c (vi j.k))]) (fun j=>[⟨0,[.c (.val d.v),.c (vi j.i),.c (vi j.h)]⟩]) (fun j=>[⟨1,Ez j.xs⟩]) (fun j=>(0≤j.i∧j.i≤d.n)∧j.k≤m∧j.xs.length=j.k) (fun j=>m-j.k) (⟨0,i,h,[]⟩) (⟨hi,Nat.zero_le _,rfl⟩) ⟨G3,trivial⟩ Cg ⟨Ek,trivial⟩ Co A7 (fun j hj=>?_)
 conv=>whnf
 obtain ⟨hi,hk,hx⟩:=hj
 (repeat refine An ?_)
 refine Ak (Ai d j.i j.h (m+1) hi Ac) hH hp rfl B1 rfl rfl (fun r hr=>go A0 false ?_)
 conv=>whnf
 refine F4 (fun hlt=>?_) fun hlt=>?_<;>conv=>whnf
 ·have hlt2:(r.2.2:Int)<m+1:=hr.2.2.2 Ac
  refine Ak (B16 d r.1 r.2.1 hr.1) hH hp rfl B1 rfl rfl (fun r2 hr2=>go A0 false ?_)
  conv=>whnf
  refine B6 A0 rfl rfl rfl rfl rfl rfl rfl rfl rfl rfl rfl (Ez (j.xs++[r2.2.2])) (Ad rfl) Bp Ac (A8 ?_)
  (repeat refine An ?_)
  refine B8 [(1,3)] (⟨j.k+1,r2.1,r2.2.1,j.xs++[r2.2.2]⟩) (⟨hr2,by show j.k+1≤m;omega,by simp [hx]⟩) (by show m-(j.k+1)<_;omega) ⟨rfl,trivial⟩ ⟨rfl,trivial⟩ Cg A7 Co A7
 exact Bu A0 (r.1,r.2.1,j.xs) ⟨hr.1,by show j.xs.length≤m;omega⟩ rfl rfl rfl rfl B1
end Go.Proofs.YtdendlkeiaccpaaGreatDoor
