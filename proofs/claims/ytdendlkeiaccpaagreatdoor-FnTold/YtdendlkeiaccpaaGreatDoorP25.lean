/- Part 25 of the proof that each of the laws FnTold returns true for every input. No conditions. -/
import Derived.Test.YtdendlkeiaccpaaGreatDoorP21

set_option linter.unusedSimpArgs false
set_option linter.unusedVariables false
set_option maxRecDepth 100000
namespace Go.Proofs.YtdendlkeiaccpaaGreatDoor
open Go.Sx
def Rb (x:Aq):Prop:=(-9≤x.kind∧x.kind≤1000)∧(-9≤x.a∧x.a≤1000)∧(-9≤x.b∧x.b≤1000)∧x.outs.length≤10∧∀n∈x.outs,-9≤n∧n≤1000
def Yc (xs:List Aq):Prop:=∀x∈xs,Rb x
theorem Ho {k a b:Int}{l:List Int}(hk: -9≤k∧k≤1000)(ha: -9≤a∧a≤1000)(hb: -9≤b∧b≤1000)(hl:l.length≤10)(h:∀n∈l,-9≤n∧n≤1000):Rb ⟨k,a,b,l⟩:=⟨hk,ha,hb,hl,h⟩
theorem Hg:Yc []:=fun _ h=>(List.not_mem_nil h).elim
theorem Gk {x:Aq}{xs:List Aq}(h:Rb x)(hs:Yc xs):Yc (x::xs):=fun y hy=>by
 rcases List.mem_cons.1 hy with rfl|hy
 ·exact h
 exact hs y hy
theorem Gl {x:Aq}{xs:List Aq}(hs:Yc xs)(h:Rb x):Yc (xs++[x]):=fun y hy=>by
 rcases List.mem_append.1 hy with hy|hy
 ·exact hs y hy
 rw [List.mem_singleton.1 hy];exact h
theorem Hh {x:Aq}{xs:List Aq}{j:Nat}(hs:Yc xs)(h:Rb x):Yc (xs.set j x):=fun y hy=>by
 rcases List.mem_or_eq_of_mem_set hy with hy|rfl
 ·exact hs y hy
 exact h
def A42 (G a b:Int):List Aq:=[⟨1,0,0,[1]⟩,⟨G,0,0,[2,5]⟩,⟨4,a,0,[3]⟩,⟨2,b,0,[4]⟩,⟨7,0,0,[1]⟩,⟨8,0,0,[]⟩]
def A8q (l:List Aq):Prop:=∃G a b k:Int,(G=6∨G=5)∧(1≤a∧a≤3)∧(0≤b∧b≤3)∧(1≤k∧k≤3)∧
 (l=(A42 G a b).set 3 ⟨3,k,0,[4]⟩∨l=[⟨1,0,0,[1]⟩,⟨G,0,0,[2,5]⟩,⟨4,a,0,[3]⟩,⟨2,b,0,[4]⟩,⟨8,0,0,[]⟩,⟨8,0,0,[]⟩]∨l=(A42 G a b).set 2 ⟨4,a,0,[3,4]⟩∨l=(A42 G a b++[(⟨8,0,0,[]⟩:Aq)]).set 0 ⟨1,0,0,[1,6]⟩∨l=A42 G a b)
def Yf (g:Ap):Prop:=(1≤g.workers∧g.workers≤3)∧(1≤g.cap∧g.cap≤3)∧A8q g.nodes
def A24 (g:Ap):Prop:=g.w≤64∧Yc g.nodes∧(1≤g.nodes.length∧g.nodes.length≤7)∧(0≤g.workers∧g.workers≤100)∧(0≤g.cap∧g.cap≤100)
set_option maxHeartbeats 1600000 in
theorem X8 (d:Dx)(i h:Int)(hi:0≤i∧i≤d.n):Cw Tryz.prog HT 80 d.pins (d.cur i h) [] (fun r:Int×Int×Ap=>(0≤r.1∧r.1≤d.n)∧A24 r.2.2∧Yf r.2.2) (fun r=>d.cur r.1 r.2.1) (fun r=>[.agg r.2.2.c]):=by
 refine Dn A0 false Tryz.func80 rfl Aw fun B b hH hp=>?_
 conv=>whnf
 refine Aj (Ai d i h 3 hi Aw) hH hp rfl Ay rfl rfl (fun r hr=>go A0 false ?_)
 conv=>whnf
 (repeat refine An ?_)
 refine Aj (Ai d r.1 r.2.1 3 hr.1 Aw) hH hp rfl Ay rfl rfl (fun r2 hr2=>go A0 false ?_)
 conv=>whnf
 (repeat refine An ?_)
 refine Ev 3 (At [2,5]) rfl (Bd rfl Cf) ?_
 refine Aj (Q7 d r2.1 r2.2.1 3 hr2.1 Aw) hH hp rfl Ay rfl rfl (fun r3 hr3=>go A0 false ?_)
 conv=>whnf
 refine ⟨fun cg=>?_,fun cg=>?_⟩<;>conv=>whnf
 ·refine Aj (Ai d r3.1 r3.2.1 3 hr3 Aw) hH hp rfl Ay rfl rfl (fun r4 hr4=>go A0 false ?_)
  conv=>whnf
  (repeat refine An ?_)
  refine Ev 5 (At [3]) rfl (Bd rfl Cf) ?_
  refine Aj (Ai d r4.1 r4.2.1 4 hr4.1 Aw) hH hp rfl Ay rfl rfl (fun r5 hr5=>go A0 false ?_)
  conv=>whnf
  refine Ev 7 (At [4]) rfl (Bd rfl Cf) ?_
  refine Aj (Ai d r5.1 r5.2.1 3 hr5.1 Aw) hH hp rfl Ay rfl rfl (fun r6 hr6=>goF 28 A0 false ?_)
  conv=>whnf
  refine ⟨by show _∧_;omega,?_⟩
  conv=>whnf
  refine Ed 9 (At [4]) rfl (Bd rfl Cf) ?_
  refine Ed 11 (At [1]) rfl (Bd rfl Cf) ?_
  refine Ed 14 (At [1]) rfl (Bd rfl Cf) ?_
  refine P1 A0 rfl rfl rfl rfl rfl rfl (l:=[.c (vi 1),.c (vi 0),.c (vi 0),.own 14,.c (vi 6),.c (vi 0),.c (vi 0),.own 3,.c (vi 4),.c (vi (1+r4.2.2)),.c (vi 0),.own 5,.c (vi 2),.c (vi r5.2.2),.c (vi 0),.own 7,.c (vi 7),.c (vi 0),.c (vi 0),.own 11,.c (vi 8),.c (vi 0),.c (vi 0),.c (.val (.slice none 0 0))]) A7
   (cs:=[vi 1,vi 0,vi 0,At [1],vi 6,vi 0,vi 0,At [2,5],vi 4,vi (1+r4.2.2),vi 0,At [3],vi 2,vi r5.2.2,vi 0,At [4],vi 7,vi 0,vi 0,At [1],vi 8,vi 0,vi 0,.val (.slice none 0 0)]) (ks:=[14,3,5,7,11]) A7 A7 (Ji ?_)
  conv=>whnf
  refine Ev 15 (Bp [⟨1,0,0,[1]⟩,⟨6,0,0,[2,5]⟩,⟨4,1+r4.2.2,0,[3]⟩,⟨2,r5.2.2,0,[4]⟩,⟨7,0,0,[1]⟩,⟨8,0,0,[]⟩]) rfl (H1 rfl A0q) ?_
  refine Aj (Ai d r6.1 r6.2.1 6 hr6.1 Aw) hH hp rfl Ay rfl rfl (fun r7 hr7=>go A0 false ?_)
  conv=>whnf
  have q1:=hr.2.2.2 Aw
  have p1:=hr.2.1
  have q2:=hr2.2.2.2 Aw
  have p2:=hr2.2.1
  have q4:=hr4.2.2.2 Aw
  have p4:=hr4.2.1
  have q5:=hr5.2.2.2 Aw
  have p5:=hr5.2.1
  have q6:=hr6.2.2.2 Aw
  have p6:=hr6.2.1
  refine ⟨fun c0=>?_,fun c0=>?_⟩<;>conv=>whnf
  ·refine ⟨by simp,?_⟩
   conv=>whnf
   refine Ao (j:=3) A0 rfl rfl rfl rfl rfl rfl rfl rfl _ (Cb (j:=3) (xs:=[⟨1,0,0,[1]⟩,⟨6,0,0,[2,5]⟩,⟨4,1+r4.2.2,0,[3]⟩,⟨2,r5.2.2,0,[4]⟩,⟨7,0,0,[1]⟩,⟨8,0,0,[]⟩]) (e:=Aq.c) (x:=⟨3,1+r6.2.2,0,[4]⟩) Bw rfl) (A8 ?_)
   exact Bl A0 (r7.1,r7.2.1,⟨List.set [⟨1,0,0,[1]⟩,⟨6,0,0,[2,5]⟩,⟨4,1+r4.2.2,0,[3]⟩,⟨2,r5.2.2,0,[4]⟩,⟨7,0,0,[1]⟩,⟨8,0,0,[]⟩] 3 ⟨3,1+r6.2.2,0,[4]⟩,1+r.2.2,1+r2.2.2⟩) ⟨hr7.1,⟨Nat.le_of_ble_eq_true rfl,(by repeat' (first|exact Hg|refine Gl ?_ ?_|refine Hh ?_ ?_|refine Gk ?_ ?_|refine Ho ?_ ?_ ?_ ?_ ?_|decide|omega)),⟨Nat.le_of_ble_eq_true rfl,Nat.le_of_ble_eq_true rfl⟩,⟨by show 0≤1+r.2.2;omega,by show 1+r.2.2≤100;omega⟩,⟨by show 0≤1+r2.2.2;omega,by show 1+r2.2.2≤100;omega⟩⟩,⟨by show 1≤1+r.2.2;omega,by show 1+r.2.2≤3;omega⟩,⟨by show 1≤1+r2.2.2;omega,by show 1+r2.2.2≤3;omega⟩,6,1+r4.2.2,r5.2.2,1+r6.2.2,by decide,by omega,by omega,by omega,.inl rfl⟩ rfl rfl rfl rfl W4
  refine ⟨fun c1=>?_,fun c1=>?_⟩<;>conv=>whnf
  ·refine ⟨by simp,?_⟩
   conv=>whnf
   refine Ao (j:=4) A0 rfl rfl rfl rfl rfl rfl rfl rfl _ (Ya (j:=4) rfl) (A8 ?_)
   refine L9 15 (Bp [⟨1,0,0,[1]⟩,⟨6,0,0,[2,5]⟩,⟨4,1+r4.2.2,0,[3]⟩,⟨2,r5.2.2,0,[4]⟩,⟨8,0,0,[]⟩,⟨8,0,0,[]⟩]) rfl (H1 rfl A0q) ?_
   exact Bl A0 (r7.1,r7.2.1,⟨[⟨1,0,0,[1]⟩,⟨6,0,0,[2,5]⟩,⟨4,1+r4.2.2,0,[3]⟩,⟨2,r5.2.2,0,[4]⟩,⟨8,0,0,[]⟩,⟨8,0,0,[]⟩],1+r.2.2,1+r2.2.2⟩) ⟨hr7.1,⟨Nat.le_of_ble_eq_true rfl,(by repeat' (first|exact Hg|refine Gl ?_ ?_|refine Hh ?_ ?_|refine Gk ?_ ?_|refine Ho ?_ ?_ ?_ ?_ ?_|decide|omega)),⟨Nat.le_of_ble_eq_true rfl,Nat.le_of_ble_eq_true rfl⟩,⟨by show 0≤1+r.2.2;omega,by show 1+r.2.2≤100;omega⟩,⟨by show 0≤1+r2.2.2;omega,by show 1+r2.2.2≤100;omega⟩⟩,⟨by show 1≤1+r.2.2;omega,by show 1+r.2.2≤3;omega⟩,⟨by show 1≤1+r2.2.2;omega,by show 1+r2.2.2≤3;omega⟩,6,1+r4.2.2,r5.2.2,1+r6.2.2,by decide,by omega,by omega,by omega,.inr (.inl rfl)⟩ rfl rfl rfl rfl W4
  refine ⟨fun c2=>?_,fun c2=>?_⟩<;>conv=>whnf
  ·refine ⟨by simp,?_⟩
   conv=>whnf
   refine Ed 16 (At [3,4]) rfl (Bd rfl Cf) ?_
   refine Ao (j:=2) A0 rfl rfl rfl rfl rfl rfl rfl rfl _ (Cb (j:=2) (xs:=[⟨1,0,0,[1]⟩,⟨6,0,0,[2,5]⟩,⟨4,1+r4.2.2,0,[3]⟩,⟨2,r5.2.2,0,[4]⟩,⟨7,0,0,[1]⟩,⟨8,0,0,[]⟩]) (e:=Aq.c) (x:=⟨4,1+r4.2.2,0,[3,4]⟩) Bw rfl) (A8 ?_)
   exact Bl A0 (r7.1,r7.2.1,⟨List.set [⟨1,0,0,[1]⟩,⟨6,0,0,[2,5]⟩,⟨4,1+r4.2.2,0,[3]⟩,⟨2,r5.2.2,0,[4]⟩,⟨7,0,0,[1]⟩,⟨8,0,0,[]⟩] 2 ⟨4,1+r4.2.2,0,[3,4]⟩,1+r.2.2,1+r2.2.2⟩) ⟨hr7.1,⟨Nat.le_of_ble_eq_true rfl,(by repeat' (first|exact Hg|refine Gl ?_ ?_|refine Hh ?_ ?_|refine Gk ?_ ?_|refine Ho ?_ ?_ ?_ ?_ ?_|decide|omega)),⟨Nat.le_of_ble_eq_true rfl,Nat.le_of_ble_eq_true rfl⟩,⟨by show 0≤1+r.2.2;omega,by show 1+r.2.2≤100;omega⟩,⟨by show 0≤1+r2.2.2;omega,by show 1+r2.2.2≤100;omega⟩⟩,⟨by show 1≤1+r.2.2;omega,by show 1+r.2.2≤3;omega⟩,⟨by show 1≤1+r2.2.2;omega,by show 1+r2.2.2≤3;omega⟩,6,1+r4.2.2,r5.2.2,1+r6.2.2,by decide,by omega,by omega,by omega,.inr (.inr (.inl rfl))⟩ rfl rfl rfl rfl W4
  refine ⟨fun c3=>?_,fun c3=>?_⟩<;>conv=>whnf
  ·refine Ed 16 (Bp [⟨8,0,0,[]⟩]) rfl (H1 rfl A0q) ?_
   refine B1 A0 rfl rfl rfl rfl rfl rfl rfl rfl rfl rfl rfl (Bp ([⟨1,0,0,[1]⟩,⟨6,0,0,[2,5]⟩,⟨4,1+r4.2.2,0,[3]⟩,⟨2,r5.2.2,0,[4]⟩,⟨7,0,0,[1]⟩,⟨8,0,0,[]⟩]++[⟨8,0,0,[]⟩])) (Aa (xs:=[⟨1,0,0,[1]⟩,⟨6,0,0,[2,5]⟩,⟨4,1+r4.2.2,0,[3]⟩,⟨2,r5.2.2,0,[4]⟩,⟨7,0,0,[1]⟩,⟨8,0,0,[]⟩]) (x:=⟨8,0,0,[]⟩) (e:=Aq.c) rfl) Bg Bw (A8 ?_)
   refine ⟨by simp,?_⟩
   conv=>whnf
   refine Ed 18 (At [1,6]) rfl (Bd rfl Cf) ?_
   refine Ao (j:=0) A0 rfl rfl rfl rfl rfl rfl rfl rfl _ (Cb (j:=0) (xs:=[⟨1,0,0,[1]⟩,⟨6,0,0,[2,5]⟩,⟨4,1+r4.2.2,0,[3]⟩,⟨2,r5.2.2,0,[4]⟩,⟨7,0,0,[1]⟩,⟨8,0,0,[]⟩]++[⟨8,0,0,[]⟩]) (e:=Aq.c) (x:=⟨1,0,0,[1,6]⟩) Bw rfl) (A8 ?_)
   exact Bl A0 (r7.1,r7.2.1,⟨List.set ([⟨1,0,0,[1]⟩,⟨6,0,0,[2,5]⟩,⟨4,1+r4.2.2,0,[3]⟩,⟨2,r5.2.2,0,[4]⟩,⟨7,0,0,[1]⟩,⟨8,0,0,[]⟩]++[⟨8,0,0,[]⟩]) 0 ⟨1,0,0,[1,6]⟩,1+r.2.2,1+r2.2.2⟩) ⟨hr7.1,⟨Nat.le_of_ble_eq_true rfl,(by repeat' (first|exact Hg|refine Gl ?_ ?_|refine Hh ?_ ?_|refine Gk ?_ ?_|refine Ho ?_ ?_ ?_ ?_ ?_|decide|omega)),⟨Nat.le_of_ble_eq_true rfl,Nat.le_of_ble_eq_true rfl⟩,⟨by show 0≤1+r.2.2;omega,by show 1+r.2.2≤100;omega⟩,⟨by show 0≤1+r2.2.2;omega,by show 1+r2.2.2≤100;omega⟩⟩,⟨by show 1≤1+r.2.2;omega,by show 1+r.2.2≤3;omega⟩,⟨by show 1≤1+r2.2.2;omega,by show 1+r2.2.2≤3;omega⟩,6,1+r4.2.2,r5.2.2,1+r6.2.2,by decide,by omega,by omega,by omega,.inr (.inr (.inr (.inl rfl)))⟩ rfl rfl rfl rfl W4
  exact Bl A0 (r7.1,r7.2.1,⟨[⟨1,0,0,[1]⟩,⟨6,0,0,[2,5]⟩,⟨4,1+r4.2.2,0,[3]⟩,⟨2,r5.2.2,0,[4]⟩,⟨7,0,0,[1]⟩,⟨8,0,0,[]⟩],1+r.2.2,1+r2.2.2⟩) ⟨hr7.1,⟨Nat.le_of_ble_eq_true rfl,(by repeat' (first|exact Hg|refine Gl ?_ ?_|refine Hh ?_ ?_|refine Gk ?_ ?_|refine Ho ?_ ?_ ?_ ?_ ?_|decide|omega)),⟨Nat.le_of_ble_eq_true rfl,Nat.le_of_ble_eq_true rfl⟩,⟨by show 0≤1+r.2.2;omega,by show 1+r.2.2≤100;omega⟩,⟨by show 0≤1+r2.2.2;omega,by show 1+r2.2.2≤100;omega⟩⟩,⟨by show 1≤1+r.2.2;omega,by show 1+r.2.2≤3;omega⟩,⟨by show 1≤1+r2.2.2;omega,by show 1+r2.2.2≤3;omega⟩,6,1+r4.2.2,r5.2.2,1+r6.2.2,by decide,by omega,by omega,by omega,.inr (.inr (.inr (.inr rfl)))⟩ rfl rfl rfl rfl W4
 refine Aj (Ai d r3.1 r3.2.1 3 hr3 Aw) hH hp rfl Ay rfl rfl (fun r4 hr4=>go A0 false ?_)
 conv=>whnf
 (repeat refine An ?_)
 refine Ev 5 (At [3]) rfl (Bd rfl Cf) ?_
 refine Aj (Ai d r4.1 r4.2.1 4 hr4.1 Aw) hH hp rfl Ay rfl rfl (fun r5 hr5=>go A0 false ?_)
 conv=>whnf
 refine Ev 7 (At [4]) rfl (Bd rfl Cf) ?_
 refine Aj (Ai d r5.1 r5.2.1 3 hr5.1 Aw) hH hp rfl Ay rfl rfl (fun r6 hr6=>goF 28 A0 false ?_)
 conv=>whnf
 refine ⟨by show _∧_;omega,?_⟩
 conv=>whnf
 refine Ed 9 (At [4]) rfl (Bd rfl Cf) ?_
 refine Ed 11 (At [1]) rfl (Bd rfl Cf) ?_
 refine Ed 14 (At [1]) rfl (Bd rfl Cf) ?_
 refine P1 A0 rfl rfl rfl rfl rfl rfl (l:=[.c (vi 1),.c (vi 0),.c (vi 0),.own 14,.c (vi 5),.c (vi 0),.c (vi 0),.own 3,.c (vi 4),.c (vi (1+r4.2.2)),.c (vi 0),.own 5,.c (vi 2),.c (vi r5.2.2),.c (vi 0),.own 7,.c (vi 7),.c (vi 0),.c (vi 0),.own 11,.c (vi 8),.c (vi 0),.c (vi 0),.c (.val (.slice none 0 0))]) A7
  (cs:=[vi 1,vi 0,vi 0,At [1],vi 5,vi 0,vi 0,At [2,5],vi 4,vi (1+r4.2.2),vi 0,At [3],vi 2,vi r5.2.2,vi 0,At [4],vi 7,vi 0,vi 0,At [1],vi 8,vi 0,vi 0,.val (.slice none 0 0)]) (ks:=[14,3,5,7,11]) A7 A7 (Ji ?_)
 conv=>whnf
 refine Ev 15 (Bp [⟨1,0,0,[1]⟩,⟨5,0,0,[2,5]⟩,⟨4,1+r4.2.2,0,[3]⟩,⟨2,r5.2.2,0,[4]⟩,⟨7,0,0,[1]⟩,⟨8,0,0,[]⟩]) rfl (H1 rfl A0q) ?_
 refine Aj (Ai d r6.1 r6.2.1 6 hr6.1 Aw) hH hp rfl Ay rfl rfl (fun r7 hr7=>go A0 false ?_)
 conv=>whnf
 have q1:=hr.2.2.2 Aw
 have p1:=hr.2.1
 have q2:=hr2.2.2.2 Aw
 have p2:=hr2.2.1
 have q4:=hr4.2.2.2 Aw
 have p4:=hr4.2.1
 have q5:=hr5.2.2.2 Aw
 have p5:=hr5.2.1
 have q6:=hr6.2.2.2 Aw
 have p6:=hr6.2.1
 refine ⟨fun c0=>?_,fun c0=>?_⟩<;>conv=>whnf
 ·refine ⟨by simp,?_⟩
  conv=>whnf
  refine Ao (j:=3) A0 rfl rfl rfl rfl rfl rfl rfl rfl _ (Cb (j:=3) (xs:=[⟨1,0,0,[1]⟩,⟨5,0,0,[2,5]⟩,⟨4,1+r4.2.2,0,[3]⟩,⟨2,r5.2.2,0,[4]⟩,⟨7,0,0,[1]⟩,⟨8,0,0,[]⟩]) (e:=Aq.c) (x:=⟨3,1+r6.2.2,0,[4]⟩) Bw rfl) (A8 ?_)
  exact Bl A0 (r7.1,r7.2.1,⟨List.set [⟨1,0,0,[1]⟩,⟨5,0,0,[2,5]⟩,⟨4,1+r4.2.2,0,[3]⟩,⟨2,r5.2.2,0,[4]⟩,⟨7,0,0,[1]⟩,⟨8,0,0,[]⟩] 3 ⟨3,1+r6.2.2,0,[4]⟩,1+r.2.2,1+r2.2.2⟩) ⟨hr7.1,⟨Nat.le_of_ble_eq_true rfl,(by repeat' (first|exact Hg|refine Gl ?_ ?_|refine Hh ?_ ?_|refine Gk ?_ ?_|refine Ho ?_ ?_ ?_ ?_ ?_|decide|omega)),⟨Nat.le_of_ble_eq_true rfl,Nat.le_of_ble_eq_true rfl⟩,⟨by show 0≤1+r.2.2;omega,by show 1+r.2.2≤100;omega⟩,⟨by show 0≤1+r2.2.2;omega,by show 1+r2.2.2≤100;omega⟩⟩,⟨by show 1≤1+r.2.2;omega,by show 1+r.2.2≤3;omega⟩,⟨by show 1≤1+r2.2.2;omega,by show 1+r2.2.2≤3;omega⟩,5,1+r4.2.2,r5.2.2,1+r6.2.2,by decide,by omega,by omega,by omega,.inl rfl⟩ rfl rfl rfl rfl W4
 refine ⟨fun c1=>?_,fun c1=>?_⟩<;>conv=>whnf
 ·refine ⟨by simp,?_⟩
  conv=>whnf
  refine Ao (j:=4) A0 rfl rfl rfl rfl rfl rfl rfl rfl _ (Ya (j:=4) rfl) (A8 ?_)
  refine L9 15 (Bp [⟨1,0,0,[1]⟩,⟨5,0,0,[2,5]⟩,⟨4,1+r4.2.2,0,[3]⟩,⟨2,r5.2.2,0,[4]⟩,⟨8,0,0,[]⟩,⟨8,0,0,[]⟩]) rfl (H1 rfl A0q) ?_
  exact Bl A0 (r7.1,r7.2.1,⟨[⟨1,0,0,[1]⟩,⟨5,0,0,[2,5]⟩,⟨4,1+r4.2.2,0,[3]⟩,⟨2,r5.2.2,0,[4]⟩,⟨8,0,0,[]⟩,⟨8,0,0,[]⟩],1+r.2.2,1+r2.2.2⟩) ⟨hr7.1,⟨Nat.le_of_ble_eq_true rfl,(by repeat' (first|exact Hg|refine Gl ?_ ?_|refine Hh ?_ ?_|refine Gk ?_ ?_|refine Ho ?_ ?_ ?_ ?_ ?_|decide|omega)),⟨Nat.le_of_ble_eq_true rfl,Nat.le_of_ble_eq_true rfl⟩,⟨by show 0≤1+r.2.2;omega,by show 1+r.2.2≤100;omega⟩,⟨by show 0≤1+r2.2.2;omega,by show 1+r2.2.2≤100;omega⟩⟩,⟨by show 1≤1+r.2.2;omega,by show 1+r.2.2≤3;omega⟩,⟨by show 1≤1+r2.2.2;omega,by show 1+r2.2.2≤3;omega⟩,5,1+r4.2.2,r5.2.2,1+r6.2.2,by decide,by omega,by omega,by omega,.inr (.inl rfl)⟩ rfl rfl rfl rfl W4
 refine ⟨fun c2=>?_,fun c2=>?_⟩<;>conv=>whnf
 ·refine ⟨by simp,?_⟩
  conv=>whnf
  refine Ed 16 (At [3,4]) rfl (Bd rfl Cf) ?_
  refine Ao (j:=2) A0 rfl rfl rfl rfl rfl rfl rfl rfl _ (Cb (j:=2) (xs:=[⟨1,0,0,[1]⟩,⟨5,0,0,[2,5]⟩,⟨4,1+r4.2.2,0,[3]⟩,⟨2,r5.2.2,0,[4]⟩,⟨7,0,0,[1]⟩,⟨8,0,0,[]⟩]) (e:=Aq.c) (x:=⟨4,1+r4.2.2,0,[3,4]⟩) Bw rfl) (A8 ?_)
  exact Bl A0 (r7.1,r7.2.1,⟨List.set [⟨1,0,0,[1]⟩,⟨5,0,0,[2,5]⟩,⟨4,1+r4.2.2,0,[3]⟩,⟨2,r5.2.2,0,[4]⟩,⟨7,0,0,[1]⟩,⟨8,0,0,[]⟩] 2 ⟨4,1+r4.2.2,0,[3,4]⟩,1+r.2.2,1+r2.2.2⟩) ⟨hr7.1,⟨Nat.le_of_ble_eq_true rfl,(by repeat' (first|exact Hg|refine Gl ?_ ?_|refine Hh ?_ ?_|refine Gk ?_ ?_|refine Ho ?_ ?_ ?_ ?_ ?_|decide|omega)),⟨Nat.le_of_ble_eq_true rfl,Nat.le_of_ble_eq_true rfl⟩,⟨by show 0≤1+r.2.2;omega,by show 1+r.2.2≤100;omega⟩,⟨by show 0≤1+r2.2.2;omega,by show 1+r2.2.2≤100;omega⟩⟩,⟨by show 1≤1+r.2.2;omega,by show 1+r.2.2≤3;omega⟩,⟨by show 1≤1+r2.2.2;omega,by show 1+r2.2.2≤3;omega⟩,5,1+r4.2.2,r5.2.2,1+r6.2.2,by decide,by omega,by omega,by omega,.inr (.inr (.inl rfl))⟩ rfl rfl rfl rfl W4
 refine ⟨fun c3=>?_,fun c3=>?_⟩<;>conv=>whnf
 ·refine Ed 16 (Bp [⟨8,0,0,[]⟩]) rfl (H1 rfl A0q) ?_
  refine B1 A0 rfl rfl rfl rfl rfl rfl rfl rfl rfl rfl rfl (Bp ([⟨1,0,0,[1]⟩,⟨5,0,0,[2,5]⟩,⟨4,1+r4.2.2,0,[3]⟩,⟨2,r5.2.2,0,[4]⟩,⟨7,0,0,[1]⟩,⟨8,0,0,[]⟩]++[⟨8,0,0,[]⟩])) (Aa (xs:=[⟨1,0,0,[1]⟩,⟨5,0,0,[2,5]⟩,⟨4,1+r4.2.2,0,[3]⟩,⟨2,r5.2.2,0,[4]⟩,⟨7,0,0,[1]⟩,⟨8,0,0,[]⟩]) (x:=⟨8,0,0,[]⟩) (e:=Aq.c) rfl) Bg Bw (A8 ?_)
  refine ⟨by simp,?_⟩
  conv=>whnf
  refine Ed 18 (At [1,6]) rfl (Bd rfl Cf) ?_
  refine Ao (j:=0) A0 rfl rfl rfl rfl rfl rfl rfl rfl _ (Cb (j:=0) (xs:=[⟨1,0,0,[1]⟩,⟨5,0,0,[2,5]⟩,⟨4,1+r4.2.2,0,[3]⟩,⟨2,r5.2.2,0,[4]⟩,⟨7,0,0,[1]⟩,⟨8,0,0,[]⟩]++[⟨8,0,0,[]⟩]) (e:=Aq.c) (x:=⟨1,0,0,[1,6]⟩) Bw rfl) (A8 ?_)
  exact Bl A0 (r7.1,r7.2.1,⟨List.set ([⟨1,0,0,[1]⟩,⟨5,0,0,[2,5]⟩,⟨4,1+r4.2.2,0,[3]⟩,⟨2,r5.2.2,0,[4]⟩,⟨7,0,0,[1]⟩,⟨8,0,0,[]⟩]++[⟨8,0,0,[]⟩]) 0 ⟨1,0,0,[1,6]⟩,1+r.2.2,1+r2.2.2⟩) ⟨hr7.1,⟨Nat.le_of_ble_eq_true rfl,(by repeat' (first|exact Hg|refine Gl ?_ ?_|refine Hh ?_ ?_|refine Gk ?_ ?_|refine Ho ?_ ?_ ?_ ?_ ?_|decide|omega)),⟨Nat.le_of_ble_eq_true rfl,Nat.le_of_ble_eq_true rfl⟩,⟨by show 0≤1+r.2.2;omega,by show 1+r.2.2≤100;omega⟩,⟨by show 0≤1+r2.2.2;omega,by show 1+r2.2.2≤100;omega⟩⟩,⟨by show 1≤1+r.2.2;omega,by show 1+r.2.2≤3;omega⟩,⟨by show 1≤1+r2.2.2;omega,by show 1+r2.2.2≤3;omega⟩,5,1+r4.2.2,r5.2.2,1+r6.2.2,by decide,by omega,by omega,by omega,.inr (.inr (.inr (.inl rfl)))⟩ rfl rfl rfl rfl W4
 exact Bl A0 (r7.1,r7.2.1,⟨[⟨1,0,0,[1]⟩,⟨5,0,0,[2,5]⟩,⟨4,1+r4.2.2,0,[3]⟩,⟨2,r5.2.2,0,[4]⟩,⟨7,0,0,[1]⟩,⟨8,0,0,[]⟩],1+r.2.2,1+r2.2.2⟩) ⟨hr7.1,⟨Nat.le_of_ble_eq_true rfl,(by repeat' (first|exact Hg|refine Gl ?_ ?_|refine Hh ?_ ?_|refine Gk ?_ ?_|refine Ho ?_ ?_ ?_ ?_ ?_|decide|omega)),⟨Nat.le_of_ble_eq_true rfl,Nat.le_of_ble_eq_true rfl⟩,⟨by show 0≤1+r.2.2;omega,by show 1+r.2.2≤100;omega⟩,⟨by show 0≤1+r2.2.2;omega,by show 1+r2.2.2≤100;omega⟩⟩,⟨by show 1≤1+r.2.2;omega,by show 1+r.2.2≤3;omega⟩,⟨by show 1≤1+r2.2.2;omega,by show 1+r2.2.2≤3;omega⟩,5,1+r4.2.2,r5.2.2,1+r6.2.2,by decide,by omega,by omega,by omega,.inr (.inr (.inr (.inr rfl)))⟩ rfl rfl rfl rfl W4
theorem A6x (d:Dx)(i h:Int)(hi:0≤i∧i≤d.n):Cw Tryz.prog HT 80 d.pins (d.cur i h) [] (fun r:Int×Int×Ap=>(0≤r.1∧r.1≤d.n)∧A24 r.2.2) (fun r=>d.cur r.1 r.2.1) (fun r=>[.agg r.2.2.c]):=(X8 d i h hi).weak fun _ h=>⟨h.1,h.2.1⟩
theorem N9 (k:Nat):Ee .i64 ([1,1,1,2,3,3,3,4,4,5,6,6,7].getD k 0):=
 Ue (p:=fun w=>Ee .i64 w) _ k 0 (fun x hx=>by simp only [List.mem_cons,List.not_mem_nil,or_false] at hx;show _∧_;omega) ⟨by decide,by decide⟩
theorem Tc (n:Int):Ee .i64 (n.tmod 3):=by
 show _∧_
 have h1:=Int.tmod_lt_of_pos n (show (0:Int)<3 by decide)
 have h2:=Int.lt_tmod_of_pos n (show (0:Int)<3 by decide)
 omega
theorem A9e (d:Dx)(i h:Int)(hi:0≤i∧i≤d.n):Cw Tryz.prog HT 113 d.pins (d.cur i h) [] (fun r:Int×Int×Cz=>(0≤r.1∧r.1≤d.n)∧r.2.2.ok) (fun r=>d.cur r.1 r.2.1) (fun r=>[.agg r.2.2.c]):=by
 refine Dn A0 false Tryz.func113 rfl Aw fun B b hH hp=>?_
 conv=>whnf
 refine Ev 2 (At [1,1,1,2,3,3,3,4,4,5,6,6,7]) rfl (Bd rfl Cf) ?_
 refine Aj (Cn d i h [1,1,1,2,3,3,3,4,4,5,6,6,7] hi Aw) hH hp rfl Ay rfl rfl (fun r hr=>go A0 false ?_)
 conv=>whnf
 refine Aj (Ai d r.1 r.2.1 3 hr.1 Aw) hH hp rfl Ay rfl rfl (fun r2 hr2=>go A0 false ?_)
 conv=>whnf
 refine ⟨fun c1=>?_,fun c1=>?_⟩<;>conv=>whnf
 ·repeat' (first|(refine L6 ?_;conv=>whnf)|(refine L7 ?_;conv=>whnf)|(refine ⟨fun h=>?_,fun h=>?_⟩<;>conv=>whnf)|(refine Ft ?_;conv=>whnf)|fail)
  refine Fq rfl ?_
  refine Am A0 false 0 rfl rfl rfl A7 rfl (A4 B2) ?_
  refine Am A0 false 3 rfl rfl rfl A7 rfl (A4 B2) ?_
  refine A3 [1,4] A7 ⟨?_,?_,trivial⟩
  focus
   refine A8 ?_
   refine A6 ?_
   refine Am A0 false 2 rfl rfl rfl A7 rfl (A4 B2) ?_
   refine A3 [4] A7 ⟨A8 ?_,trivial⟩
   refine Aj (Ai d r2.1 r2.2.1 2 hr2.1 Aw) hH hp rfl Ay rfl rfl (fun r3 hr3=>go A0 false ?_)
   conv=>whnf
   refine A6 ?_
   refine Am A0 false 5 rfl rfl rfl A7 rfl (A4 B2) ?_
   refine Am A0 false 6 rfl rfl rfl A7 rfl (A4 B2) ?_
   refine Am A0 false 7 rfl rfl rfl A7 rfl (A4 B2) ?_
   refine A3 [8] A7 ⟨A8 ?_,trivial⟩
   refine A6 (Au A7 (A8 ?_))
  rotate_left 1
  focus
   refine A8 ?_
   refine Aj (Ai d r2.1 r2.2.1 2 hr2.1 Aw) hH hp rfl Ay rfl rfl (fun r3 hr3=>go A0 false ?_)
   conv=>whnf
   refine A6 (A3 [1] A7 ⟨A8 ?_,trivial⟩)
   refine A6 ?_
   refine Am A0 false 2 rfl rfl rfl A7 rfl (A4 B2) ?_
   refine Am A0 false 5 rfl rfl rfl A7 rfl (A4 B2) ?_
   refine Am A0 false 6 rfl rfl rfl A7 rfl (A4 B2) ?_
   refine Am A0 false 7 rfl rfl rfl A7 rfl (A4 B2) ?_
   refine A3 [8] A7 ⟨A8 ?_,trivial⟩
   refine A6 (Au A7 (A8 ?_))
  ·exact Bl A0 (r3.1,r3.2.1,⟨[1,1,1,2,3,3,3,4,4,5,6,6,7].getD r.2.2 0,r2.2.2,(r2.2.2+1+r3.2.2).tmod 3⟩) ⟨hr3.1,N9 _,⟨by show _≤r2.2.2;omega,by show r2.2.2≤_;omega⟩,Tc _⟩ rfl rfl rfl rfl Ay
  exact Bl A0 (r3.1,r3.2.1,⟨[1,1,1,2,3,3,3,4,4,5,6,6,7].getD r.2.2 0,r2.2.2,(r2.2.2+1+r3.2.2).tmod 3⟩) ⟨hr3.1,N9 _,⟨by show _≤r2.2.2;omega,by show r2.2.2≤_;omega⟩,Tc _⟩ rfl rfl rfl rfl Ay
 repeat' (first|(refine L6 ?_;conv=>whnf)|(refine L7 ?_;conv=>whnf)|(refine ⟨fun h=>?_,fun h=>?_⟩<;>conv=>whnf)|(refine Ft ?_;conv=>whnf)|fail)
 ·refine Fq rfl ?_
  refine Am A0 false 0 rfl rfl rfl A7 rfl (A4 B2) ?_
  refine Am A0 false 3 rfl rfl rfl A7 rfl (A4 B2) ?_
  refine A3 [1,4] A7 ⟨?_,?_,trivial⟩
  focus
   refine A8 ?_
   refine A6 ?_
   refine Am A0 false 2 rfl rfl rfl A7 rfl (A4 B2) ?_
   refine A3 [4] A7 ⟨A8 ?_,trivial⟩
   refine Aj (Ai d r2.1 r2.2.1 2 hr2.1 Aw) hH hp rfl Ay rfl rfl (fun r3 hr3=>go A0 false ?_)
   conv=>whnf
   refine A6 ?_
   refine Am A0 false 5 rfl rfl rfl A7 rfl (A4 B2) ?_
   refine Am A0 false 6 rfl rfl rfl A7 rfl (A4 B2) ?_
   refine Am A0 false 7 rfl rfl rfl A7 rfl (A4 B2) ?_
   refine A3 [8] A7 ⟨A8 ?_,trivial⟩
   refine A6 (Au A7 (A8 ?_))
  rotate_left 1
  focus
   refine A8 ?_
   refine Aj (Ai d r2.1 r2.2.1 2 hr2.1 Aw) hH hp rfl Ay rfl rfl (fun r3 hr3=>go A0 false ?_)
   conv=>whnf
   refine A6 (A3 [1] A7 ⟨A8 ?_,trivial⟩)
   refine A6 ?_
   refine Am A0 false 2 rfl rfl rfl A7 rfl (A4 B2) ?_
   refine Am A0 false 5 rfl rfl rfl A7 rfl (A4 B2) ?_
   refine Am A0 false 6 rfl rfl rfl A7 rfl (A4 B2) ?_
   refine Am A0 false 7 rfl rfl rfl A7 rfl (A4 B2) ?_
   refine A3 [8] A7 ⟨A8 ?_,trivial⟩
   refine A6 (Au A7 (A8 ?_))
  ·exact Bl A0 (r3.1,r3.2.1,⟨[1,1,1,2,3,3,3,4,4,5,6,6,7].getD r.2.2 0,r2.2.2,(r2.2.2+1+r3.2.2).tmod 3⟩) ⟨hr3.1,N9 _,⟨by show _≤r2.2.2;omega,by show r2.2.2≤_;omega⟩,Tc _⟩ rfl rfl rfl rfl Ay
  exact Bl A0 (r3.1,r3.2.1,⟨[1,1,1,2,3,3,3,4,4,5,6,6,7].getD r.2.2 0,r2.2.2,(r2.2.2+1+r3.2.2).tmod 3⟩) ⟨hr3.1,N9 _,⟨by show _≤r2.2.2;omega,by show r2.2.2≤_;omega⟩,Tc _⟩ rfl rfl rfl rfl Ay
 exact Bl A0 (r2.1,r2.2.1,⟨[1,1,1,2,3,3,3,4,4,5,6,6,7].getD r.2.2 0,r2.2.2,0⟩) ⟨hr2.1,N9 _,⟨by show _≤r2.2.2;omega,by show r2.2.2≤_;omega⟩,⟨by show (-9223372036854775808:Int)≤0;decide,by show (0:Int)≤9223372036854775807;decide⟩⟩ rfl rfl rfl rfl Ay
theorem A9d (d:Dx)(i h:Int)(hi:0≤i∧i≤d.n):Cw Tryz.prog HT 113 d.pins (d.cur i h) [] (fun r:Int×Int×Cz=>0≤r.1∧r.1≤d.n) (fun r=>d.cur r.1 r.2.1) (fun r=>[.agg r.2.2.c]):=(A9e d i h hi).weak fun _ h=>h.1
structure JPk where
 k:Nat
 i:Int
 h:Int
 xs:List Cz
theorem A04 (d:Dx)(i h:Int)(m:Nat)(hm:m≤1000)(hi:0≤i∧i≤d.n):Cw Tryz.prog HT 82 d.pins (d.cur i h) [.one (vi m)] (fun r:Int×Int×List Cz=>(0≤r.1∧r.1≤d.n)∧r.2.2.length≤m) (fun r=>d.cur r.1 r.2.1) (fun r=>[.one (Fg r.2.2)]):=by
 refine Dn A0 false Tryz.func82 rfl Aw fun B b hH hp=>?_
 conv=>whnf
 refine Ed 1 (Fg []) rfl (Bd rfl Cf) ?_
 refine C0 A0 false [7] (fun j:JPk=>[(6,.c (vi j.k))]) (fun j=>[⟨0,[.c (.val d.v),.c (vi j.i),.c (vi j.h)]⟩]) (fun j=>[⟨1,Fg j.xs⟩]) (fun j=>(0≤j.i∧j.i≤d.n)∧j.k≤m∧j.xs.length=j.k) (fun j=>m-j.k) (⟨0,i,h,[]⟩) (⟨hi,Nat.zero_le _,rfl⟩) ⟨G9,trivial⟩ Cf ⟨Eu,trivial⟩ Cr A7 (fun j hj=>?_)
 conv=>whnf
 obtain ⟨hi,hk,hx⟩:=hj
 (repeat refine An ?_)
 refine Aj (Ai d j.i j.h (m+1) hi Ab) hH hp rfl Ay rfl rfl (fun r hr=>go A0 false ?_)
 conv=>whnf
 refine Fi (fun hlt=>?_) fun hlt=>?_<;>conv=>whnf
 ·have hlt2:(r.2.2:Int)<m+1:=hr.2.2.2 Ab
  refine Aj (A9d d r.1 r.2.1 hr.1) hH hp rfl Ay rfl rfl (fun r2 hr2=>go A0 false ?_)
  conv=>whnf
  refine B1 A0 rfl rfl rfl rfl rfl rfl rfl rfl rfl rfl rfl (Fg (j.xs++[r2.2.2])) (Aa rfl) Bg Ab (A8 ?_)
  (repeat refine An ?_)
  refine B9 [(1,3)] (⟨j.k+1,r2.1,r2.2.1,j.xs++[r2.2.2]⟩) (⟨hr2,by show j.k+1≤m;omega,by simp [hx]⟩) (by show m-(j.k+1)<_;omega) ⟨rfl,trivial⟩ ⟨rfl,trivial⟩ Cf A7 Cr A7
 exact Bl A0 (r.1,r.2.1,j.xs) ⟨hr.1,by show j.xs.length≤m;omega⟩ rfl rfl rfl rfl Ay
end Go.Proofs.YtdendlkeiaccpaaGreatDoor
