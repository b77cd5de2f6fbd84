/- Part 23 of the proof that each of the laws FnStalls returns true for every input. No conditions. -/
import Derived.Test.YtonodkjaoalfjaaGreatP14

set_option linter.unusedSimpArgs false
set_option linter.unusedVariables false
set_option maxRecDepth 100000
namespace Go.Proofs.YtonodkjaoalfjaaGreat
open Go.Sx
def V3 (x:Cb):Prop:=(-9≤x.kind∧x.kind≤1000)∧(-9≤x.a∧x.a≤1000)∧(-9≤x.b∧x.b≤1000)∧x.outs.length≤10∧∀n∈x.outs,-9≤n∧n≤1000
def A2l (xs:List Cb):Prop:=∀x∈xs,V3 x
theorem Hy {k a b:Int}{l:List Int}(hk: -9≤k∧k≤1000)(ha: -9≤a∧a≤1000)(hb: -9≤b∧b≤1000)(hl:l.length≤10)(h:∀n∈l,-9≤n∧n≤1000):V3 ⟨k,a,b,l⟩:=⟨hk,ha,hb,hl,h⟩
theorem Hs:A2l []:=fun _ h=>(List.not_mem_nil h).elim
theorem H2 {x:Cb}{xs:List Cb}(h:V3 x)(hs:A2l xs):A2l (x::xs):=fun y hy=>by
 rcases List.mem_cons.1 hy with rfl|hy
 ·exact h
 ·exact hs y hy
theorem H3 {x:Cb}{xs:List Cb}(hs:A2l xs)(h:V3 x):A2l (xs++[x]):=fun y hy=>by
 rcases List.mem_append.1 hy with hy|hy
 ·exact hs y hy
 ·rw [List.mem_singleton.1 hy];exact h
theorem Ht {x:Cb}{xs:List Cb}{j:Nat}(hs:A2l xs)(h:V3 x):A2l (xs.set j x):=fun y hy=>by
 rcases List.mem_or_eq_of_mem_set hy with hy|rfl
 ·exact hs y hy
 ·exact h
def Ve (G a b:Int):List Cb:=[⟨1,0,0,[1]⟩,⟨G,0,0,[2,5]⟩,⟨4,a,0,[3]⟩,⟨2,b,0,[4]⟩,⟨7,0,0,[1]⟩,⟨8,0,0,[]⟩]
def Uz (l:List Cb):Prop:=∃G a b k:Int,(G=6∨G=5)∧(1≤a∧a≤3)∧(0≤b∧b≤3)∧(1≤k∧k≤3)∧
 (l=(Ve G a b).set 3 ⟨3,k,0,[4]⟩∨l=[⟨1,0,0,[1]⟩,⟨G,0,0,[2,5]⟩,⟨4,a,0,[3]⟩,⟨2,b,0,[4]⟩,⟨8,0,0,[]⟩,⟨8,0,0,[]⟩]∨l=(Ve G a b).set 2 ⟨4,a,0,[3,4]⟩∨l=(Ve G a b++[(⟨8,0,0,[]⟩:Cb)]).set 0 ⟨1,0,0,[1,6]⟩∨l=Ve G a b)
def Sk (g:Ad):Prop:=(1≤g.workers∧g.workers≤3)∧(1≤g.cap∧g.cap≤3)∧Uz g.nodes
def A5u (g:Ad):Prop:=g.w≤64∧A2l g.nodes∧(1≤g.nodes.length∧g.nodes.length≤7)∧(0≤g.workers∧g.workers≤100)∧(0≤g.cap∧g.cap≤100)
set_option maxHeartbeats 1600000 in
theorem A9z (d:I9)(i h:Int)(hi:0≤i∧i≤d.n):Iv Tryz.prog HT 51 d.pins (d.cur i h) [] (fun r:Int×Int×Ad=>(0≤r.1∧r.1≤d.n)∧A5u r.2.2∧Sk r.2.2) (fun r=>d.cur r.1 r.2.1) (fun r=>[.agg r.2.2.c]):=by
 refine Ol A0 false Tryz.func51 rfl Bu fun B b hH hp=>?_
 conv=>whnf
 refine Fg (E5 d i h 3 hi Bu) hH hp rfl Ca rfl rfl (fun r hr=>go A0 false ?_)
 conv=>whnf
 (repeat refine Ar ?_)
 refine Fg (E5 d r.1 r.2.1 3 hr.1 Bu) hH hp rfl Ca rfl rfl (fun r2 hr2=>go A0 false ?_)
 conv=>whnf
 (repeat refine Ar ?_)
 refine O2 3 (F1 [2,5]) rfl (Db rfl F3) ?_
 refine Fg (B54 d r2.1 r2.2.1 3 hr2.1 Bu) hH hp rfl Ca rfl rfl (fun r3 hr3=>go A0 false ?_)
 conv=>whnf
 refine ⟨fun cg=>?_,fun cg=>?_⟩<;>conv=>whnf
 ·refine Fg (E5 d r3.1 r3.2.1 3 hr3 Bu) hH hp rfl Ca rfl rfl (fun r4 hr4=>go A0 false ?_)
  conv=>whnf
  (repeat refine Ar ?_)
  refine O2 5 (F1 [3]) rfl (Db rfl F3) ?_
  refine Fg (E5 d r4.1 r4.2.1 4 hr4.1 Bu) hH hp rfl Ca rfl rfl (fun r5 hr5=>go A0 false ?_)
  conv=>whnf
  refine O2 7 (F1 [4]) rfl (Db rfl F3) ?_
  refine Fg (E5 d r5.1 r5.2.1 3 hr5.1 Bu) hH hp rfl Ca rfl rfl (fun r6 hr6=>goF 28 A0 false ?_)
  conv=>whnf
  refine ⟨by show _∧_;omega,?_⟩
  conv=>whnf
  refine G4 9 (F1 [4]) rfl (Db rfl F3) ?_
  refine G4 11 (F1 [1]) rfl (Db rfl F3) ?_
  refine G4 14 (F1 [1]) rfl (Db rfl F3) ?_
  refine Qp A0 rfl rfl rfl rfl rfl rfl (l:=[.c (vi 1),.c (vi 0),.c (vi 0),.own 14,.c (vi 6),.c (vi 0),.c (vi 0),.own 3,.c (vi 4),.c (vi (1+r4.2.2)),.c (vi 0),.own 5,.c (vi 2),.c (vi r5.2.2),.c (vi 0),.own 7,.c (vi 7),.c (vi 0),.c (vi 0),.own 11,.c (vi 8),.c (vi 0),.c (vi 0),.c (.val (.slice none 0 0))]) Aa
   (cs:=[vi 1,vi 0,vi 0,F1 [1],vi 6,vi 0,vi 0,F1 [2,5],vi 4,vi (1+r4.2.2),vi 0,F1 [3],vi 2,vi r5.2.2,vi 0,F1 [4],vi 7,vi 0,vi 0,F1 [1],vi 8,vi 0,vi 0,.val (.slice none 0 0)]) (ks:=[14,3,5,7,11]) Aa Aa (Tt ?_)
  conv=>whnf
  refine O2 15 (Bp [⟨1,0,0,[1]⟩,⟨6,0,0,[2,5]⟩,⟨4,1+r4.2.2,0,[3]⟩,⟨2,r5.2.2,0,[4]⟩,⟨7,0,0,[1]⟩,⟨8,0,0,[]⟩]) rfl (Jg rfl Bj) ?_
  refine Fg (E5 d r6.1 r6.2.1 6 hr6.1 Bu) hH hp rfl Ca rfl rfl (fun r7 hr7=>go A0 false ?_)
  conv=>whnf
  have q1:=hr.2.2.2 Bu
  have p1:=hr.2.1
  have q2:=hr2.2.2.2 Bu
  have p2:=hr2.2.1
  have q4:=hr4.2.2.2 Bu
  have p4:=hr4.2.1
  have q5:=hr5.2.2.2 Bu
  have p5:=hr5.2.1
  have q6:=hr6.2.2.2 Bu
  have p6:=hr6.2.1
  refine ⟨fun c0=>?_,fun c0=>?_⟩<;>conv=>whnf
  ·refine ⟨by simp,?_⟩
   conv=>whnf
   refine D7 (j:=3) A0 rfl rfl rfl rfl rfl rfl rfl rfl _ (E4 (j:=3) (xs:=[⟨1,0,0,[1]⟩,⟨6,0,0,[2,5]⟩,⟨4,1+r4.2.2,0,[3]⟩,⟨2,r5.2.2,0,[4]⟩,⟨7,0,0,[1]⟩,⟨8,0,0,[]⟩]) (e:=Cb.c) (x:=⟨3,1+r6.2.2,0,[4]⟩) A9h rfl) (Al ?_)
   exact Kk A0 (r7.1,r7.2.1,⟨List.set [⟨1,0,0,[1]⟩,⟨6,0,0,[2,5]⟩,⟨4,1+r4.2.2,0,[3]⟩,⟨2,r5.2.2,0,[4]⟩,⟨7,0,0,[1]⟩,⟨8,0,0,[]⟩] 3 ⟨3,1+r6.2.2,0,[4]⟩,1+r.2.2,1+r2.2.2⟩) ⟨hr7.1,⟨Nat.le_of_ble_eq_true rfl,(by repeat' (first|exact Hs|refine H3 ?_ ?_|refine Ht ?_ ?_|refine H2 ?_ ?_|refine Hy ?_ ?_ ?_ ?_ ?_|decide|omega)),⟨Nat.le_of_ble_eq_true rfl,Nat.le_of_ble_eq_true rfl⟩,⟨by show 0≤1+r.2.2;omega,by show 1+r.2.2≤100;omega⟩,⟨by show 0≤1+r2.2.2;omega,by show 1+r2.2.2≤100;omega⟩⟩,⟨by show 1≤1+r.2.2;omega,by show 1+r.2.2≤3;omega⟩,⟨by show 1≤1+r2.2.2;omega,by show 1+r2.2.2≤3;omega⟩,6,1+r4.2.2,r5.2.2,1+r6.2.2,by decide,by omega,by omega,by omega,.inl rfl⟩ rfl rfl rfl rfl Xw
  ·refine ⟨fun c1=>?_,fun c1=>?_⟩<;>conv=>whnf
   ·refine ⟨by simp,?_⟩
    conv=>whnf
    refine D7 (j:=4) A0 rfl rfl rfl rfl rfl rfl rfl rfl _ (A0b (j:=4) rfl) (Al ?_)
    refine To 15 (Bp [⟨1,0,0,[1]⟩,⟨6,0,0,[2,5]⟩,⟨4,1+r4.2.2,0,[3]⟩,⟨2,r5.2.2,0,[4]⟩,⟨8,0,0,[]⟩,⟨8,0,0,[]⟩]) rfl (Jg rfl Bj) ?_
    exact Kk A0 (r7.1,r7.2.1,⟨[⟨1,0,0,[1]⟩,⟨6,0,0,[2,5]⟩,⟨4,1+r4.2.2,0,[3]⟩,⟨2,r5.2.2,0,[4]⟩,⟨8,0,0,[]⟩,⟨8,0,0,[]⟩],1+r.2.2,1+r2.2.2⟩) ⟨hr7.1,⟨Nat.le_of_ble_eq_true rfl,(by repeat' (first|exact Hs|refine H3 ?_ ?_|refine Ht ?_ ?_|refine H2 ?_ ?_|refine Hy ?_ ?_ ?_ ?_ ?_|decide|omega)),⟨Nat.le_of_ble_eq_true rfl,Nat.le_of_ble_eq_true rfl⟩,⟨by show 0≤1+r.2.2;omega,by show 1+r.2.2≤100;omega⟩,⟨by show 0≤1+r2.2.2;omega,by show 1+r2.2.2≤100;omega⟩⟩,⟨by show 1≤1+r.2.2;omega,by show 1+r.2.2≤3;omega⟩,⟨by show 1≤1+r2.2.2;omega,by show 1+r2.2.2≤3;omega⟩,6,1+r4.2.2,r5.2.2,1+r6.2.2,by decide,by omega,by omega,by omega,.inr (.inl rfl)⟩ rfl rfl rfl rfl Xw
   ·refine ⟨fun c2=>?_,fun c2=>?_⟩<;>conv=>whnf
    ·refine ⟨by simp,?_⟩
     conv=>whnf
     refine G4 16 (F1 [3,4]) rfl (Db rfl F3) ?_
     refine D7 (j:=2) A0 rfl rfl rfl rfl rfl rfl rfl rfl _ (E4 (j:=2) (xs:=[⟨1,0,0,[1]⟩,⟨6,0,0,[2,5]⟩,⟨4,1+r4.2.2,0,[3]⟩,⟨2,r5.2.2,0,[4]⟩,⟨7,0,0,[1]⟩,⟨8,0,0,[]⟩]) (e:=Cb.c) (x:=⟨4,1+r4.2.2,0,[3,4]⟩) A9h rfl) (Al ?_)
     exact Kk A0 (r7.1,r7.2.1,⟨List.set [⟨1,0,0,[1]⟩,⟨6,0,0,[2,5]⟩,⟨4,1+r4.2.2,0,[3]⟩,⟨2,r5.2.2,0,[4]⟩,⟨7,0,0,[1]⟩,⟨8,0,0,[]⟩] 2 ⟨4,1+r4.2.2,0,[3,4]⟩,1+r.2.2,1+r2.2.2⟩) ⟨hr7.1,⟨Nat.le_of_ble_eq_true rfl,(by repeat' (first|exact Hs|refine H3 ?_ ?_|refine Ht ?_ ?_|refine H2 ?_ ?_|refine Hy ?_ ?_ ?_ ?_ ?_|decide|omega)),⟨Nat.le_of_ble_eq_true rfl,Nat.le_of_ble_eq_true rfl⟩,⟨by show 0≤1+r.2.2;omega,by show 1+r.2.2≤100;omega⟩,⟨by show 0≤1+r2.2.2;omega,by show 1+r2.2.2≤100;omega⟩⟩,⟨by show 1≤1+r.2.2;omega,by show 1+r.2.2≤3;omega⟩,⟨by show 1≤1+r2.2.2;omega,by show 1+r2.2.2≤3;omega⟩,6,1+r4.2.2,r5.2.2,1+r6.2.2,by decide,by omega,by omega,by omega,.inr (.inr (.inl rfl))⟩ rfl rfl rfl rfl Xw
    ·refine ⟨fun c3=>?_,fun c3=>?_⟩<;>conv=>whnf
     ·refine G4 16 (Bp [⟨8,0,0,[]⟩]) rfl (Jg rfl Bj) ?_
      refine Dp A0 rfl rfl rfl rfl rfl rfl rfl rfl rfl rfl rfl (Bp ([⟨1,0,0,[1]⟩,⟨6,0,0,[2,5]⟩,⟨4,1+r4.2.2,0,[3]⟩,⟨2,r5.2.2,0,[4]⟩,⟨7,0,0,[1]⟩,⟨8,0,0,[]⟩]++[⟨8,0,0,[]⟩])) (Bf (xs:=[⟨1,0,0,[1]⟩,⟨6,0,0,[2,5]⟩,⟨4,1+r4.2.2,0,[3]⟩,⟨2,r5.2.2,0,[4]⟩,⟨7,0,0,[1]⟩,⟨8,0,0,[]⟩]) (x:=⟨8,0,0,[]⟩) (e:=Cb.c) rfl) M1 A9h (Al ?_)
      refine ⟨by simp,?_⟩
      conv=>whnf
      refine G4 18 (F1 [1,6]) rfl (Db rfl F3) ?_
      refine D7 (j:=0) A0 rfl rfl rfl rfl rfl rfl rfl rfl _ (E4 (j:=0) (xs:=[⟨1,0,0,[1]⟩,⟨6,0,0,[2,5]⟩,⟨4,1+r4.2.2,0,[3]⟩,⟨2,r5.2.2,0,[4]⟩,⟨7,0,0,[1]⟩,⟨8,0,0,[]⟩]++[⟨8,0,0,[]⟩]) (e:=Cb.c) (x:=⟨1,0,0,[1,6]⟩) A9h rfl) (Al ?_)
      exact Kk A0 (r7.1,r7.2.1,⟨List.set ([⟨1,0,0,[1]⟩,⟨6,0,0,[2,5]⟩,⟨4,1+r4.2.2,0,[3]⟩,⟨2,r5.2.2,0,[4]⟩,⟨7,0,0,[1]⟩,⟨8,0,0,[]⟩]++[⟨8,0,0,[]⟩]) 0 ⟨1,0,0,[1,6]⟩,1+r.2.2,1+r2.2.2⟩) ⟨hr7.1,⟨Nat.le_of_ble_eq_true rfl,(by repeat' (first|exact Hs|refine H3 ?_ ?_|refine Ht ?_ ?_|refine H2 ?_ ?_|refine Hy ?_ ?_ ?_ ?_ ?_|decide|omega)),⟨Nat.le_of_ble_eq_true rfl,Nat.le_of_ble_eq_true rfl⟩,⟨by show 0≤1+r.2.2;omega,by show 1+r.2.2≤100;omega⟩,⟨by show 0≤1+r2.2.2;omega,by show 1+r2.2.2≤100;omega⟩⟩,⟨by show 1≤1+r.2.2;omega,by show 1+r.2.2≤3;omega⟩,⟨by show 1≤1+r2.2.2;omega,by show 1+r2.2.2≤3;omega⟩,6,1+r4.2.2,r5.2.2,1+r6.2.2,by decide,by omega,by omega,by omega,.inr (.inr (.inr (.inl rfl)))⟩ rfl rfl rfl rfl Xw
     ·exact Kk A0 (r7.1,r7.2.1,⟨[⟨1,0,0,[1]⟩,⟨6,0,0,[2,5]⟩,⟨4,1+r4.2.2,0,[3]⟩,⟨2,r5.2.2,0,[4]⟩,⟨7,0,0,[1]⟩,⟨8,0,0,[]⟩],1+r.2.2,1+r2.2.2⟩) ⟨hr7.1,⟨Nat.le_of_ble_eq_true rfl,(by repeat' (first|exact Hs|refine H3 ?_ ?_|refine Ht ?_ ?_|refine H2 ?_ ?_|refine Hy ?_ ?_ ?_ ?_ ?_|decide|omega)),⟨Nat.le_of_ble_eq_true rfl,Nat.le_of_ble_eq_true rfl⟩,⟨by show 0≤1+r.2.2;omega,by show 1+r.2.2≤100;omega⟩,⟨by show 0≤1+r2.2.2;omega,by show 1+r2.2.2≤100;omega⟩⟩,⟨by show 1≤1+r.2.2;omega,by show 1+r.2.2≤3;omega⟩,⟨by show 1≤1+r2.2.2;omega,by show 1+r2.2.2≤3;omega⟩,6,1+r4.2.2,r5.2.2,1+r6.2.2,by decide,by omega,by omega,by omega,.inr (.inr (.inr (.inr rfl)))⟩ rfl rfl rfl rfl Xw
 ·refine Fg (E5 d r3.1 r3.2.1 3 hr3 Bu) hH hp rfl Ca rfl rfl (fun r4 hr4=>go A0 false ?_)
  conv=>whnf
  (repeat refine Ar ?_)
  refine O2 5 (F1 [3]) rfl (Db rfl F3) ?_
  refine Fg (E5 d r4.1 r4.2.1 4 hr4.1 Bu) hH hp rfl Ca rfl rfl (fun r5 hr5=>go A0 false ?_)
  conv=>whnf
  refine O2 7 (F1 [4]) rfl (Db rfl F3) ?_
  refine Fg (E5 d r5.1 r5.2.1 3 hr5.1 Bu) hH hp rfl Ca rfl rfl (fun r6 hr6=>goF 28 A0 false ?_)
  conv=>whnf
  refine ⟨by show _∧_;omega,?_⟩
  conv=>whnf
  refine G4 9 (F1 [4]) rfl (Db rfl F3) ?_
  refine G4 11 (F1 [1]) rfl (Db rfl F3) ?_
  refine G4 14 (F1 [1]) rfl (Db rfl F3) ?_
  refine Qp A0 rfl rfl rfl rfl rfl rfl (l:=[.c (vi 1),.c (vi 0),.c (vi 0),.own 14,.c (vi 5),.c (vi 0),.c (vi 0),.own 3,.c (vi 4),.c (vi (1+r4.2.2)),.c (vi 0),.own 5,.c (vi 2),.c (vi r5.2.2),.c (vi 0),.own 7,.c (vi 7),.c (vi 0),.c (vi 0),.own 11,.c (vi 8),.c (vi 0),.c (vi 0),.c (.val (.slice none 0 0))]) Aa
   (cs:=[vi 1,vi 0,vi 0,F1 [1],vi 5,vi 0,vi 0,F1 [2,5],vi 4,vi (1+r4.2.2),vi 0,F1 [3],vi 2,vi r5.2.2,vi 0,F1 [4],vi 7,vi 0,vi 0,F1 [1],vi 8,vi 0,vi 0,.val (.slice none 0 0)]) (ks:=[14,3,5,7,11]) Aa Aa (Tt ?_)
  conv=>whnf
  refine O2 15 (Bp [⟨1,0,0,[1]⟩,⟨5,0,0,[2,5]⟩,⟨4,1+r4.2.2,0,[3]⟩,⟨2,r5.2.2,0,[4]⟩,⟨7,0,0,[1]⟩,⟨8,0,0,[]⟩]) rfl (Jg rfl Bj) ?_
  refine Fg (E5 d r6.1 r6.2.1 6 hr6.1 Bu) hH hp rfl Ca rfl rfl (fun r7 hr7=>go A0 false ?_)
  conv=>whnf
  have q1:=hr.2.2.2 Bu
  have p1:=hr.2.1
  have q2:=hr2.2.2.2 Bu
  have p2:=hr2.2.1
  have q4:=hr4.2.2.2 Bu
  have p4:=hr4.2.1
  have q5:=hr5.2.2.2 Bu
  have p5:=hr5.2.1
  have q6:=hr6.2.2.2 Bu
  have p6:=hr6.2.1
  refine ⟨fun c0=>?_,fun c0=>?_⟩<;>conv=>whnf
  ·refine ⟨by simp,?_⟩
   conv=>whnf
   refine D7 (j:=3) A0 rfl rfl rfl rfl rfl rfl rfl rfl _ (E4 (j:=3) (xs:=[⟨1,0,0,[1]⟩,⟨5,0,0,[2,5]⟩,⟨4,1+r4.2.2,0,[3]⟩,⟨2,r5.2.2,0,[4]⟩,⟨7,0,0,[1]⟩,⟨8,0,0,[]⟩]) (e:=Cb.c) (x:=⟨3,1+r6.2.2,0,[4]⟩) A9h rfl) (Al ?_)
   exact Kk A0 (r7.1,r7.2.1,⟨List.set [⟨1,0,0,[1]⟩,⟨5,0,0,[2,5]⟩,⟨4,1+r4.2.2,0,[3]⟩,⟨2,r5.2.2,0,[4]⟩,⟨7,0,0,[1]⟩,⟨8,0,0,[]⟩] 3 ⟨3,1+r6.2.2,0,[4]⟩,1+r.2.2,1+r2.2.2⟩) ⟨hr7.1,⟨Nat.le_of_ble_eq_true rfl,(by repeat' (first|exact Hs|refine H3 ?_ ?_|refine Ht ?_ ?_|refine H2 ?_ ?_|refine Hy ?_ ?_ ?_ ?_ ?_|decide|omega)),⟨Nat.le_of_ble_eq_true rfl,Nat.le_of_ble_eq_true rfl⟩,⟨by show 0≤1+r.2.2;omega,by show 1+r.2.2≤100;omega⟩,⟨by show 0≤1+r2.2.2;omega,by show 1+r2.2.2≤100;omega⟩⟩,⟨by show 1≤1+r.2.2;omega,by show 1+r.2.2≤3;omega⟩,⟨by show 1≤1+r2.2.2;omega,by show 1+r2.2.2≤3;omega⟩,5,1+r4.2.2,r5.2.2,1+r6.2.2,by decide,by omega,by omega,by omega,.inl rfl⟩ rfl rfl rfl rfl Xw
  ·refine ⟨fun c1=>?_,fun c1=>?_⟩<;>conv=>whnf
   ·refine ⟨by simp,?_⟩
    conv=>whnf
    refine D7 (j:=4) A0 rfl rfl rfl rfl rfl rfl rfl rfl _ (A0b (j:=4) rfl) (Al ?_)
    refine To 15 (Bp [⟨1,0,0,[1]⟩,⟨5,0,0,[2,5]⟩,⟨4,1+r4.2.2,0,[3]⟩,⟨2,r5.2.2,0,[4]⟩,⟨8,0,0,[]⟩,⟨8,0,0,[]⟩]) rfl (Jg rfl Bj) ?_
    exact Kk A0 (r7.1,r7.2.1,⟨[⟨1,0,0,[1]⟩,⟨5,0,0,[2,5]⟩,⟨4,1+r4.2.2,0,[3]⟩,⟨2,r5.2.2,0,[4]⟩,⟨8,0,0,[]⟩,⟨8,0,0,[]⟩],1+r.2.2,1+r2.2.2⟩) ⟨hr7.1,⟨Nat.le_of_ble_eq_true rfl,(by repeat' (first|exact Hs|refine H3 ?_ ?_|refine Ht ?_ ?_|refine H2 ?_ ?_|refine Hy ?_ ?_ ?_ ?_ ?_|decide|omega)),⟨Nat.le_of_ble_eq_true rfl,Nat.le_of_ble_eq_true rfl⟩,⟨by show 0≤1+r.2.2;omega,by show 1+r.2.2≤100;omega⟩,⟨by show 0≤1+r2.2.2;omega,by show 1+r2.2.2≤100;omega⟩⟩,⟨by show 1≤1+r.2.2;omega,by show 1+r.2.2≤3;omega⟩,⟨by show 1≤1+r2.2.2;omega,by show 1+r2.2.2≤3;omega⟩,5,1+r4.2.2,r5.2.2,1+r6.2.2,by decide,by omega,by omega,by omega,.inr (.inl rfl)⟩ rfl rfl rfl rfl Xw
   ·refine ⟨fun c2=>?_,fun c2=>?_⟩<;>conv=>whnf
    ·refine ⟨by simp,?_⟩
     conv=>whnf
     refine G4 16 (F1 [3,4]) rfl (Db rfl F3) ?_
     refine D7 (j:=2) A0 rfl rfl rfl rfl rfl rfl rfl rfl _ (E4 (j:=2) (xs:=[⟨1,0,0,[1]⟩,⟨5,0,0,[2,5]⟩,⟨4,1+r4.2.2,0,[3]⟩,⟨2,r5.2.2,0,[4]⟩,⟨7,0,0,[1]⟩,⟨8,0,0,[]⟩]) (e:=Cb.c) (x:=⟨4,1+r4.2.2,0,[3,4]⟩) A9h rfl) (Al ?_)
     exact Kk A0 (r7.1,r7.2.1,⟨List.set [⟨1,0,0,[1]⟩,⟨5,0,0,[2,5]⟩,⟨4,1+r4.2.2,0,[3]⟩,⟨2,r5.2.2,0,[4]⟩,⟨7,0,0,[1]⟩,⟨8,0,0,[]⟩] 2 ⟨4,1+r4.2.2,0,[3,4]⟩,1+r.2.2,1+r2.2.2⟩) ⟨hr7.1,⟨Nat.le_of_ble_eq_true rfl,(by repeat' (first|exact Hs|refine H3 ?_ ?_|refine Ht ?_ ?_|refine H2 ?_ ?_|refine Hy ?_ ?_ ?_ ?_ ?_|decide|omega)),⟨Nat.le_of_ble_eq_true rfl,Nat.le_of_ble_eq_true rfl⟩,⟨by show 0≤1+r.2.2;omega,by show 1+r.2.2≤100;omega⟩,⟨by show 0≤1+r2.2.2;omega,by show 1+r2.2.2≤100;omega⟩⟩,⟨by show 1≤1+r.2.2;omega,by show 1+r.2.2≤3;omega⟩,⟨by show 1≤1+r2.2.2;omega,by show 1+r2.2.2≤3;omega⟩,5,1+r4.2.2,r5.2.2,1+r6.2.2,by decide,by omega,by omega,by omega,.inr (.inr (.inl rfl))⟩ rfl rfl rfl rfl Xw
    ·refine ⟨fun c3=>?_,fun c3=>?_⟩<;>conv=>whnf
     ·refine G4 16 (Bp [⟨8,0,0,[]⟩]) rfl (Jg rfl Bj) ?_
      refine Dp A0 rfl rfl rfl rfl rfl rfl rfl rfl rfl rfl rfl (Bp ([⟨1,0,0,[1]⟩,⟨5,0,0,[2,5]⟩,⟨4,1+r4.2.2,0,[3]⟩,⟨2,r5.2.2,0,[4]⟩,⟨7,0,0,[1]⟩,⟨8,0,0,[]⟩]++[⟨8,0,0,[]⟩])) (Bf (xs:=[⟨1,0,0,[1]⟩,⟨5,0,0,[2,5]⟩,⟨4,1+r4.2.2,0,[3]⟩,⟨2,r5.2.2,0,[4]⟩,⟨7,0,0,[1]⟩,⟨8,0,0,[]⟩]) (x:=⟨8,0,0,[]⟩) (e:=Cb.c) rfl) M1 A9h (Al ?_)
      refine ⟨by simp,?_⟩
      conv=>whnf
      refine G4 18 (F1 [1,6]) rfl (Db rfl F3) ?_
      refine D7 (j:=0) A0 rfl rfl rfl rfl rfl rfl rfl rfl _ (E4 (j:=0) (xs:=[⟨1,0,0,[1]⟩,⟨5,0,0,[2,5]⟩,⟨4,1+r4.2.2,0,[3]⟩,⟨2,r5.2.2,0,[4]⟩,⟨7,0,0,[1]⟩,⟨8,0,0,[]⟩]++[⟨8,0,0,[]⟩]) (e:=Cb.c) (x:=⟨1,0,0,[1,6]⟩) A9h rfl) (Al ?_)
      exact Kk A0 (r7.1,r7.2.1,⟨List.set ([⟨1,0,0,[1]⟩,⟨5,0,0,[2,5]⟩,⟨4,1+r4.2.2,0,[3]⟩,⟨2,r5.2.2,0,[4]⟩,⟨7,0,0,[1]⟩,⟨8,0,0,[]⟩]++[⟨8,0,0,[]⟩]) 0 ⟨1,0,0,[1,6]⟩,1+r.2.2,1+r2.2.2⟩) ⟨hr7.1,⟨Nat.le_of_ble_eq_true rfl,(by repeat' (first|exact Hs|refine H3 ?_ ?_|refine Ht ?_ ?_|refine H2 ?_ ?_|refine Hy ?_ ?_ ?_ ?_ ?_|decide|omega)),⟨Nat.le_of_ble_eq_true rfl,Nat.le_of_ble_eq_true rfl⟩,⟨by show 0≤1+r.2.2;omega,by show 1+r.2.2≤100;omega⟩,⟨by show 0≤1+r2.2.2;omega,by show 1+r2.2.2≤100;omega⟩⟩,⟨by show 1≤1+r.2.2;omega,by show 1+r.2.2≤3;omega⟩,⟨by show 1≤1+r2.2.2;omega,by show 1+r2.2.2≤3;omega⟩,5,1+r4.2.2,r5.2.2,1+r6.2.2,by decide,by omega,by omega,by omega,.inr (.inr (.inr (.inl rfl)))⟩ rfl rfl rfl rfl Xw
     ·exact Kk A0 (r7.1,r7.2.1,⟨[⟨1,0,0,[1]⟩,⟨5,0,0,[2,5]⟩,⟨4,1+r4.2.2,0,[3]⟩,⟨2,r5.2.2,0,[4]⟩,⟨7,0,0,[1]⟩,⟨8,0,0,[]⟩],1+r.2.2,1+r2.2.2⟩) ⟨hr7.1,⟨Nat.le_of_ble_eq_true rfl,(by repeat' (first|exact Hs|refine H3 ?_ ?_|refine Ht ?_ ?_|refine H2 ?_ ?_|refine Hy ?_ ?_ ?_ ?_ ?_|decide|omega)),⟨Nat.le_of_ble_eq_true rfl,Nat.le_of_ble_eq_true rfl⟩,⟨by show 0≤1+r.2.2;omega,by show 1+r.2.2≤100;omega⟩,⟨by show 0≤1+r2.2.2;omega,by show 1+r2.2.2≤100;omega⟩⟩,⟨by show 1≤1+r.2.2;omega,by show 1+r.2.2≤3;omega⟩,⟨by show 1≤1+r2.2.2;omega,by show 1+r2.2.2≤3;omega⟩,5,1+r4.2.2,r5.2.2,1+r6.2.2,by decide,by omega,by omega,by omega,.inr (.inr (.inr (.inr rfl)))⟩ rfl rfl rfl rfl Xw
theorem C4c (d:I9)(i h:Int)(hi:0≤i∧i≤d.n):Iv Tryz.prog HT 51 d.pins (d.cur i h) [] (fun r:Int×Int×Ad=>(0≤r.1∧r.1≤d.n)∧A5u r.2.2) (fun r=>d.cur r.1 r.2.1) (fun r=>[.agg r.2.2.c]):=(A9z d i h hi).weak fun _ h=>⟨h.1,h.2.1⟩
end Go.Proofs.YtonodkjaoalfjaaGreat
