/- Part 20 of the proof that each of the laws FnTight returns true for every input. No conditions. -/
import Derived.Test.YtonodkjaoalfjaaP19

set_option linter.unusedSimpArgs false
set_option linter.unusedVariables false
set_option maxRecDepth 100000
namespace Go.Proofs.Ytonodkjaoalfjaa
open Go.Sx
def Pr (x:C3):Prop:=(-9≤x.kind∧x.kind≤1000)∧(-9≤x.a∧x.a≤1000)∧(-9≤x.b∧x.b≤1000)∧x.outs.length≤10∧∀n∈x.outs,-9≤n∧n≤1000
def Uq (xs:List C3):Prop:=∀x∈xs,Pr x
theorem G4 {k a b:Int}{l:List Int}(hk: -9≤k∧k≤1000)(ha: -9≤a∧a≤1000)(hb: -9≤b∧b≤1000)(hl:l.length≤10)(h:∀n∈l,-9≤n∧n≤1000):Pr ⟨k,a,b,l⟩:=⟨hk,ha,hb,hl,h⟩
theorem Fz:Uq []:=fun _ h=>(List.not_mem_nil h).elim
theorem F3 {x:C3}{xs:List C3}(h:Pr x)(hs:Uq xs):Uq (x::xs):=fun y hy=>by
 rcases List.mem_cons.1 hy with rfl|hy
 ·exact h
 ·exact hs y hy
theorem F4 {x:C3}{xs:List C3}(hs:Uq xs)(h:Pr x):Uq (xs++[x]):=fun y hy=>by
 rcases List.mem_append.1 hy with hy|hy
 ·exact hs y hy
 ·rw [List.mem_singleton.1 hy];exact h
theorem G0 {x:C3}{xs:List C3}{j:Nat}(hs:Uq xs)(h:Pr x):Uq (xs.set j x):=fun y hy=>by
 rcases List.mem_or_eq_of_mem_set hy with hy|rfl
 ·exact hs y hy
 ·exact h
def Y2 (G a b:Int):List C3:=[⟨1,0,0,[1]⟩,⟨G,0,0,[2,5]⟩,⟨4,a,0,[3]⟩,⟨2,b,0,[4]⟩,⟨7,0,0,[1]⟩,⟨8,0,0,[]⟩]
def A1g (l:List C3):Prop:=∃G a b k:Int,(G=6∨G=5)∧(1≤a∧a≤3)∧(0≤b∧b≤3)∧(1≤k∧k≤3)∧
 (l=(Y2 G a b).set 3 ⟨3,k,0,[4]⟩∨l=[⟨1,0,0,[1]⟩,⟨G,0,0,[2,5]⟩,⟨4,a,0,[3]⟩,⟨2,b,0,[4]⟩,⟨8,0,0,[]⟩,⟨8,0,0,[]⟩]∨l=(Y2 G a b).set 2 ⟨4,a,0,[3,4]⟩∨l=(Y2 G a b++[(⟨8,0,0,[]⟩:C3)]).set 0 ⟨1,0,0,[1,6]⟩∨l=Y2 G a b)
def Po (g:An):Prop:=(1≤g.workers∧g.workers≤3)∧(1≤g.cap∧g.cap≤3)∧A1g g.nodes
def Wh (g:An):Prop:=g.w≤64∧Uq g.nodes∧(1≤g.nodes.length∧g.nodes.length≤7)∧(0≤g.workers∧g.workers≤100)∧(0≤g.cap∧g.cap≤100)
set_option maxHeartbeats 1600000 in
theorem Zs (d:Gb)(i h:Int)(hi:0≤i∧i≤d.n):Dq Try.prog HT 22 d.pins (d.cur i h) [] (fun r:Int×Int×An=>(0≤r.1∧r.1≤d.n)∧Wh r.2.2∧Po r.2.2) (fun r=>d.cur r.1 r.2.1) (fun r=>[.agg r.2.2.c]):=by
 refine Ex A0 false Try.func22 rfl Cb fun B b hH hp=>?_
 conv=>whnf
 refine Cm (Cv d i h 3 hi Cb) hH hp rfl C1 rfl rfl (fun r hr=>go A0 false ?_)
 conv=>whnf
 (repeat refine Ak ?_)
 refine Cm (Cv d r.1 r.2.1 3 hr.1 Cb) hH hp rfl C1 rfl rfl (fun r2 hr2=>go A0 false ?_)
 conv=>whnf
 (repeat refine Ak ?_)
 refine Og 3 (Ds [2,5]) rfl (Cn rfl D8) ?_
 refine Cm (A4p d r2.1 r2.2.1 3 hr2.1 Cb) hH hp rfl C1 rfl rfl (fun r3 hr3=>go A0 false ?_)
 conv=>whnf
 refine ⟨fun cg=>?_,fun cg=>?_⟩<;>conv=>whnf
 ·refine Cm (Cv d r3.1 r3.2.1 3 hr3 Cb) hH hp rfl C1 rfl rfl (fun r4 hr4=>go A0 false ?_)
  conv=>whnf
  (repeat refine Ak ?_)
  refine Og 5 (Ds [3]) rfl (Cn rfl D8) ?_
  refine Cm (Cv d r4.1 r4.2.1 4 hr4.1 Cb) hH hp rfl C1 rfl rfl (fun r5 hr5=>go A0 false ?_)
  conv=>whnf
  refine Og 7 (Ds [4]) rfl (Cn rfl D8) ?_
  refine Cm (Cv d r5.1 r5.2.1 3 hr5.1 Cb) hH hp rfl C1 rfl rfl (fun r6 hr6=>goF 28 A0 false ?_)
  conv=>whnf
  refine ⟨by show _∧_;omega,?_⟩
  conv=>whnf
  refine Du 9 (Ds [4]) rfl (Cn rfl D8) ?_
  refine Du 11 (Ds [1]) rfl (Cn rfl D8) ?_
  refine Du 14 (Ds [1]) rfl (Cn rfl D8) ?_
  refine Lw A0 rfl rfl rfl rfl rfl rfl (l:=[.c (vi 1),.c (vi 0),.c (vi 0),.own 14,.c (vi 6),.c (vi 0),.c (vi 0),.own 3,.c (vi 4),.c (vi (1+r4.2.2)),.c (vi 0),.own 5,.c (vi 2),.c (vi r5.2.2),.c (vi 0),.own 7,.c (vi 7),.c (vi 0),.c (vi 0),.own 11,.c (vi 8),.c (vi 0),.c (vi 0),.c (.val (.slice none 0 0))]) A6
   (cs:=[vi 1,vi 0,vi 0,Ds [1],vi 6,vi 0,vi 0,Ds [2,5],vi 4,vi (1+r4.2.2),vi 0,Ds [3],vi 2,vi r5.2.2,vi 0,Ds [4],vi 7,vi 0,vi 0,Ds [1],vi 8,vi 0,vi 0,.val (.slice none 0 0)]) (ks:=[14,3,5,7,11]) A6 A6 (J4 ?_)
  conv=>whnf
  refine Og 15 (Bt [⟨1,0,0,[1]⟩,⟨6,0,0,[2,5]⟩,⟨4,1+r4.2.2,0,[3]⟩,⟨2,r5.2.2,0,[4]⟩,⟨7,0,0,[1]⟩,⟨8,0,0,[]⟩]) rfl (Gx rfl Zc) ?_
  refine Cm (Cv d r6.1 r6.2.1 6 hr6.1 Cb) hH hp rfl C1 rfl rfl (fun r7 hr7=>go A0 false ?_)
  conv=>whnf
  have q1:=hr.2.2.2 Cb
  have p1:=hr.2.1
  have q2:=hr2.2.2.2 Cb
  have p2:=hr2.2.1
  have q4:=hr4.2.2.2 Cb
  have p4:=hr4.2.1
  have q5:=hr5.2.2.2 Cb
  have p5:=hr5.2.1
  have q6:=hr6.2.2.2 Cb
  have p6:=hr6.2.1
  refine ⟨fun c0=>?_,fun c0=>?_⟩<;>conv=>whnf
  ·refine ⟨by simp,?_⟩
   conv=>whnf
   refine Cu (j:=3) A0 rfl rfl rfl rfl rfl rfl rfl rfl _ (Do (j:=3) (xs:=[⟨1,0,0,[1]⟩,⟨6,0,0,[2,5]⟩,⟨4,1+r4.2.2,0,[3]⟩,⟨2,r5.2.2,0,[4]⟩,⟨7,0,0,[1]⟩,⟨8,0,0,[]⟩]) (e:=C3.c) (x:=⟨3,1+r6.2.2,0,[4]⟩) Bq rfl) (Af ?_)
   exact C9 A0 (r7.1,r7.2.1,⟨List.set [⟨1,0,0,[1]⟩,⟨6,0,0,[2,5]⟩,⟨4,1+r4.2.2,0,[3]⟩,⟨2,r5.2.2,0,[4]⟩,⟨7,0,0,[1]⟩,⟨8,0,0,[]⟩] 3 ⟨3,1+r6.2.2,0,[4]⟩,1+r.2.2,1+r2.2.2⟩) ⟨hr7.1,⟨Nat.le_of_ble_eq_true rfl,(by repeat' (first|exact Fz|refine F4 ?_ ?_|refine G0 ?_ ?_|refine F3 ?_ ?_|refine G4 ?_ ?_ ?_ ?_ ?_|decide|omega)),⟨Nat.le_of_ble_eq_true rfl,Nat.le_of_ble_eq_true rfl⟩,⟨by show 0≤1+r.2.2;omega,by show 1+r.2.2≤100;omega⟩,⟨by show 0≤1+r2.2.2;omega,by show 1+r2.2.2≤100;omega⟩⟩,⟨by show 1≤1+r.2.2;omega,by show 1+r.2.2≤3;omega⟩,⟨by show 1≤1+r2.2.2;omega,by show 1+r2.2.2≤3;omega⟩,6,1+r4.2.2,r5.2.2,1+r6.2.2,by decide,by omega,by omega,by omega,.inl rfl⟩ rfl rfl rfl rfl Ia
  ·refine ⟨fun c1=>?_,fun c1=>?_⟩<;>conv=>whnf
   ·refine ⟨by simp,?_⟩
    conv=>whnf
    refine Cu (j:=4) A0 rfl rfl rfl rfl rfl rfl rfl rfl _ (T8 (j:=4) rfl) (Af ?_)
    refine Mn 15 (Bt [⟨1,0,0,[1]⟩,⟨6,0,0,[2,5]⟩,⟨4,1+r4.2.2,0,[3]⟩,⟨2,r5.2.2,0,[4]⟩,⟨8,0,0,[]⟩,⟨8,0,0,[]⟩]) rfl (Gx rfl Zc) ?_
    exact C9 A0 (r7.1,r7.2.1,⟨[⟨1,0,0,[1]⟩,⟨6,0,0,[2,5]⟩,⟨4,1+r4.2.2,0,[3]⟩,⟨2,r5.2.2,0,[4]⟩,⟨8,0,0,[]⟩,⟨8,0,0,[]⟩],1+r.2.2,1+r2.2.2⟩) ⟨hr7.1,⟨Nat.le_of_ble_eq_true rfl,(by repeat' (first|exact Fz|refine F4 ?_ ?_|refine G0 ?_ ?_|refine F3 ?_ ?_|refine G4 ?_ ?_ ?_ ?_ ?_|decide|omega)),⟨Nat.le_of_ble_eq_true rfl,Nat.le_of_ble_eq_true rfl⟩,⟨by show 0≤1+r.2.2;omega,by show 1+r.2.2≤100;omega⟩,⟨by show 0≤1+r2.2.2;omega,by show 1+r2.2.2≤100;omega⟩⟩,⟨by show 1≤1+r.2.2;omega,by show 1+r.2.2≤3;omega⟩,⟨by show 1≤1+r2.2.2;omega,by show 1+r2.2.2≤3;omega⟩,6,1+r4.2.2,r5.2.2,1+r6.2.2,by decide,by omega,by omega,by omega,.inr (.inl rfl)⟩ rfl rfl rfl rfl Ia
   ·refine ⟨fun c2=>?_,fun c2=>?_⟩<;>conv=>whnf
    ·refine ⟨by simp,?_⟩
     conv=>whnf
     refine Du 16 (Ds [3,4]) rfl (Cn rfl D8) ?_
     refine Cu (j:=2) A0 rfl rfl rfl rfl rfl rfl rfl rfl _ (Do (j:=2) (xs:=[⟨1,0,0,[1]⟩,⟨6,0,0,[2,5]⟩,⟨4,1+r4.2.2,0,[3]⟩,⟨2,r5.2.2,0,[4]⟩,⟨7,0,0,[1]⟩,⟨8,0,0,[]⟩]) (e:=C3.c) (x:=⟨4,1+r4.2.2,0,[3,4]⟩) Bq rfl) (Af ?_)
     exact C9 A0 (r7.1,r7.2.1,⟨List.set [⟨1,0,0,[1]⟩,⟨6,0,0,[2,5]⟩,⟨4,1+r4.2.2,0,[3]⟩,⟨2,r5.2.2,0,[4]⟩,⟨7,0,0,[1]⟩,⟨8,0,0,[]⟩] 2 ⟨4,1+r4.2.2,0,[3,4]⟩,1+r.2.2,1+r2.2.2⟩) ⟨hr7.1,⟨Nat.le_of_ble_eq_true rfl,(by repeat' (first|exact Fz|refine F4 ?_ ?_|refine G0 ?_ ?_|refine F3 ?_ ?_|refine G4 ?_ ?_ ?_ ?_ ?_|decide|omega)),⟨Nat.le_of_ble_eq_true rfl,Nat.le_of_ble_eq_true rfl⟩,⟨by show 0≤1+r.2.2;omega,by show 1+r.2.2≤100;omega⟩,⟨by show 0≤1+r2.2.2;omega,by show 1+r2.2.2≤100;omega⟩⟩,⟨by show 1≤1+r.2.2;omega,by show 1+r.2.2≤3;omega⟩,⟨by show 1≤1+r2.2.2;omega,by show 1+r2.2.2≤3;omega⟩,6,1+r4.2.2,r5.2.2,1+r6.2.2,by decide,by omega,by omega,by omega,.inr (.inr (.inl rfl))⟩ rfl rfl rfl rfl Ia
    ·refine ⟨fun c3=>?_,fun c3=>?_⟩<;>conv=>whnf
     ·refine Du 16 (Bt [⟨8,0,0,[]⟩]) rfl (Gx rfl Zc) ?_
      refine B4 A0 rfl rfl rfl rfl rfl rfl rfl rfl rfl rfl rfl (Bt ([⟨1,0,0,[1]⟩,⟨6,0,0,[2,5]⟩,⟨4,1+r4.2.2,0,[3]⟩,⟨2,r5.2.2,0,[4]⟩,⟨7,0,0,[1]⟩,⟨8,0,0,[]⟩]++[⟨8,0,0,[]⟩])) (B5 (xs:=[⟨1,0,0,[1]⟩,⟨6,0,0,[2,5]⟩,⟨4,1+r4.2.2,0,[3]⟩,⟨2,r5.2.2,0,[4]⟩,⟨7,0,0,[1]⟩,⟨8,0,0,[]⟩]) (x:=⟨8,0,0,[]⟩) (e:=C3.c) rfl) Rt Bq (Af ?_)
      refine ⟨by simp,?_⟩
      conv=>whnf
      refine Du 18 (Ds [1,6]) rfl (Cn rfl D8) ?_
      refine Cu (j:=0) A0 rfl rfl rfl rfl rfl rfl rfl rfl _ (Do (j:=0) (xs:=[⟨1,0,0,[1]⟩,⟨6,0,0,[2,5]⟩,⟨4,1+r4.2.2,0,[3]⟩,⟨2,r5.2.2,0,[4]⟩,⟨7,0,0,[1]⟩,⟨8,0,0,[]⟩]++[⟨8,0,0,[]⟩]) (e:=C3.c) (x:=⟨1,0,0,[1,6]⟩) Bq rfl) (Af ?_)
      exact C9 A0 (r7.1,r7.2.1,⟨List.set ([⟨1,0,0,[1]⟩,⟨6,0,0,[2,5]⟩,⟨4,1+r4.2.2,0,[3]⟩,⟨2,r5.2.2,0,[4]⟩,⟨7,0,0,[1]⟩,⟨8,0,0,[]⟩]++[⟨8,0,0,[]⟩]) 0 ⟨1,0,0,[1,6]⟩,1+r.2.2,1+r2.2.2⟩) ⟨hr7.1,⟨Nat.le_of_ble_eq_true rfl,(by repeat' (first|exact Fz|refine F4 ?_ ?_|refine G0 ?_ ?_|refine F3 ?_ ?_|refine G4 ?_ ?_ ?_ ?_ ?_|decide|omega)),⟨Nat.le_of_ble_eq_true rfl,Nat.le_of_ble_eq_true rfl⟩,⟨by show 0≤1+r.2.2;omega,by show 1+r.2.2≤100;omega⟩,⟨by show 0≤1+r2.2.2;omega,by show 1+r2.2.2≤100;omega⟩⟩,⟨by show 1≤1+r.2.2;omega,by show 1+r.2.2≤3;omega⟩,⟨by show 1≤1+r2.2.2;omega,by show 1+r2.2.2≤3;omega⟩,6,1+r4.2.2,r5.2.2,1+r6.2.2,by decide,by omega,by omega,by omega,.inr (.inr (.inr (.inl rfl)))⟩ rfl rfl rfl rfl Ia
     ·exact C9 A0 (r7.1,r7.2.1,⟨[⟨1,0,0,[1]⟩,⟨6,0,0,[2,5]⟩,⟨4,1+r4.2.2,0,[3]⟩,⟨2,r5.2.2,0,[4]⟩,⟨7,0,0,[1]⟩,⟨8,0,0,[]⟩],1+r.2.2,1+r2.2.2⟩) ⟨hr7.1,⟨Nat.le_of_ble_eq_true rfl,(by repeat' (first|exact Fz|refine F4 ?_ ?_|refine G0 ?_ ?_|refine F3 ?_ ?_|refine G4 ?_ ?_ ?_ ?_ ?_|decide|omega)),⟨Nat.le_of_ble_eq_true rfl,Nat.le_of_ble_eq_true rfl⟩,⟨by show 0≤1+r.2.2;omega,by show 1+r.2.2≤100;omega⟩,⟨by show 0≤1+r2.2.2;omega,by show 1+r2.2.2≤100;omega⟩⟩,⟨by show 1≤1+r.2.2;omega,by show 1+r.2.2≤3;omega⟩,⟨by show 1≤1+r2.2.2;omega,by show 1+r2.2.2≤3;omega⟩,6,1+r4.2.2,r5.2.2,1+r6.2.2,by decide,by omega,by omega,by omega,.inr (.inr (.inr (.inr rfl)))⟩ rfl rfl rfl rfl Ia
 ·refine Cm (Cv d r3.1 r3.2.1 3 hr3 Cb) hH hp rfl C1 rfl rfl (fun r4 hr4=>go A0 false ?_)
  conv=>whnf
  (repeat refine Ak ?_)
  refine Og 5 (Ds [3]) rfl (Cn rfl D8) ?_
  refine Cm (Cv d r4.1 r4.2.1 4 hr4.1 Cb) hH hp rfl C1 rfl rfl (fun r5 hr5=>go A0 false ?_)
  conv=>whnf
  refine Og 7 (Ds [4]) rfl (Cn rfl D8) ?_
  refine Cm (Cv d r5.1 r5.2.1 3 hr5.1 Cb) hH hp rfl C1 rfl rfl (fun r6 hr6=>goF 28 A0 false ?_)
  conv=>whnf
  refine ⟨by show _∧_;omega,?_⟩
  conv=>whnf
  refine Du 9 (Ds [4]) rfl (Cn rfl D8) ?_
  refine Du 11 (Ds [1]) rfl (Cn rfl D8) ?_
  refine Du 14 (Ds [1]) rfl (Cn rfl D8) ?_
  refine Lw A0 rfl rfl rfl rfl rfl rfl (l:=[.c (vi 1),.c (vi 0),.c (vi 0),.own 14,.c (vi 5),.c (vi 0),.c (vi 0),.own 3,.c (vi 4),.c (vi (1+r4.2.2)),.c (vi 0),.own 5,.c (vi 2),.c (vi r5.2.2),.c (vi 0),.own 7,.c (vi 7),.c (vi 0),.c (vi 0),.own 11,.c (vi 8),.c (vi 0),.c (vi 0),.c (.val (.slice none 0 0))]) A6
   (cs:=[vi 1,vi 0,vi 0,Ds [1],vi 5,vi 0,vi 0,Ds [2,5],vi 4,vi (1+r4.2.2),vi 0,Ds [3],vi 2,vi r5.2.2,vi 0,Ds [4],vi 7,vi 0,vi 0,Ds [1],vi 8,vi 0,vi 0,.val (.slice none 0 0)]) (ks:=[14,3,5,7,11]) A6 A6 (J4 ?_)
  conv=>whnf
  refine Og 15 (Bt [⟨1,0,0,[1]⟩,⟨5,0,0,[2,5]⟩,⟨4,1+r4.2.2,0,[3]⟩,⟨2,r5.2.2,0,[4]⟩,⟨7,0,0,[1]⟩,⟨8,0,0,[]⟩]) rfl (Gx rfl Zc) ?_
  refine Cm (Cv d r6.1 r6.2.1 6 hr6.1 Cb) hH hp rfl C1 rfl rfl (fun r7 hr7=>go A0 false ?_)
  conv=>whnf
  have q1:=hr.2.2.2 Cb
  have p1:=hr.2.1
  have q2:=hr2.2.2.2 Cb
  have p2:=hr2.2.1
  have q4:=hr4.2.2.2 Cb
  have p4:=hr4.2.1
  have q5:=hr5.2.2.2 Cb
  have p5:=hr5.2.1
  have q6:=hr6.2.2.2 Cb
  have p6:=hr6.2.1
  refine ⟨fun c0=>?_,fun c0=>?_⟩<;>conv=>whnf
  ·refine ⟨by simp,?_⟩
   conv=>whnf
   refine Cu (j:=3) A0 rfl rfl rfl rfl rfl rfl rfl rfl _ (Do (j:=3) (xs:=[⟨1,0,0,[1]⟩,⟨5,0,0,[2,5]⟩,⟨4,1+r4.2.2,0,[3]⟩,⟨2,r5.2.2,0,[4]⟩,⟨7,0,0,[1]⟩,⟨8,0,0,[]⟩]) (e:=C3.c) (x:=⟨3,1+r6.2.2,0,[4]⟩) Bq rfl) (Af ?_)
   exact C9 A0 (r7.1,r7.2.1,⟨List.set [⟨1,0,0,[1]⟩,⟨5,0,0,[2,5]⟩,⟨4,1+r4.2.2,0,[3]⟩,⟨2,r5.2.2,0,[4]⟩,⟨7,0,0,[1]⟩,⟨8,0,0,[]⟩] 3 ⟨3,1+r6.2.2,0,[4]⟩,1+r.2.2,1+r2.2.2⟩) ⟨hr7.1,⟨Nat.le_of_ble_eq_true rfl,(by repeat' (first|exact Fz|refine F4 ?_ ?_|refine G0 ?_ ?_|refine F3 ?_ ?_|refine G4 ?_ ?_ ?_ ?_ ?_|decide|omega)),⟨Nat.le_of_ble_eq_true rfl,Nat.le_of_ble_eq_true rfl⟩,⟨by show 0≤1+r.2.2;omega,by show 1+r.2.2≤100;omega⟩,⟨by show 0≤1+r2.2.2;omega,by show 1+r2.2.2≤100;omega⟩⟩,⟨by show 1≤1+r.2.2;omega,by show 1+r.2.2≤3;omega⟩,⟨by show 1≤1+r2.2.2;omega,by show 1+r2.2.2≤3;omega⟩,5,1+r4.2.2,r5.2.2,1+r6.2.2,by decide,by omega,by omega,by omega,.inl rfl⟩ rfl rfl rfl rfl Ia
  ·refine ⟨fun c1=>?_,fun c1=>?_⟩<;>conv=>whnf
   ·refine ⟨by simp,?_⟩
    conv=>whnf
    refine Cu (j:=4) A0 rfl rfl rfl rfl rfl rfl rfl rfl _ (T8 (j:=4) rfl) (Af ?_)
    refine Mn 15 (Bt [⟨1,0,0,[1]⟩,⟨5,0,0,[2,5]⟩,⟨4,1+r4.2.2,0,[3]⟩,⟨2,r5.2.2,0,[4]⟩,⟨8,0,0,[]⟩,⟨8,0,0,[]⟩]) rfl (Gx rfl Zc) ?_
    exact C9 A0 (r7.1,r7.2.1,⟨[⟨1,0,0,[1]⟩,⟨5,0,0,[2,5]⟩,⟨4,1+r4.2.2,0,[3]⟩,⟨2,r5.2.2,0,[4]⟩,⟨8,0,0,[]⟩,⟨8,0,0,[]⟩],1+r.2.2,1+r2.2.2⟩) ⟨hr7.1,⟨Nat.le_of_ble_eq_true rfl,(by repeat' (first|exact Fz|refine F4 ?_ ?_|refine G0 ?_ ?_|refine F3 ?_ ?_|refine G4 ?_ ?_ ?_ ?_ ?_|decide|omega)),⟨Nat.le_of_ble_eq_true rfl,Nat.le_of_ble_eq_true rfl⟩,⟨by show 0≤1+r.2.2;omega,by show 1+r.2.2≤100;omega⟩,⟨by show 0≤1+r2.2.2;omega,by show 1+r2.2.2≤100;omega⟩⟩,⟨by show 1≤1+r.2.2;omega,by show 1+r.2.2≤3;omega⟩,⟨by show 1≤1+r2.2.2;omega,by show 1+r2.2.2≤3;omega⟩,5,1+r4.2.2,r5.2.2,1+r6.2.2,by decide,by omega,by omega,by omega,.inr (.inl rfl)⟩ rfl rfl rfl rfl Ia
   ·refine ⟨fun c2=>?_,fun c2=>?_⟩<;>conv=>whnf
    ·refine ⟨by simp,?_⟩
     conv=>whnf
     refine Du 16 (Ds [3,4]) rfl (Cn rfl D8) ?_
     refine Cu (j:=2) A0 rfl rfl rfl rfl rfl rfl rfl rfl _ (Do (j:=2) (xs:=[⟨1,0,0,[1]⟩,⟨5,0,0,[2,5]⟩,⟨4,1+r4.2.2,0,[3]⟩,⟨2,r5.2.2,0,[4]⟩,⟨7,0,0,[1]⟩,⟨8,0,0,[]⟩]) (e:=C3.c) (x:=⟨4,1+r4.2.2,0,[3,4]⟩) Bq rfl) (Af ?_)
     exact C9 A0 (r7.1,r7.2.1,⟨List.set [⟨1,0,0,[1]⟩,⟨5,0,0,[2,5]⟩,⟨4,1+r4.2.2,0,[3]⟩,⟨2,r5.2.2,0,[4]⟩,⟨7,0,0,[1]⟩,⟨8,0,0,[]⟩] 2 ⟨4,1+r4.2.2,0,[3,4]⟩,1+r.2.2,1+r2.2.2⟩) ⟨hr7.1,⟨Nat.le_of_ble_eq_true rfl,(by repeat' (first|exact Fz|refine F4 ?_ ?_|refine G0 ?_ ?_|refine F3 ?_ ?_|refine G4 ?_ ?_ ?_ ?_ ?_|decide|omega)),⟨Nat.le_of_ble_eq_true rfl,Nat.le_of_ble_eq_true rfl⟩,⟨by show 0≤1+r.2.2;omega,by show 1+r.2.2≤100;omega⟩,⟨by show 0≤1+r2.2.2;omega,by show 1+r2.2.2≤100;omega⟩⟩,⟨by show 1≤1+r.2.2;omega,by show 1+r.2.2≤3;omega⟩,⟨by show 1≤1+r2.2.2;omega,by show 1+r2.2.2≤3;omega⟩,5,1+r4.2.2,r5.2.2,1+r6.2.2,by decide,by omega,by omega,by omega,.inr (.inr (.inl rfl))⟩ rfl rfl rfl rfl Ia
    ·refine ⟨fun c3=>?_,fun c3=>?_⟩<;>conv=>whnf
     ·refine Du 16 (Bt [⟨8,0,0,[]⟩]) rfl (Gx rfl Zc) ?_
      refine B4 A0 rfl rfl rfl rfl rfl rfl rfl rfl rfl rfl rfl (Bt ([⟨1,0,0,[1]⟩,⟨5,0,0,[2,5]⟩,⟨4,1+r4.2.2,0,[3]⟩,⟨2,r5.2.2,0,[4]⟩,⟨7,0,0,[1]⟩,⟨8,0,0,[]⟩]++[⟨8,0,0,[]⟩])) (B5 (xs:=[⟨1,0,0,[1]⟩,⟨5,0,0,[2,5]⟩,⟨4,1+r4.2.2,0,[3]⟩,⟨2,r5.2.2,0,[4]⟩,⟨7,0,0,[1]⟩,⟨8,0,0,[]⟩]) (x:=⟨8,0,0,[]⟩) (e:=C3.c) rfl) Rt Bq (Af ?_)
      refine ⟨by simp,?_⟩
      conv=>whnf
      refine Du 18 (Ds [1,6]) rfl (Cn rfl D8) ?_
      refine Cu (j:=0) A0 rfl rfl rfl rfl rfl rfl rfl rfl _ (Do (j:=0) (xs:=[⟨1,0,0,[1]⟩,⟨5,0,0,[2,5]⟩,⟨4,1+r4.2.2,0,[3]⟩,⟨2,r5.2.2,0,[4]⟩,⟨7,0,0,[1]⟩,⟨8,0,0,[]⟩]++[⟨8,0,0,[]⟩]) (e:=C3.c) (x:=⟨1,0,0,[1,6]⟩) Bq rfl) (Af ?_)
      exact C9 A0 (r7.1,r7.2.1,⟨List.set ([⟨1,0,0,[1]⟩,⟨5,0,0,[2,5]⟩,⟨4,1+r4.2.2,0,[3]⟩,⟨2,r5.2.2,0,[4]⟩,⟨7,0,0,[1]⟩,⟨8,0,0,[]⟩]++[⟨8,0,0,[]⟩]) 0 ⟨1,0,0,[1,6]⟩,1+r.2.2,1+r2.2.2⟩) ⟨hr7.1,⟨Nat.le_of_ble_eq_true rfl,(by repeat' (first|exact Fz|refine F4 ?_ ?_|refine G0 ?_ ?_|refine F3 ?_ ?_|refine G4 ?_ ?_ ?_ ?_ ?_|decide|omega)),⟨Nat.le_of_ble_eq_true rfl,Nat.le_of_ble_eq_true rfl⟩,⟨by show 0≤1+r.2.2;omega,by show 1+r.2.2≤100;omega⟩,⟨by show 0≤1+r2.2.2;omega,by show 1+r2.2.2≤100;omega⟩⟩,⟨by show 1≤1+r.2.2;omega,by show 1+r.2.2≤3;omega⟩,⟨by show 1≤1+r2.2.2;omega,by show 1+r2.2.2≤3;omega⟩,5,1+r4.2.2,r5.2.2,1+r6.2.2,by decide,by omega,by omega,by omega,.inr (.inr (.inr (.inl rfl)))⟩ rfl rfl rfl rfl Ia
     ·exact C9 A0 (r7.1,r7.2.1,⟨[⟨1,0,0,[1]⟩,⟨5,0,0,[2,5]⟩,⟨4,1+r4.2.2,0,[3]⟩,⟨2,r5.2.2,0,[4]⟩,⟨7,0,0,[1]⟩,⟨8,0,0,[]⟩],1+r.2.2,1+r2.2.2⟩) ⟨hr7.1,⟨Nat.le_of_ble_eq_true rfl,(by repeat' (first|exact Fz|refine F4 ?_ ?_|refine G0 ?_ ?_|refine F3 ?_ ?_|refine G4 ?_ ?_ ?_ ?_ ?_|decide|omega)),⟨Nat.le_of_ble_eq_true rfl,Nat.le_of_ble_eq_true rfl⟩,⟨by show 0≤1+r.2.2;omega,by show 1+r.2.2≤100;omega⟩,⟨by show 0≤1+r2.2.2;omega,by show 1+r2.2.2≤100;omega⟩⟩,⟨by show 1≤1+r.2.2;omega,by show 1+r.2.2≤3;omega⟩,⟨by show 1≤1+r2.2.2;omega,by show 1+r2.2.2≤3;omega⟩,5,1+r4.2.2,r5.2.2,1+r6.2.2,by decide,by omega,by omega,by omega,.inr (.inr (.inr (.inr rfl)))⟩ rfl rfl rfl rfl Ia
end Go.Proofs.Ytonodkjaoalfjaa
