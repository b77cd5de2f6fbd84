/- Part 36 of the proof that each of the laws FnColours returns true for every input. No conditions. -/
import Derived.Test.YtdendlkeiaccpaaGreatDoorP35
import Derived.Test.YtdendlkeiaccpaaGreatDoorP19

set_option linter.unusedSimpArgs false
set_option linter.unusedVariables false
set_option maxRecDepth 100000
namespace Go.Proofs.YtdendlkeiaccpaaGreatDoor
open Go.Sx
def B07 (c:A3):Prop:=c.w≤70000∧c.ok
theorem B1r {c:A3}(n:Nat)(hn:n≤300)(h:A5a c):B07 (D7 n c).1:=by
 have:=Pn n c
 have h1:=h.1
 exact ⟨by omega,B2k n h.2 Ac⟩
theorem B47 {c:A3}(h:A5a c):B07 c:=⟨Nat.le_trans h.1 Az,h.2⟩
set_option maxHeartbeats 4000000 in
theorem A26 (d:E4):Kj Tryz.prog HT 49 d.pins [] [.one (.val d.v)] (fun r:A3×Int=>B07 r.1) (fun r=>[.agg r.1.c,.one (vi r.2)]):=by
 refine Ok A0 false Tryz.func49 rfl Az fun B hH hp=>?_
 conv=>whnf
 refine Tp (Vt d) hp rfl (fun h0 _=>go A0 false ?_)
 conv=>whnf
 refine Ak (B14 d 0 h0 ⟨Int.le_refl _,Int.natCast_nonneg _⟩) hH hp rfl B1 rfl rfl (fun r hr=>go A0 false ?_)
 conv=>whnf
 have hrw:=hr.2.1
 refine Ak (Lt d r.1 r.2.1 2 hr.1 Az) hH hp rfl B1 rfl rfl (fun r1 hr1=>go A0 false ?_)
 conv=>whnf
 refine ⟨fun c0=>?_,fun c0=>?_⟩<;>conv=>whnf
 ·refine Cn (Kg r.2.2 200 Ac hr.2.2.1.2.1) rfl (A8 ?_)
  refine Fx rfl ?_
  refine Ao A0 false 1 rfl rfl rfl A7 rfl (A5 Bb) ?_
  refine A4 [0,2] A7 ⟨?_,?_,trivial⟩
  focus
   refine A8 ?_
   refine A6 (A4 [2] A7 ⟨A8 ?_,trivial⟩)
   refine Ak (Ai d r1.1 r1.2.1 6 hr1 Az) hH hp rfl B1 rfl rfl (fun r2 hr2=>go A0 false ?_)
   conv=>whnf
   have hk9:=hr2.2.2.2 Az
   have hk8:=hr2.2.1
   refine A6 ?_
   refine Ao A0 false 3 rfl rfl rfl A7 rfl (A5 Bb) ?_
   refine A4 [4] A7 ⟨A8 ?_,trivial⟩
   refine A6 ?_
   refine Ao A0 false 5 rfl rfl rfl A7 rfl (A5 Bb) ?_
   refine B2 A7 (A8 ?_)
  rotate_left 1
  focus
   refine A8 ?_
   refine Ak (Ai d r1.1 r1.2.1 6 hr1 Az) hH hp rfl B1 rfl rfl (fun r2 hr2=>go A0 false ?_)
   conv=>whnf
   have hk9:=hr2.2.2.2 Az
   have hk8:=hr2.2.1
   refine A6 ?_
   refine Ao A0 false 3 rfl rfl rfl A7 rfl (A5 Bb) ?_
   refine A4 [0] A7 ⟨A8 ?_,trivial⟩
   refine A6 (A4 [4] A7 ⟨A8 ?_,trivial⟩)
   refine A6 ?_
   refine Ao A0 false 5 rfl rfl rfl A7 rfl (A5 Bb) ?_
   refine B2 A7 (A8 ?_)
  all_goals
   exact X6 A0 ((D7 (Dw 200 0 3000).toNat r.2.2).1,r2.2.2-1) (B1r _ Az hr.2) rfl rfl B1
 repeat refine Bd ?_
 refine Fx rfl ?_
 refine Ao A0 false 1 rfl rfl rfl A7 rfl (A5 Bb) ?_
 refine A4 [0,2] A7 ⟨?_,?_,trivial⟩
 focus
  refine A8 ?_
  refine A6 (A4 [2] A7 ⟨A8 ?_,trivial⟩)
  refine Ak (Ai d r1.1 r1.2.1 6 hr1 Az) hH hp rfl B1 rfl rfl (fun r2 hr2=>go A0 false ?_)
  conv=>whnf
  have hk9:=hr2.2.2.2 Az
  have hk8:=hr2.2.1
  refine A6 ?_
  refine Ao A0 false 3 rfl rfl rfl A7 rfl (A5 Bb) ?_
  refine A4 [4] A7 ⟨A8 ?_,trivial⟩
  refine A6 ?_
  refine Ao A0 false 5 rfl rfl rfl A7 rfl (A5 Bb) ?_
  refine B2 A7 (A8 ?_)
 rotate_left 1
 focus
  refine A8 ?_
  refine Ak (Ai d r1.1 r1.2.1 6 hr1 Az) hH hp rfl B1 rfl rfl (fun r2 hr2=>go A0 false ?_)
  conv=>whnf
  have hk9:=hr2.2.2.2 Az
  have hk8:=hr2.2.1
  refine A6 ?_
  refine Ao A0 false 3 rfl rfl rfl A7 rfl (A5 Bb) ?_
  refine A4 [0] A7 ⟨A8 ?_,trivial⟩
  refine A6 (A4 [4] A7 ⟨A8 ?_,trivial⟩)
  refine A6 ?_
  refine Ao A0 false 5 rfl rfl rfl A7 rfl (A5 Bb) ?_
  refine B2 A7 (A8 ?_)
 all_goals
  exact X6 A0 (r.2.2,r2.2.2-1) (B47 hr.2) rfl rfl B1
theorem A5n (d:E4):Kj Tryz.prog HT 9 d.pins [] [.one (.val d.v)] (fun r:A3×Int=>B07 r.1) (fun r=>[.agg r.1.c,.one (vi r.2)]):=by
 refine Ok A0 false Tryz.func9 rfl Az fun B hH hp=>?_
 conv=>whnf
 refine Oh (A26 d) hH hp rfl (fun r hr=>go A0 false ?_)
 conv=>whnf
 exact X6 A0 r hr rfl rfl B1
theorem A27 (d:E4):Kj Tryz.prog HT 7 d.pins [] [.one (.val d.v)] (fun r:A3×Int=>A5a r.1) (fun r=>[.agg r.1.c,.one (vi r.2)]):=by
 refine Ok A0 false Tryz.func7 rfl Az fun B hH hp=>?_
 conv=>whnf
 refine Oh (B7v d) hH hp rfl (fun r hr=>go A0 false ?_)
 conv=>whnf
 exact X6 A0 r hr rfl rfl B1
theorem B5i (d:E4):Kj Tryz.prog HT 8 d.pins [] [.one (.val d.v)] (fun r:Cu=>r.ok) (fun r=>[.agg r.c]):=by
 refine Ok A0 false Tryz.func8 rfl Az fun B hH hp=>?_
 conv=>whnf
 refine Tp (Vt d) hp rfl (fun h0 _=>go A0 false ?_)
 conv=>whnf
 refine Ak (Lt d 0 h0 2 ⟨Int.le_refl _,Int.natCast_nonneg _⟩ Az) hH hp rfl B1 rfl rfl (fun r1 hr1=>go A0 false ?_)
 conv=>whnf
 refine Ak (Ai d r1.1 r1.2.1 4 hr1 Az) hH hp rfl B1 rfl rfl (fun r2 hr2=>go A0 false ?_)
 conv=>whnf
 have h2:=hr2.2.2.2 Az
 have h2b:=hr2.2.1
 refine Ak (Ai d r2.1 r2.2.1 9 hr2.1 Az) hH hp rfl B1 rfl rfl (fun r3 hr3=>go A0 false ?_)
 conv=>whnf
 have h3:=hr3.2.2.2 Az
 have h3b:=hr3.2.1
 (repeat refine An ?_)
 refine Ak (Lt d r3.1 r3.2.1 2 hr3.1 Az) hH hp rfl B1 rfl rfl (fun r4 hr4=>go A0 false ?_)
 conv=>whnf
 refine Ak (Lt d r4.1 r4.2.1 3 hr4 Az) hH hp rfl B1 rfl rfl (fun r5 hr5=>go A0 false ?_)
 conv=>whnf
 exact X6 A0 (⟨r1.2.2,r2.2.2,r3.2.2-4,r4.2.2,r5.2.2⟩:Cu) ⟨⟨by show _≤r2.2.2;omega,by show r2.2.2≤_;omega⟩,⟨by show _≤r3.2.2-4;omega,by show r3.2.2-4≤_;omega⟩⟩ rfl rfl B1
theorem A28 (d:E4):Kj Tryz.prog HT 23 d.pins [] [.one (.val d.v)] (fun r:A3=>Qi r) (fun r=>[.agg r.c]):=by
 refine Ok A0 false Tryz.func23 rfl Az fun B hH hp=>?_
 conv=>whnf
 refine Tp (Vt d) hp rfl (fun h0 _=>go A0 false ?_)
 conv=>whnf
 refine Ak (Qr d 0 h0 ⟨Int.le_refl _,Int.natCast_nonneg _⟩) hH hp rfl B1 rfl rfl (fun r hr=>go A0 false ?_)
 conv=>whnf
 exact X6 A0 r.2.2 hr.2 rfl rfl B1
theorem B2i (n:Nat):∀c:A3,M6 c→M6 (D7 n c).1:=by
 induction n with
 |zero=>intro c h;exact h
 |succ n ih=>
  intro c h
  unfold D7
  split
  ·exact Zs h
  exact ih _ (Zs h)
theorem A5o {c:A3}(h:Qi c):M6 c:=by
 obtain ⟨g,ins,pk,m,_,_,_,_,rfl⟩:=h
 exact B2i m _ (P7 B6a)
abbrev Hf (k:Nat) (e:Int):List C7:=[⟨1,(k:Int).tmod 3,0⟩,⟨3,(k:Int).tmod 3,0⟩,⟨2,(k:Int).tmod 3,0⟩,⟨4,(k:Int).tmod 3,((k:Int)+1).tmod 3⟩,⟨4,(k:Int).tmod 3,((k:Int)+2).tmod 3⟩,⟨5,(k:Int).tmod 3,((k:Int)+1).tmod 3⟩,⟨6,e,0⟩]
structure JRT where
 k:Nat
 x:A3
set_option maxHeartbeats 800000 in
theorem B7x (d:E4):Kj Tryz.prog HT 6 d.pins [] [.one (.val d.v)] (fun r:A3×Int=>r.1.w≤7000∧M6 r.1) (fun r=>[.agg r.1.c,.one (vi r.2)]):=by
 refine Ok A0 false Tryz.func6 rfl Az fun B hH hp=>?_
 conv=>whnf
 refine Tp (Vt d) hp rfl (fun h0 _=>go A0 false ?_)
 conv=>whnf
 refine Ak (Qr d 0 h0 ⟨Int.le_refl _,Int.natCast_nonneg _⟩) hH hp rfl B1 rfl rfl (fun r hr=>go A0 false ?_)
 conv=>whnf
 have hs:=Kx hr.2
 have hcw:=hs.w
 have hck:=hs.k
 have hct:=hs.t
 have hcg:=hs.g
 have og:Eu .i64 r.2.2.graph.workers:=A7b hcg.1
 refine Ak (Ai d r.1 r.2.1 5 hr.1 Az) hH hp rfl B1 rfl rfl (fun r2 hr2=>go A0 false ?_)
 conv=>whnf
 have hk9:=hr2.2.2.2 Az
 have hk8:=hr2.2.1
 (repeat refine An ?_)
 refine C0 A0 false [11] (fun j:JRT=>[(7,.c (vi j.k))]) (fun j=>[⟨7,[.own 2,.c (vi j.x.graph.workers),.c (vi j.x.graph.cap),.own 3,.own 4,.own 5,.own 6]⟩,⟨1,[.c (.val d.v),.c (vi r2.1),.c (vi r2.2.1)]⟩,⟨0,[.c (.val (.slice none 0 0)),.c (vi 0),.c (vi 0),.c (.val (.slice none 0 0)),.c (.val (.slice none 0 0)),.c (.val (.slice none 0 0)),.c (.val (.slice none 0 0))]⟩]) (fun j=>[⟨2,Bn j.x.graph.nodes⟩,⟨3,Al j.x.workers⟩,⟨4,Cf j.x.links⟩,⟨5,Bo j.x.tokens⟩,⟨6,C5 j.x.news⟩]) (fun j=>j.k≤60∧j.x.w≤5000+28 * j.k∧M6 j.x∧Oa r.2.2 j.x) (fun j=>60-j.k) (⟨0,r.2.2⟩) (⟨Nat.zero_le _,hcw,A5o hr.2,S4 _⟩) ⟨G3,trivial⟩ Cg ⟨Ek,Ek,Ek,Ek,Ek,trivial⟩ Co A7 (fun j hj=>?_)
 conv=>whnf
 obtain ⟨hk,hw,hg,hL⟩:=hj
 have hxt:j.x.tokens.length=4:=hL.2.2.1.trans hct
 have hxk:0<j.x.workers.length:=by rw [hL.1];exact hck
 have hww:=Go.Sx.A3.worker_le (Nat.le_refl j.x.w) hxk
 refine ⟨fun h60=>?_,fun h60=>?_⟩<;>conv=>whnf
 ·have h60:j.k<60:=by have:=of_decide_eq_true h60;omega
  repeat refine Bd ?_
  refine At (Fc (r2.2.2-1) 0 3) rfl (goF 48 A0 false ?_)
  conv=>whnf
  repeat refine Bd ?_
  refine ⟨fun hE=>?_,fun hE=>?_⟩<;>conv=>whnf
  ·have hE2:=Go.Sx.Ah.1 hE
   repeat refine Bd ?_
   refine ⟨fun h1=>?_,fun h1=>?_⟩<;>conv=>whnf
   ·repeat refine Bd ?_
    refine ⟨fun h2=>?_,fun h2=>?_⟩<;>conv=>whnf
    ·repeat refine Bd ?_
     refine S9 A0 rfl rfl rfl rfl rfl (jn:=0) rfl (r:=Aa.c ((j.x.workers).getD (0) default)) rfl hxk rfl rfl (fun u=>go A0 false ?_)
     conv=>whnf
     repeat refine Bd ?_
     refine At (Mg (j.x.workers.getD 0 default) (r2.2.2-1) Ac) rfl (goF 5 A0 false ?_)
     conv=>whnf
     repeat refine Bd ?_
     refine ⟨fun h3=>?_,fun h3=>?_⟩<;>conv=>whnf
     ·refine A8 ?_
      repeat refine Bd ?_
      refine Ej Tryz.prog 3 (0) [(0,8),(1,9),(2,10),(3,11),(4,12),(5,13),(6,14),(7,15)] (Al j.x.workers) hxk rfl rfl G2 rfl (Ck rfl) ?_
      exact X6 A0 (j.x,r2.2.2-1) ⟨by show j.x.w≤7000;omega,hg⟩ rfl rfl B1
     refine goF 30 A0 false ?_
     conv=>whnf
     (repeat refine An ?_)
     refine Jp A0 rfl rfl rfl rfl rfl rfl (l:=[.c (vi 1),.c (vi ((j.k:Int).tmod 3)),.c (vi (0)),.c (vi 3),.c (vi ((j.k:Int).tmod 3)),.c (vi (0)),.c (vi 2),.c (vi ((j.k:Int).tmod 3)),.c (vi (0)),.c (vi 4),.c (vi ((j.k:Int).tmod 3)),.c (vi (((j.k:Int)+1).tmod 3)),.c (vi 4),.c (vi ((j.k:Int).tmod 3)),.c (vi (((j.k:Int)+2).tmod 3)),.c (vi 5),.c (vi ((j.k:Int).tmod 3)),.c (vi (((j.k:Int)+1).tmod 3)),.c (vi 6),.c (vi ((r2.2.2-1))),.c (vi (0))]) A7 (cs:=[vi 1,vi ((j.k:Int).tmod 3),vi (0),vi 3,vi ((j.k:Int).tmod 3),vi (0),vi 2,vi ((j.k:Int).tmod 3),vi (0),vi 4,vi ((j.k:Int).tmod 3),vi (((j.k:Int)+1).tmod 3),vi 4,vi ((j.k:Int).tmod 3),vi (((j.k:Int)+2).tmod 3),vi 5,vi ((j.k:Int).tmod 3),vi (((j.k:Int)+1).tmod 3),vi 6,vi ((r2.2.2-1)),vi (0)]) (ks:=[]) A7 A7 (A8 ?_)
     refine Fl 16 (Ez (Hf j.k (r2.2.2-1))) rfl (Bq rfl Cg) ?_
     refine A1x 3 (0) [(0,8),(1,9),(2,10),(3,11),(4,12),(5,13),(6,14),(7,15)] (Al j.x.workers) hxk rfl rfl G2 rfl (Ck rfl) ?_
     refine Cn (Jh j.x (Hf j.k (r2.2.2-1)) (by show j.x.w+4 * 7≤_;omega) (by rw [hL.2.2.2];exact og)) rfl (A8 ?_)
     have hrw:(Bg j.x (Hf j.k (r2.2.2-1))).1.w≤j.x.w+4 * 7:=Mc
     have hgx:=P7 (l:=Hf j.k (r2.2.2-1)) hg
     have hLx:=hL.trans (Jv j.x (Hf j.k (r2.2.2-1)))
     generalize Bg j.x (Hf j.k (r2.2.2-1))=X at *
     (repeat refine An ?_)
     refine B8 [(2,17),(3,18),(4,19),(5,20),(6,21)] (⟨j.k+1,X.1⟩) (⟨by show j.k+1≤60;omega,by show X.1.w≤5000+28 * (j.k+1);omega,hgx,hLx⟩) (by show 60-(j.k+1)<60-j.k;omega) ⟨rfl,trivial⟩ ⟨rfl,rfl,rfl,rfl,rfl,trivial⟩ Cg A7 Co A7
    repeat refine Bd ?_
    refine goF 25 A0 false ?_
    conv=>whnf
    (repeat refine An ?_)
    refine Jp A0 rfl rfl rfl rfl rfl rfl (l:=[.c (vi 1),.c (vi ((j.k:Int).tmod 3)),.c (vi (0)),.c (vi 3),.c (vi ((j.k:Int).tmod 3)),.c (vi (0)),.c (vi 2),.c (vi ((j.k:Int).tmod 3)),.c (vi (0)),.c (vi 4),.c (vi ((j.k:Int).tmod 3)),.c (vi (((j.k:Int)+1).tmod 3)),.c (vi 4),.c (vi ((j.k:Int).tmod 3)),.c (vi (((j.k:Int)+2).tmod 3)),.c (vi 5),.c (vi ((j.k:Int).tmod 3)),.c (vi (((j.k:Int)+1).tmod 3)),.c (vi 6),.c (vi ((r2.2.2-1))),.c (vi (0))]) A7 (cs:=[vi 1,vi ((j.k:Int).tmod 3),vi (0),vi 3,vi ((j.k:Int).tmod 3),vi (0),vi 2,vi ((j.k:Int).tmod 3),vi (0),vi 4,vi ((j.k:Int).tmod 3),vi (((j.k:Int)+1).tmod 3),vi 4,vi ((j.k:Int).tmod 3),vi (((j.k:Int)+2).tmod 3),vi 5,vi ((j.k:Int).tmod 3),vi (((j.k:Int)+1).tmod 3),vi 6,vi ((r2.2.2-1)),vi (0)]) (ks:=[]) A7 A7 (A8 ?_)
    refine Fl 8 (Ez (Hf j.k (r2.2.2-1))) rfl (Bq rfl Cg) ?_
    skip
    refine Cn (Jh j.x (Hf j.k (r2.2.2-1)) (by show j.x.w+4 * 7≤_;omega) (by rw [hL.2.2.2];exact og)) rfl (A8 ?_)
    have hrw:(Bg j.x (Hf j.k (r2.2.2-1))).1.w≤j.x.w+4 * 7:=Mc
    have hgx:=P7 (l:=Hf j.k (r2.2.2-1)) hg
    have hLx:=hL.trans (Jv j.x (Hf j.k (r2.2.2-1)))
    generalize Bg j.x (Hf j.k (r2.2.2-1))=X at *
    (repeat refine An ?_)
    refine B8 [(2,9),(3,10),(4,11),(5,12),(6,13)] (⟨j.k+1,X.1⟩) (⟨by show j.k+1≤60;omega,by show X.1.w≤5000+28 * (j.k+1);omega,hgx,hLx⟩) (by show 60-(j.k+1)<60-j.k;omega) ⟨rfl,trivial⟩ ⟨rfl,rfl,rfl,rfl,rfl,trivial⟩ Cg A7 Co A7
   repeat refine Bd ?_
   refine goF 18 A0 false ?_
   conv=>whnf
   (repeat refine An ?_)
   refine Jp A0 rfl rfl rfl rfl rfl rfl (l:=[.c (vi 1),.c (vi ((j.k:Int).tmod 3)),.c (vi (0)),.c (vi 3),.c (vi ((j.k:Int).tmod 3)),.c (vi (0)),.c (vi 2),.c (vi ((j.k:Int).tmod 3)),.c (vi (0)),.c (vi 4),.c (vi ((j.k:Int).tmod 3)),.c (vi (((j.k:Int)+1).tmod 3)),.c (vi 4),.c (vi ((j.k:Int).tmod 3)),.c (vi (((j.k:Int)+2).tmod 3)),.c (vi 5),.c (vi ((j.k:Int).tmod 3)),.c (vi (((j.k:Int)+1).tmod 3)),.c (vi 6),.c (vi ((r2.2.2-1))),.c (vi (0))]) A7 (cs:=[vi 1,vi ((j.k:Int).tmod 3),vi (0),vi 3,vi ((j.k:Int).tmod 3),vi (0),vi 2,vi ((j.k:Int).tmod 3),vi (0),vi 4,vi ((j.k:Int).tmod 3),vi (((j.k:Int)+1).tmod 3),vi 4,vi ((j.k:Int).tmod 3),vi (((j.k:Int)+2).tmod 3),vi 5,vi ((j.k:Int).tmod 3),vi (((j.k:Int)+1).tmod 3),vi 6,vi ((r2.2.2-1)),vi (0)]) (ks:=[]) A7 A7 (A8 ?_)
   refine Fl 8 (Ez (Hf j.k (r2.2.2-1))) rfl (Bq rfl Cg) ?_
   skip
   refine Cn (Jh j.x (Hf j.k (r2.2.2-1)) (by show j.x.w+4 * 7≤_;omega) (by rw [hL.2.2.2];exact og)) rfl (A8 ?_)
   have hrw:(Bg j.x (Hf j.k (r2.2.2-1))).1.w≤j.x.w+4 * 7:=Mc
   have hgx:=P7 (l:=Hf j.k (r2.2.2-1)) hg
   have hLx:=hL.trans (Jv j.x (Hf j.k (r2.2.2-1)))
   generalize Bg j.x (Hf j.k (r2.2.2-1))=X at *
   (repeat refine An ?_)
   refine B8 [(2,9),(3,10),(4,11),(5,12),(6,13)] (⟨j.k+1,X.1⟩) (⟨by show j.k+1≤60;omega,by show X.1.w≤5000+28 * (j.k+1);omega,hgx,hLx⟩) (by show 60-(j.k+1)<60-j.k;omega) ⟨rfl,trivial⟩ ⟨rfl,rfl,rfl,rfl,rfl,trivial⟩ Cg A7 Co A7
  repeat refine Bd ?_
  exact X6 A0 (j.x,r2.2.2-1) ⟨by show j.x.w≤7000;omega,hg⟩ rfl rfl B1
 repeat refine Bd ?_
 exact X6 A0 (j.x,r2.2.2-1) ⟨by show j.x.w≤7000;omega,hg⟩ rfl rfl B1
def E9 (w:Aa) (e:Int):Int:=w.sums.getD e.toNat default
def Ee (w:Aa) (e:Int):Bool:=w.black.getD e.toNat default
def G4 (w:Aa) (e:Int):Bool:=w.caps.getD e.toNat default
theorem Ou {l:List Ae}{e:Int}{r:Ae}:r∈Cp l e↔r∈l∧r.stamp.epoch=e:=by simp [Cp]
theorem Ey {w:Aa}{e:Int}:Ch w e=true↔(∀r∈w.inputs,e<r.stamp.epoch)∧(∀r∈w.queue,r.stamp.epoch≠e)∧(∀r∈w.staged,r.stamp.epoch≠e):=by
 have h1:Oy w e=true↔∃r∈w.inputs,r.stamp.epoch≤e:=by simp [Oy]
 have h2:∀l:List Ae,(Cp l e).length=0↔∀r∈l,r.stamp.epoch≠e:=fun l=>by
  rw [List.length_eq_zero_iff,List.eq_nil_iff_forall_not_mem]
  exact ⟨fun h r hr he=>h r (Ou.2 ⟨hr,he⟩),fun h r hr=>h r (Ou.1 hr).1 (Ou.1 hr).2⟩
 unfold Ch Rb
 by_cases ho:Oy w e=true
 ·rw [if_pos ho]
  obtain ⟨r,hr,hle⟩:=h1.1 ho
  constructor
  ·intro h;cases h
  rintro ⟨h,_⟩;have:=h r hr;omega
 rw [if_neg ho]
 have h3:∀r∈w.inputs,e<r.stamp.epoch:=fun r hr=>by
  by_cases hle:r.stamp.epoch≤e
  ·exact absurd (h1.2 ⟨r,hr,hle⟩) ho
  omega
 rw [beq_iff_eq]
 constructor
 ·intro h
  exact ⟨h3,(h2 _).1 Ac,(h2 _).1 Ac⟩
 rintro ⟨_,h4,h5⟩
 have:=(h2 _).2 h4
 have:=(h2 _).2 h5
 omega
def Fu (e:Int) (w w':Aa):Prop:=E9 w' e=E9 w e∧Ee w' e=Ee w e∧(G4 w e=true→G4 w' e=true)∧(Ch w e=true→Ch w' e=true∧G4 w' e=G4 w e)
theorem Fu.refl (e:Int)(w:Aa):Fu e w w:=⟨rfl,rfl,id,fun h=>⟨h,rfl⟩⟩
theorem Fu.trans {e:Int}{w w' w'':Aa}(h:Fu e w w')(h':Fu e w' w''):Fu e w w'':=
 ⟨h'.1.trans h.1,h'.2.1.trans h.2.1,fun hc=>h'.2.2.1 (h.2.2.1 hc),fun hp=>⟨(h'.2.2.2 (h.2.2.2 hp).1).1,(h'.2.2.2 (h.2.2.2 hp).1).2.trans (h.2.2.2 hp).2⟩⟩
theorem H3 {α:Type}(l:List α)(i j:Nat)(x d:α):(l.set j x).getD i d=if i=j∧j<l.length then x else l.getD i d:=by
 by_cases h:i=j
 ·subst h
  by_cases hl:i<l.length
  ·rw [if_pos ⟨rfl,hl⟩,Sx.getD_set_self _ _ _ _ hl]
  rw [if_neg (fun q=>hl q.2),List.set_eq_of_length_le Ac]
 rw [if_neg (fun q=>h q.1),Sx.getD_set_ne _ _ _ _ _ h]
theorem A29 {g:Aq}{r q:Ae}(h:q∈Lu g r):q.stamp.epoch=r.stamp.epoch:=by
 unfold Lu at h
 split at h
 ·simp at h
 rename_i hb
 obtain ⟨k,_,rfl⟩:=List.mem_map.1 h
 simp only
 split
 ·rename_i h7
  have:=Ox (s:=r.stamp) (by simpa [h7] using hb)
  rw [this.1]
 rfl
theorem A12 {g:Aq}{cs:List Bj}{r q:Ae}(h:q∈(F0 g cs r).2.1):q.stamp.epoch=r.stamp.epoch:=by
 unfold F0 at h
 (repeat' split at h)
 ·simp at h
 ·simp at h
 ·exact A29 h
 simp at h
theorem Pq {l:List Ae}{r:Ae}(h:r∈l.drop 1):r∈l:=List.mem_of_mem_drop h
theorem A2c {g:Aq}{w:Aa}{e:Int}(he:0≤e)(h:Oc g w):Fu e w (Hg g w):=by
 obtain ⟨_,hw,hs,hq⟩:=h
 have hr0:=hw.1.1 _ (Ay (d:=default) hq)
 have hcl:=hw.2.1.2.2
 have hce:(w.queue.getD 0 default).stamp.epoch≠e→G4 (Hg g w) e=G4 w e:=fun hne=>by
  unfold G4 Hg
  simp only
  split
  ·rw [H3,if_neg]
   rintro ⟨hi,_⟩
   have:=hr0.1.2.1
   omega
  rfl
 refine ⟨rfl,rfl,fun hc=>?_,fun hp=>?_⟩
 ·by_cases hne:(w.queue.getD 0 default).stamp.epoch=e
  ·unfold G4 Hg at *
   simp only
   split
   ·rw [hne,H3]
    split
    ·rfl
    exact hc
   exact hc
  rw [hce hne];exact hc
 obtain ⟨p1,p2,p3⟩:=Ey.1 hp
 have hne:(w.queue.getD 0 default).stamp.epoch≠e:=p2 _ (Ay hq)
 refine ⟨Ey.2 ⟨p1,fun r hr=>p2 r (Pq hr),fun r hr=>?_⟩,hce hne⟩
 rw [A12 hr]
 exact hne
theorem Ve {w:Aa}{e:Int}(h0:0<w.inputs.length):Fu e w (J7 w):=by
 refine ⟨rfl,rfl,id,fun hp=>⟨?_,rfl⟩⟩
 obtain ⟨p1,p2,p3⟩:=Ey.1 hp
 refine Ey.2 ⟨fun r hr=>p1 r (Pq hr),fun r hr=>?_,p3⟩
 rcases List.mem_append.1 hr with hr|hr
 ·exact p2 r hr
 rw [List.mem_singleton.1 hr]
 have:=p1 _ (Ay (d:=default) h0)
 omega
theorem Yl {w:Aa}{e:Int}:Fu e w (Dz w):=by
 refine ⟨rfl,rfl,id,fun hp=>⟨?_,rfl⟩⟩
 obtain ⟨p1,p2,p3⟩:=Ey.1 hp
 exact Ey.2 ⟨p1,p2,fun r hr=>p3 r (Pq hr)⟩
theorem A57 {w:Aa}{e:Int}{r:Ae}(h:r.stamp.epoch≠e):Fu e w (kept w r):=by
 refine ⟨rfl,rfl,id,fun hp=>⟨?_,rfl⟩⟩
 obtain ⟨p1,p2,p3⟩:=Ey.1 hp
 refine Ey.2 ⟨p1,fun q hq=>?_,p3⟩
 rcases List.mem_append.1 hq with hq|hq
 ·exact p2 q hq
 rw [List.mem_singleton.1 hq];exact h
theorem Wg {w:Aa}{e:Int}(h:0<w.staged.length):Fu e w (kept (Dz w) (w.staged.getD 0 default)):=by
 refine ⟨rfl,rfl,id,fun hp=>⟨?_,rfl⟩⟩
 obtain ⟨p1,p2,p3⟩:=Ey.1 hp
 refine Ey.2 ⟨p1,fun q hq=>?_,fun r hr=>p3 r (Pq hr)⟩
 rcases List.mem_append.1 hq with hq|hq
 ·exact p2 q hq
 rw [List.mem_singleton.1 hq];exact p3 _ (Ay h)
theorem Vn {w:Aa}{e e' k:Int}(h:0≤e)(h':0≤e')(hne:e'≠e):Fu e w (El w e' k):=by
 refine ⟨?_,rfl,id,fun hp=>⟨hp,rfl⟩⟩
 unfold E9 El
 simp only
 rw [H3,if_neg]
 rintro ⟨h1,_⟩
 omega
theorem A0n {w:Aa}{e e':Int}(h:0≤e)(h':0≤e')(hne:e'≠e):Fu e w (Gy w e'):=by
 refine ⟨rfl,?_,id,fun hp=>⟨hp,rfl⟩⟩
 unfold Ee Gy
 simp only
 rw [H3,if_neg]
 rintro ⟨h1,_⟩
 omega
theorem Sm {w:Aa}{e e':Int}(h:0≤e)(h':0≤e')(hne:e'≠e):Fu e w (Ef w e'):=by
 refine ⟨rfl,?_,id,fun hp=>⟨hp,rfl⟩⟩
 unfold Ee Ef
 simp only
 rw [H3,if_neg]
 rintro ⟨h1,_⟩
 omega
theorem Oj {w:Aa}{e:Int}{d:Dn}:Fu e w (Ct w d):=⟨rfl,rfl,id,fun hp=>⟨hp,rfl⟩⟩
end Go.Proofs.YtdendlkeiaccpaaGreatDoor
