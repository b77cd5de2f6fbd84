/- Part 34 of the proof that each of the laws FnTold returns true for every input. No conditions. -/
import Derived.Test.YtdendlkeiaccpaaGreatDoorP33
import Derived.Test.YtdendlkeiaccpaaGreatDoorP3
import Derived.Test.YtdendlkeiaccpaaGreatDoorP6
import Derived.Shelf.Strconv.Itoa3
import Derived.Test.YtdendlkeiaccpaaGreatDoorP13

set_option linter.unusedSimpArgs false
set_option linter.unusedVariables false
set_option maxRecDepth 100000
namespace Go.Proofs.YtdendlkeiaccpaaGreatDoor
open Go.Sx
theorem B2w (d:Dx)(i h:Int)(hi:0≤i∧i≤d.n):Cw Tryz.prog HT 71 d.pins (d.cur i h) [] (fun r:Int×Int×Ag=>(0≤r.1∧r.1≤d.n)∧r.2.2.ok) (fun r=>d.cur r.1 r.2.1) (fun r=>[.agg r.2.2.c]):=by
 refine Dn A0 false Tryz.func71 rfl Aw fun B b hH hp=>?_
 conv=>whnf
 refine Aj (Ai d i h 3 hi Aw) hH hp rfl Ay rfl rfl (fun r hr=>go A0 false ?_)
 conv=>whnf
 refine Aj (Ai d r.1 r.2.1 2 hr.1 Aw) hH hp rfl Ay rfl rfl (fun r2 hr2=>go A0 false ?_)
 conv=>whnf
 refine Aj (Ai d r2.1 r2.2.1 4 hr2.1 Aw) hH hp rfl Ay rfl rfl (fun r3 hr3=>go A0 false ?_)
 conv=>whnf
 refine Aj (Ai d r3.1 r3.2.1 5 hr3.1 Aw) hH hp rfl Ay rfl rfl (fun r4 hr4=>go A0 false ?_)
 conv=>whnf
 have k1:=hr.2.2.2 Aw
 have k2:=hr.2.1
 have k3:=hr2.2.2.2 Aw
 have k4:=hr2.2.1
 have k5:=hr3.2.2.2 Aw
 have k6:=hr3.2.1
 have k7:=hr4.2.2.2 Aw
 have k8:=hr4.2.1
 exact Bl A0 (r4.1,r4.2.1,⟨r.2.2,r2.2.2,r3.2.2,r4.2.2⟩) ⟨hr4.1,E6 (by show _≤r.2.2;omega) (by show r.2.2≤_;omega),E6 (by show _≤r2.2.2;omega) (by show r2.2.2≤_;omega),E6 (by show _≤r3.2.2;omega) (by show r3.2.2≤_;omega),E6 (by show _≤r4.2.2;omega) (by show r4.2.2≤_;omega)⟩ rfl rfl rfl rfl Ay
theorem B5d (d:Dx):Jb Tryz.prog HT 70 d.pins [] [.one (.val d.v)] (fun r:A5×Int×Int=>Yd r.1) (fun r=>[.agg r.1.c,.one (vi r.2.1),.one (vi r.2.2)]):=by
 refine N5 A0 false Tryz.func70 rfl Aw fun B hH hp=>?_
 conv=>whnf
 refine X7 (Yr d) hp rfl (fun h0 _=>go A0 false ?_)
 conv=>whnf
 refine Aj (A3c d 0 h0 ⟨Int.le_refl _,Int.natCast_nonneg _⟩) hH hp rfl Ay rfl rfl (fun r hr=>go A0 false ?_)
 conv=>whnf
 refine Ev 7 (At [0,0,1,2,3,-1]) rfl (Bd rfl Cf) ?_
 refine Aj (Cn d r.1 r.2.1 [0,0,1,2,3,-1] hr.1 Aw) hH hp rfl Ay rfl rfl (fun r2 hr2=>go A0 false ?_)
 conv=>whnf
 refine Ev 8 (At [1,1,0,2,3,-1]) rfl (Bd rfl Cf) ?_
 refine Aj (Cn d r2.1 r2.2.1 [1,1,0,2,3,-1] hr2.1 Aw) hH hp rfl Ay rfl rfl (fun r3 hr3=>go A0 false ?_)
 conv=>whnf
 exact Vc A0 (r.2.2,[0,0,1,2,3,-1].getD r2.2.2 0,[1,1,0,2,3,-1].getD r3.2.2 0) hr.2 rfl rfl Ay
theorem B5f (d:Dx):Jb Tryz.prog HT 26 d.pins [] [.one (.val d.v)] (fun r:A5×Int=>Yd r.1) (fun r=>[.agg r.1.c,.one (vi r.2)]):=by
 refine N5 A0 false Tryz.func26 rfl Aw fun B hH hp=>?_
 conv=>whnf
 refine P2 (B5b d) hH hp rfl (fun r hr=>go A0 false ?_)
 conv=>whnf
 exact Vc A0 r hr rfl rfl Ay
theorem B5c (d:Dx):Jb Tryz.prog HT 27 d.pins [] [.one (.val d.v)] (fun r:A5×Int×Int=>Yd r.1) (fun r=>[.agg r.1.c,.one (vi r.2.1),.one (vi r.2.2)]):=by
 refine N5 A0 false Tryz.func27 rfl Aw fun B hH hp=>?_
 conv=>whnf
 refine P2 (B5d d) hH hp rfl (fun r hr=>go A0 false ?_)
 conv=>whnf
 exact Vc A0 r hr rfl rfl Ay
theorem A9i (d:Dx):Jb Tryz.prog HT 28 d.pins [] [.one (.val d.v)] (fun r:Ag=>r.ok) (fun r=>[.agg r.c]):=by
 refine N5 A0 false Tryz.func28 rfl Aw fun B hH hp=>?_
 conv=>whnf
 refine X7 (Yr d) hp rfl (fun h0 _=>go A0 false ?_)
 conv=>whnf
 refine Aj (B2w d 0 h0 ⟨Int.le_refl _,Int.natCast_nonneg _⟩) hH hp rfl Ay rfl rfl (fun r hr=>go A0 false ?_)
 conv=>whnf
 exact Vc A0 r.2.2 hr.2 rfl rfl Ay
set_option maxHeartbeats 2000000 in
theorem B5a (d:Dx):Jb Tryz.prog HT 72 d.pins [] [.one (.val d.v)] (fun r:A5=>A8l r) (fun r=>[.agg r.c]):=by
 refine N5 A0 false Tryz.func72 rfl Aw fun B hH hp=>?_
 conv=>whnf
 refine X7 (Yr d) hp rfl (fun h0 _=>go A0 false ?_)
 conv=>whnf
 refine Aj (A3c d 0 h0 ⟨Int.le_refl _,Int.natCast_nonneg _⟩) hH hp rfl Ay rfl rfl (fun r hr=>go A0 false ?_)
 conv=>whnf
 have hrw:=hr.2.1
 refine Aj (Q7 d r.1 r.2.1 2 hr.1 Aw) hH hp rfl Ay rfl rfl (fun r1 hr1=>go A0 false ?_)
 conv=>whnf
 refine ⟨fun c0=>?_,fun c0=>?_⟩<;>conv=>whnf
 ·refine Cq (Nq r.2.2 300 Ab hr.2.2.1.2.1) rfl (A8 ?_)
  exact Vc A0 (Dt (Em 300 0 3000).toNat r.2.2).1 (A80 _ Aw hr.2) rfl rfl Ay
 repeat refine Bj ?_
 exact Vc A0 r.2.2 (B2o hr.2) rfl rfl Ay
theorem B5e (d:Dx):Jb Tryz.prog HT 29 d.pins [] [.one (.val d.v)] (fun r:A5=>A8l r) (fun r=>[.agg r.c]):=by
 refine N5 A0 false Tryz.func29 rfl Aw fun B hH hp=>?_
 conv=>whnf
 refine P2 (B5a d) hH hp rfl (fun r hr=>go A0 false ?_)
 conv=>whnf
 exact Vc A0 r hr rfl rfl Ay
def A1m:Go.Shelf.Ren:=⟨fun| 171=>93| 243=>132| 246=>171| 283=>196| 284=>197| 285=>198| 286=>199| 129=>211| 317=>210| 318=>212| 319=>213| 320=>214| 337=>218| 338=>219|n=>n,fun| 3=>3| 9=>9| 2=>2| 4=>4| 171=>198| 0=>0| 53=>199| 37=>22| 5=>5| 173=>202| 212=>214| 51=>215| 20=>20| 213=>216| 46=>131| 232=>221| 233=>222|n=>n,fun| 17=>0| 18=>2| 19=>3|n=>n⟩
theorem B3a:Go.Proofs.LaysM.n171 Tryz.prog A1m:= {
 mixed:=by kernel_rfl,
 f129:=Tryz.func211.trans (congrArg some A7),
 f171:=Tryz.func93.trans (congrArg some A7),
 f243:=Tryz.func132.trans (congrArg some A7),
 f246:=Tryz.func171.trans (congrArg some A7),
 f283:=Tryz.func196.trans (congrArg some A7),
 f284:=Tryz.func197.trans (congrArg some A7),
 f285:=Tryz.func198.trans (congrArg some A7),
 f286:=Tryz.func199.trans (congrArg some A7),
 f317:=Tryz.func210.trans (congrArg some A7),
 f318:=Tryz.func212.trans (congrArg some A7),
 f319:=Tryz.func213.trans (congrArg some A7),
 f320:=Tryz.func214.trans (congrArg some A7),
 f337:=Tryz.func218.trans (congrArg some A7),
 f338:=Tryz.func219.trans (congrArg some A7),
 t0:=Tryz.underlying0,
 a0:=Tryz.isAgg0,
 z0:=Tryz.sizeOf0,
 v0:=Tryz.zeroValue0,
 t2:=Tryz.underlying2,
 a2:=Tryz.isAgg2,
 z2:=Tryz.sizeOf2,
 v2:=Tryz.zeroValue2,
 t3:=Tryz.underlying3,
 a3:=Tryz.isAgg3,
 z3:=Tryz.sizeOf3,
 v3:=Tryz.zeroValue3,
 t4:=Tryz.underlying4,
 a4:=Tryz.isAgg4,
 z4:=Tryz.sizeOf4,
 v4:=Tryz.zeroValue4,
 t5:=Tryz.underlying5,
 a5:=Tryz.isAgg5,
 z5:=Tryz.sizeOf5,
 v5:=Tryz.zeroValue5,
 t9:=Tryz.underlying9,
 a9:=Tryz.isAgg9,
 z9:=Tryz.sizeOf9,
 v9:=Tryz.zeroValue9,
 t20:=Tryz.underlying20,
 a20:=Tryz.isAgg20,
 z20:=Tryz.sizeOf20,
 v20:=Tryz.zeroValue20,
 t37:=Tryz.underlying22,
 a37:=Tryz.isAgg22,
 z37:=Tryz.sizeOf22,
 v37:=Tryz.zeroValue22,
 t46:=Tryz.underlying131,
 a46:=Tryz.isAgg131,
 z46:=Tryz.sizeOf131,
 v46:=Tryz.zeroValue131,
 t51:=Tryz.underlying215,
 a51:=Tryz.isAgg215,
 z51:=Tryz.sizeOf215,
 v51:=Tryz.zeroValue215,
 t53:=Tryz.underlying199,
 a53:=Tryz.isAgg199,
 z53:=Tryz.sizeOf199,
 v53:=Tryz.zeroValue199,
 t171:=Tryz.underlying198,
 a171:=Tryz.isAgg198,
 z171:=Tryz.sizeOf198,
 v171:=Tryz.zeroValue198,
 t173:=Tryz.underlying202,
 a173:=Tryz.isAgg202,
 z173:=Tryz.sizeOf202,
 v173:=Tryz.zeroValue202,
 t212:=Tryz.underlying214,
 a212:=Tryz.isAgg214,
 z212:=Tryz.sizeOf214,
 v212:=Tryz.zeroValue214,
 t213:=Tryz.underlying216,
 a213:=Tryz.isAgg216,
 z213:=Tryz.sizeOf216,
 t232:=Tryz.underlying221,
 a232:=Tryz.isAgg221,
 z232:=Tryz.sizeOf221,
 v232:=Tryz.zeroValue221,
 t233:=Tryz.underlying222,
 a233:=Tryz.isAgg222,
 z233:=Tryz.sizeOf222,
 v233:=Tryz.zeroValue222,
 g17:=by kernel_rfl,
 g18:=by kernel_rfl,
 g19:=by kernel_rfl,
 i0:=by kernel_rfl,
 i2:=by kernel_rfl,
 i3:=by kernel_rfl,
 i4:=by kernel_rfl,
 i5:=by kernel_rfl,
 i9:=by kernel_rfl,
 i20:=by kernel_rfl,
 i37:=by kernel_rfl,
 i46:=by kernel_rfl,
 i51:=by kernel_rfl,
 i53:=by kernel_rfl,
 i171:=by kernel_rfl,
 i173:=by kernel_rfl,
 i212:=by kernel_rfl,
 i232:=by kernel_rfl,
 i233:=by kernel_rfl,
 m17:=by kernel_rfl,
 m18:=by kernel_rfl,
 m19:=by kernel_rfl}
def Tab (w:World):Prop:=Lib.TabIs Tryz.prog w "internal/strconv.uint64pow10" .u64 Lib.pow10Tab
theorem Dk:A0p Tab:=fun _ _ hb h=>A8d hb h
theorem B6n (n:Int)(h:Ee .i64 n):G2 Tryz.prog Tab 93 [.one (vi n)] [.one (vs (P7 n))]:=by
 refine ⟨⟨_,Tryz.func93,by decide,rfl⟩,fun w hw vs hl hv=>?_⟩
 match vs,hl with
 | [v],_=>
  have h0:v= .int .i64 n:=Zp (A:=fun _=>False) (hv 0 _ rfl)
  subst h0
  refine (Any.strconv_Itoa B3a n h.1 h.2 w hw).mono ?_
  rintro e w' ⟨rfl,k,os,rfl⟩
  exact Ny (A27 _ _ _) rfl
theorem E9 (n:Int)(h:Ee .i64 n):G2 Tryz.prog Tab 59 [.one (vi n)] [.one (vs (P7 n))]:=by
 refine Kw A0 false Tryz.func59 rfl Aw fun W hW=>?_
 conv=>whnf
 refine F0 (B6n n h) Dk hW rfl (A8 ?_)
 exact B3 A0 rfl rfl ⟨rfl,trivial⟩
theorem A9t (z:Int)(d:Nat)(hz:z=d)(h:d<10):Bo Tryz.prog 94 [.one (vi z)] [.one (vy (UInt8.ofNat (48+d)))]:=by
 refine Bh A0 false Tryz.func94 rfl Aw fun W=>?_
 conv=>whnf
 refine Fi (fun h'=>?_) fun h'=>?_<;>conv=>whnf
 ·(repeat refine An ?_)
  exact B3 A0 rfl rfl ⟨congrArg Ac.val (congrArg (Value.int .u8) (by rw [hz,UInt8.toNat_ofNat'];omega)),trivial⟩
 omega
theorem Vn (σ:Int)(hσ:σ=1∨σ= -1)(u:Nat)(hu:0<u)(hb:u≤9223372036854775808)(hn:Ee .i64 (σ * u)):Bo Tryz.prog 60 [.one (vi (σ * u))] [.one (vs (P7 (σ * u)))]:=by
 have hd0:=A60 hu
 refine Bh A0 false Tryz.func60 rfl Aw fun W=>?_
 conv=>whnf
 refine ⟨fun h0=>have h0:=eq_of_beq h0;?_,fun h0=>have h0:=beq_eq_false_iff_ne.1 h0;?_⟩<;>conv=>whnf
 ·exfalso;rcases hσ with rfl|rfl<;>omega
 refine C0 A0 false [] (fun k:Nat=>[(0,.c (vi (σ * Hj u k))),(4,.c (vs ⟨(Wl u k).toArray⟩))]) (fun k=>[]) (fun k=>[])
  (fun k=>k≤19∧B2f u k) (fun k=>19-k) 0 ⟨Nat.zero_le _,by first|rfl|assumption|simp⟩ ⟨G9,G9,trivial⟩ trivial trivial Cr A7 (fun k hk=>?_)
 obtain ⟨hk,he⟩:=hk
 conv=>whnf
 refine ⟨fun hq=>have hq:=bne_iff_ne.1 hq;?_,fun hq=>have hq:=bne_eq_false_iff_eq.1 hq;?_⟩<;>conv=>whnf
 ·have hm:0<Hj u k:=by
   by_cases h:0<Hj u k
   ·exact h
   exfalso;apply hq;rw [show Hj u k=0 by omega];simp
  have hk':=B5p hb hm
  have hr:=B53 hσ (Hj u k)
  have hdv:=B52 hσ (Hj u k)
  have ho:=hn.1
  have ho:=hn.2
  have hss:=A2j u k
  have hle:=B3n u k
  have hmm:=Nat.mod_lt (Hj u k) (show 10>0 by decide)
  (repeat refine An ?_)
  refine Fi (fun hneg=>?_) fun hneg=>?_<;>conv=>whnf
  ·refine ⟨by (show _∧_;rcases hσ with rfl|rfl<;>omega),?_⟩
   conv=>whnf
   refine B5 (A9t (0-((σ * Hj u k).tmod 10)) (Hj u k % 10) (by rcases hσ with rfl|rfl<;>omega) hmm) rfl (A8 ?_)
   refine Ed 0 (Sp [UInt8.ofNat (48+Hj u k % 10)]) rfl (A0x rfl) ?_
   refine B66 A0 rfl rfl rfl rfl rfl rfl rfl rfl rfl [UInt8.ofNat (48+Hj u k % 10)] rfl (A8 ?_)
   (repeat refine An ?_)
   refine ⟨by (show _∧_;rw [hdv];rcases hσ with rfl|rfl<;>omega),?_⟩
   conv=>whnf
   refine B9 [] (k+1) ⟨by omega,Xa he hm⟩ Ab ⟨congrArg (fun z=>AV.c (vi z)) hdv,congrArg (fun z=>AV.c (vs z)) (Yl _ _),trivial⟩ trivial trivial A7 Cr A7
  refine B5 (A9t ((σ * Hj u k).tmod 10) (Hj u k % 10) (by rcases hσ with rfl|rfl<;>omega) hmm) rfl (A8 ?_)
  refine Ed 0 (Sp [UInt8.ofNat (48+Hj u k % 10)]) rfl (A0x rfl) ?_
  refine B66 A0 rfl rfl rfl rfl rfl rfl rfl rfl rfl [UInt8.ofNat (48+Hj u k % 10)] rfl (A8 ?_)
  (repeat refine An ?_)
  refine ⟨by (show _∧_;rw [hdv];rcases hσ with rfl|rfl<;>omega),?_⟩
  conv=>whnf
  refine B9 [] (k+1) ⟨by omega,Xa he hm⟩ Ab ⟨congrArg (fun z=>AV.c (vi z)) hdv,congrArg (fun z=>AV.c (vs z)) (Yl _ _),trivial⟩ trivial trivial A7 Cr A7
 have hm:Hj u k=0:=by rcases hσ with rfl|rfl<;>omega
 have hd:Lib.decDigits u=Wl u k:=by
  rcases he with ⟨h,_⟩|⟨_,h⟩
  ·omega
  exact h
 have hss:=A2j u k
 refine ⟨fun hb'=>?_,fun hb'=>?_⟩<;>conv=>whnf
 ·(repeat refine An ?_)
  refine B3 A0 rfl rfl ⟨?_,trivial⟩
  have hs:σ * (u:Int)<0:=of_decide_eq_true hb'
  exact congrArg vs (by rw [P7,Lib.itoa,if_pos hs,←hd,show (σ * (u:Int)).natAbs=u by rcases hσ with rfl|rfl<;>omega];exact Yl _ _)
 refine B3 A0 rfl rfl ⟨?_,trivial⟩
 have hs:¬ σ * (u:Int)<0:=of_decide_eq_false hb'
 exact congrArg vs (by rw [P7,Lib.itoa,if_neg hs,←hd,show (σ * (u:Int)).toNat=u by rcases hσ with rfl|rfl<;>omega])
theorem Eb (n:Int)(h:Ee .i64 n):Bo Tryz.prog 60 [.one (vi n)] [.one (vs (P7 n))]:=by
 rcases Int.lt_trichotomy n 0 with h0|rfl|h0
 ·have e:n=(-1) * ((n.natAbs:Nat):Int):=by omega
  have:=Vn (-1) (.inr rfl) n.natAbs Ab (by have:=h.1;omega) (by rw [←e];exact h)
  rwa [←e] at this
 ·refine Bh A0 false Tryz.func60 rfl Aw fun W=>?_
  conv=>whnf
  refine ⟨fun h0=>have h0:=eq_of_beq h0;?_,fun h0=>have h0:=beq_eq_false_iff_ne.1 h0;?_⟩<;>conv=>whnf
  ·exact B3 A0 rfl rfl ⟨congrArg vs (by rw [P7,Lib.itoa,if_neg Aw,Lib.decDigits,dif_pos Aw];rfl),trivial⟩
  exact absurd rfl h0
 have e:n=1 * ((n.natAbs:Nat):Int):=by omega
 have:=Vn 1 (.inl rfl) n.natAbs Ab (by have:=h.2;omega) (by rw [←e];exact h)
 rwa [←e] at this
def G3 (x:Ag):ByteArray:=P7 x.epoch++(⟨#[32]⟩:ByteArray)++P7 x.op++(⟨#[32]⟩:ByteArray)++P7 x.key++(⟨#[32]⟩:ByteArray)++P7 x.val
theorem Qz (x:Ag)(o:x.ok):Bo Tryz.prog 37 [.agg x.c] [.one (vs (G3 x))]:=by
 obtain ⟨o1,o2,o3,o4⟩:=o
 have d1:=D7 o1
 have d2:=D7 o2
 have d3:=D7 o3
 have d4:=D7 o4
 refine Bh A0 false Tryz.func37 rfl Aw fun W=>?_
 conv=>whnf
 repeat' (first|(refine L6 ?_;conv=>whnf)|(refine L7 ?_;conv=>whnf)|(refine ⟨fun h=>?_,fun h=>?_⟩<;>conv=>whnf)|(refine B5 (Eb _ o1) rfl (A8 ?_))|(refine B5 (Eb _ o2) rfl (A8 ?_))|(refine B5 (Eb _ o3) rfl (A8 ?_))|(refine B5 (Eb _ o4) rfl (A8 ?_))|(refine Gx ?_;conv=>whnf)|(refine B7 1 rfl [0,1,4,5,9,10,14,15,2,3,6,7,8,11,12,13,16,17,18] A7 (A8 ?_))|fail)
 exact B3 A0 rfl rfl ⟨rfl,trivial⟩
theorem Lz (x:Ag)(o:x.ok):G2 Tryz.prog Tab 36 [.agg x.c] [.one (vs (G3 x))]:=by
 obtain ⟨o1,o2,o3,o4⟩:=o
 have d1:=D7 o1
 have d2:=D7 o2
 have d3:=D7 o3
 have d4:=D7 o4
 refine Kw A0 false Tryz.func36 rfl Aw fun W hW=>?_
 conv=>whnf
 repeat' (first|(refine L6 ?_;conv=>whnf)|(refine L7 ?_;conv=>whnf)|(refine ⟨fun h=>?_,fun h=>?_⟩<;>conv=>whnf)|(refine F0 (E9 _ o1) Dk hW rfl (A8 ?_))|(refine F0 (E9 _ o2) Dk hW rfl (A8 ?_))|(refine F0 (E9 _ o3) Dk hW rfl (A8 ?_))|(refine F0 (E9 _ o4) Dk hW rfl (A8 ?_))|(refine Gx ?_;conv=>whnf)|(refine B7 1 rfl [0,1,4,5,9,10,14,15,2,3,6,7,8,11,12,13,16,17,18] A7 (A8 ?_))|fail)
 exact B3 A0 rfl rfl ⟨rfl,trivial⟩
theorem B0s {l:List Ag}{x y:Ag}(h:y∈Cs l x):y∈l∨y=x:=by
 unfold Cs at h
 split at h
 ·exact .inl h
 rcases List.mem_append.1 h with h|h
 ·exact .inl (List.mem_of_mem_take h)
 rcases List.mem_cons.1 h with h|h
 ·exact .inr h
 exact .inl (List.mem_of_mem_drop h)
theorem A1s {cs:List Ag}{y:Ag}:∀{l:List Ag},y∈cs.foldl Cs l→y∈l∨y∈cs:=by
 induction cs with
 |nil=>intro l h;exact .inl h
 |cons c r ih=>
  intro l h
  rcases ih h with h|h
  ·rcases B0s h with h|h
   ·exact .inl h
   exact .inr (by rw [h];exact List.mem_cons_self)
  exact .inr (List.mem_cons_of_mem _ h)
theorem B3m {ws:List A9}{y:Ag}:∀{l:List Ag},y∈ws.foldl (fun l w=>w.cells.foldl Cs l) l→y∈l∨∃w∈ws,y∈w.cells:=by
 induction ws with
 |nil=>intro l h;exact .inl h
 |cons c r ih=>
  intro l h
  rcases ih h with h|⟨w,hw,h⟩
  ·rcases A1s h with h|h
   ·exact .inl h
   exact .inr ⟨c,List.mem_cons_self,h⟩
  exact .inr ⟨w,List.mem_cons_of_mem _ hw,h⟩
theorem Sg {x:A5}(ox:x.ok){e:Int}{y:Ag}(h:y∈Df x e):y.ok:=by
 have h1:y∈D9 x:=(List.mem_filter.1 (List.mem_filter.1 h).1).1
 rcases B3m h1 with h1|⟨w,hw,h1⟩
 ·cases h1
 exact (ox.2.1.2 w hw).2.2.2.1.2 y h1
def Qr (x:A5) (k:Nat):List ByteArray:=(List.range k).flatMap fun (e:Nat)=>(Df x e).map G3
def Ic (x:A5):List ByteArray:=Qr x 4
theorem Xw (x:A5)(k:Nat):Qr x (k+1)=Qr x k++(Df x k).map G3:=by
 rw [Qr,List.range_succ,List.flatMap_append]
 simp [Qr]
theorem A3g (l:List Ag)(k:Nat):((List.range k).map fun (e:Nat)=>(l.filter (fun y=>y.epoch==(e:Int))).length).sum≤(l.filter (fun y=>decide (0≤y.epoch∧y.epoch<(k:Int)))).length:=by
 induction k with
 |zero=>simp
 |succ k ih=>
  rw [List.range_succ,List.map_append,List.sum_append]
  simp only [List.map_cons,List.map_nil,List.sum_cons,List.sum_nil,Nat.add_zero]
  have e:(l.filter (fun y=>decide (0≤y.epoch∧y.epoch<(k:Int)))).length+(l.filter (fun y=>y.epoch==(k:Int))).length≤(l.filter (fun y=>decide (0≤y.epoch∧y.epoch<((k+1:Nat):Int)))).length:=by
   clear ih
   induction l with
   |nil=>simp
   |cons y r ih=>
    simp only [List.filter_cons]
    by_cases h1:0≤y.epoch∧y.epoch<(k:Int)
    ·rw [if_pos (by simpa using h1),if_neg (by simp;omega),if_pos (by simp;omega)]
     simp only [List.length_cons]
     omega
    by_cases h2:y.epoch=(k:Int)
    ·rw [if_neg (by simpa using h1),if_pos (by simpa using h2),if_pos (by simp;omega)]
     simp only [List.length_cons]
     omega
    rw [if_neg (by simpa using h1),if_neg (by simpa using h2),if_neg (by simp;omega)]
    exact ih
  omega
theorem Ux (x:A5)(k:Nat):(Qr x k).length≤(D9 x).length:=by
 rw [Qr,List.length_flatMap]
 have h1:=A3g (Dg x.graph (D9 x)) k
 have h2:=List.length_filter_le (fun y:Ag=>decide (0≤y.epoch∧y.epoch<(k:Int))) (Dg x.graph (D9 x))
 have h3:=Jm (g:=x.graph) (Nat.le_refl (D9 x).length)
 simp only [List.length_map]
 have e:((List.range k).map fun (e:Nat)=>(Df x e).length)=((List.range k).map fun (e:Nat)=>((Dg x.graph (D9 x)).filter (fun y=>y.epoch==(e:Int))).length):=rfl
 rw [e]
 omega
theorem Qq {x:A5}{n:Nat}(h:x.w≤n)(e:Int):(Df x e).length≤n:=Nat.le_trans (List.length_filter_le _ _) (Jm (J6 h))
theorem Qm {α β:Type} [Inhabited α] (f:α→β){l:List α}{k:Nat}(hk:k<l.length):(l.take (k+1)).map f=(l.take k).map f++[f (l.getD k default)]:=by
 rw [List.take_succ_eq_append_getElem hk,List.map_append]
 simp [List.getD,hk]
set_option maxHeartbeats 1000000 in
theorem R1 (x:A5)(ox:x.ok)(hx:x.w≤1040000):Bo Tryz.prog 40 [.agg x.c] [.one (G0 (Ic x))]:=by
 have hc:=J6 hx
 refine Bh A0 false Tryz.func40 rfl Aw fun W=>?_
 conv=>whnf
 refine Ed 1 (G0 []) rfl De ?_
 refine C0 A0 false [5,6,7] (fun k:Nat=>[(4,.c (vi k))]) (fun k=>[⟨0,[.c (Bp x.graph.nodes),.c (vi x.graph.workers),.c (vi x.graph.cap),.c (Av x.workers),.c (Cy x.links),.c (C9 x.tokens),.c (Cj x.news)]⟩]) (fun k=>[⟨1,G0 (Qr x k)⟩])
  (fun k=>k≤4) (fun k=>4-k) 0 (Nat.zero_le _) ⟨G9,trivial⟩ Cf ⟨Eu,trivial⟩ Cr A7 (fun k hk=>?_)
 conv=>whnf
 conv=>whnf
 refine ⟨fun h=>?_,fun h=>?_⟩<;>conv=>whnf
 ·have h:k<4:=by have:=of_decide_eq_true h;omega
  have h1:=Ux x k
  have h2:=Qq hx k
  refine Cq (Zv x k Ab) rfl (A8 ?_)
  refine C0 A0 false [] (fun j:Nat=>[(6,.c (vi j))]) (fun j=>[⟨0,[.c (Bp x.graph.nodes),.c (vi x.graph.workers),.c (vi x.graph.cap),.c (Av x.workers),.c (Cy x.links),.c (C9 x.tokens),.c (Cj x.news)]⟩]) (fun j=>[⟨2,Ak (Df x k)⟩,⟨1,G0 (Qr x k++((Df x k).take j).map G3)⟩])
   (fun j=>j≤(Df x k).length) (fun j=>(Df x k).length-j) 0 (Nat.zero_le _) ⟨G9,trivial⟩ Cf ⟨Eu,Eu,trivial⟩ Cr A7 (fun j hj=>?_)
  conv=>whnf
  conv=>whnf
  refine Fi (fun h'=>?_) fun h'=>?_<;>conv=>whnf
  ·have h':j<(Df x k).length:=by omega
   have h3:(((Df x k).take j).map G3).length≤j:=by rw [List.length_map,List.length_take];omega
   (repeat refine An ?_)
   refine B5 (Qz ((Df x k).getD j default) (Sg ox (B8 h'))) rfl (A8 ?_)
   refine B1 A0 rfl rfl rfl rfl rfl rfl rfl rfl rfl rfl rfl (G0 (Qr x k++((Df x k).take j).map G3++[G3 ((Df x k).getD j default)])) (Aa rfl) Bg (by (rw [List.length_append];omega)) (A8 ?_)
   (repeat refine An ?_)
   refine B9 [(1,4)] (j+1) Ab Ab ⟨rfl,trivial⟩ ⟨rfl,congrArg G0 (by rw [Qm _ h',←List.append_assoc]),trivial⟩ Cf A7 Cr A7
  (repeat refine An ?_)
  refine B9 [] (k+1) Ab Ab ⟨rfl,trivial⟩ ⟨congrArg G0 (by rw [Xw,List.take_of_length_le Ab]),trivial⟩ Cf A7 Cr A7
 have h:¬ k<4:=by have:=of_decide_eq_false h;omega
 obtain rfl:k=4:=by omega
 repeat refine Bj ?_
 refine B3 A0 rfl rfl ?_
 exact Ay
set_option maxHeartbeats 1000000 in
theorem Qh (x:A5)(ox:x.ok)(hx:x.w≤1040000):G2 Tryz.prog Tab 31 [.agg x.c] [.one (G0 (Ic x))]:=by
 have hc:=J6 hx
 refine Kw A0 false Tryz.func31 rfl Aw fun W hW=>?_
 conv=>whnf
 refine A7o 3 1 (fun i=>[vs (([]:List ByteArray).getD i default)]) rfl ?_
 refine C0 A0 false [] (fun k:Nat=>[(4,.c (vi k))]) (fun k=>[⟨0,[.c (Bp x.graph.nodes),.c (vi x.graph.workers),.c (vi x.graph.cap),.c (Av x.workers),.c (Cy x.links),.c (C9 x.tokens),.c (Cj x.news)]⟩]) (fun k=>[⟨1,G0 (Qr x k)⟩])
  (fun k=>k≤4) (fun k=>4-k) 0 (Nat.zero_le _) ⟨G9,trivial⟩ Cf ⟨Eu,trivial⟩ Cr A7 (fun k hk=>?_)
 conv=>whnf
 conv=>whnf
 refine ⟨fun h=>?_,fun h=>?_⟩<;>conv=>whnf
 ·have h:k<4:=by have:=of_decide_eq_true h;omega
  have h1:=Ux x k
  have h2:=Qq hx k
  refine Cq (Z4 x k Ab) rfl (A8 ?_)
  refine C0 A0 false [] (fun j:Nat=>[(15,.c (vi j))]) (fun j=>[⟨0,[.c (Bp x.graph.nodes),.c (vi x.graph.workers),.c (vi x.graph.cap),.c (Av x.workers),.c (Cy x.links),.c (C9 x.tokens),.c (Cj x.news)]⟩]) (fun j=>[⟨2,Ak (Df x k)⟩,⟨1,G0 (Qr x k++((Df x k).take j).map G3)⟩])
   (fun j=>j≤(Df x k).length) (fun j=>(Df x k).length-j) 0 (Nat.zero_le _) ⟨G9,trivial⟩ Cf ⟨Eu,Eu,trivial⟩ Cr A7 (fun j hj=>?_)
  conv=>whnf
  conv=>whnf
  refine Fi (fun h'=>?_) fun h'=>?_<;>conv=>whnf
  ·have h':j<(Df x k).length:=by omega
   have h3:(((Df x k).take j).map G3).length≤j:=by rw [List.length_map,List.length_take];omega
   (repeat refine An ?_)
   refine F0 (Lz ((Df x k).getD j default) (Sg ox (B8 h'))) Dk hW rfl (A8 ?_)
   conv=>whnf
   refine B1 A0 rfl rfl rfl rfl rfl rfl rfl rfl rfl rfl rfl (G0 (Qr x k++((Df x k).take j).map G3++[G3 ((Df x k).getD j default)])) (Aa rfl) Bg (by (rw [List.length_append];omega)) (A8 ?_)
   (repeat refine An ?_)
   refine B9 [(1,5)] (j+1) Ab Ab ⟨rfl,trivial⟩ ⟨rfl,congrArg G0 (by rw [Qm _ h',←List.append_assoc]),trivial⟩ Cf A7 Cr A7
  (repeat refine An ?_)
  refine B9 [] (k+1) Ab Ab ⟨rfl,trivial⟩ ⟨congrArg G0 (by rw [Xw,List.take_of_length_le Ab]),trivial⟩ Cf A7 Cr A7
 have h:¬ k<4:=by have:=of_decide_eq_false h;omega
 obtain rfl:k=4:=by omega
 repeat refine Bj ?_
 refine B3 A0 rfl rfl ?_
 exact Ay
end Go.Proofs.YtdendlkeiaccpaaGreatDoor
