/- Part 7 of the proof that each of the laws FnConsole returns true for every input. No conditions. -/
import Derived.Test.YtmhcebdkjgkmlaaGreatDoorQ6
import Derived.Shelf.Strconv.Itoa3
import Derived.Shelf.Strings.SplitShaped

set_option linter.unusedSimpArgs false
set_option linter.unusedVariables false
set_option maxRecDepth 100000
namespace Go.Proofs.YtmhcebdkjgkmlaaGreatDoor
open Go.Sx
structure Kd where
 a:Option Addr
 n:Nat
 c:Nat
 b:Nat→Nat
 hb:∀i,b i≤255
 hn:n≤16777216
abbrev Kd.v (d:Kd):Value:= .slice d.a d.n d.c
abbrev Kd.cell (d:Kd):Ag:= .sl d.n 1 fun i=>[.val (.int .u8 (d.b i))]
abbrev Kd.pins (d:Kd):List (Ag×Value):=[(d.cell,d.v)]
abbrev Kd.cur (d:Kd) (i h:Int):List Ag:=[.val d.v,vi i,vi h]
abbrev HT:World→Prop:=fun _=>True
theorem A0w (d:Kd)(i h:Int)(hi:0≤i∧i≤d.n):MtR HT 153 d.pins (d.cur i h) [] (fun r:Int×Int×Int=>(0≤r.1∧r.1≤d.n)∧0≤r.2.2∧r.2.2≤255) (fun r=>d.cur r.1 r.2.1) (fun r=>[.one (vi r.2.2)]):=by
 have hn:=d.hn;refine C6d A0 true Tryz.func153 rfl Bq fun B b hH hp=>?_;conv=>whnf
 first|(refine Aj 2 rfl [0,1,2,3,4,5,6,7,8,9,10,11,12] Am (go A0 true ?_);conv=>whnf)|(refine Aj 3 rfl [0,1,2,3,4,5,6,7,8,9] Am (go A0 true ?_);conv=>whnf)|(refine Aj 4 rfl [0,1,2,3,4,5,6,7,8,9,10,11,12,13,14] Am (go A0 true ?_);conv=>whnf)
 refine D3r rfl rfl rfl rfl Bq (fun r=>go A0 true ?_);conv=>whnf
 refine D3r rfl rfl rfl rfl Bq (fun r2=>go A0 true ?_);conv=>whnf
 refine D4h rfl rfl rfl rfl (fun r3=>go A0 true ?_);conv=>whnf
 refine D1w rfl rfl rfl rfl Bq Bq (fun x0 h0 h1=>go A0 true ?_);conv=>whnf
 first|(refine Aj 2 rfl [0,1,2,3,4,5,6,7,8,9,10,11,12] Am (go A0 true ?_);conv=>whnf)|(refine Aj 3 rfl [0,1,2,3,4,5,6,7,8,9] Am (go A0 true ?_);conv=>whnf)|(refine Aj 4 rfl [0,1,2,3,4,5,6,7,8,9,10,11,12,13,14] Am (go A0 true ?_);conv=>whnf)
 refine Dv (fun hlt=>?_) fun hlt=>?_
 ·first|(refine Aj 2 rfl [0,1,2,3,4,5,6,7,8,9,10,11,12] Am (go A0 true ?_);conv=>whnf)|(refine Aj 3 rfl [0,1,2,3,4,5,6,7,8,9] Am (go A0 true ?_);conv=>whnf)|(refine Aj 4 rfl [0,1,2,3,4,5,6,7,8,9,10,11,12,13,14] Am (go A0 true ?_);conv=>whnf)
  refine D3a A0 hp 0 rfl rfl rfl rfl rfl rfl rfl rfl rfl (⟨hi.1,hlt⟩) (go A0 true ?_);conv=>whnf
  refine D1w rfl rfl rfl rfl Bq Bq (fun x1 g0 g1=>go A0 true ?_);conv=>whnf
  exact Mw A0 (i+1,_,x1) ⟨⟨by omega,by show i+1≤_;omega⟩,g0,g1⟩ rfl rfl rfl rfl ⟨⟨A1p _ _,by show Ag.val _=_;rw [show IntKind.i64.wrap (i+1)=i+1 by rw [IntKind.wrap_i64];omega],rfl,trivial⟩,rfl,trivial⟩
 exact Mw A0 (i,_,x0) ⟨hi,h0,h1⟩ rfl rfl rfl rfl J0
theorem D1g {i:Int}(h: -9223372036854775808≤i∧i≤9223372036854775807):IntKind.i64.wrap i=i:=by rw [IntKind.wrap_i64];omega
theorem B83 (d:Kd):B2t Tryz.prog 74 d.pins [.one (.val d.v)] (fun _:Int=>True) (fun h=>d.cur 0 h):=by
 have hn:=d.hn;refine C6c A0 true Tryz.func74 rfl Bq fun W hp=>?_;conv=>whnf
 refine W3 A0 true [] (fun j:Nat×Int=>[(3,.c (vi j.2)),(4,.c (vi j.1))]) (fun j=>[]) (fun j=>[]) (fun j=>(j.1:Int)≤d.n) (fun j=>d.n-j.1) ((0,_)) (A9t _) ⟨(by first|rfl|simp [Ik,ren2,ren1,ren0]),(by first|rfl|simp [Ik,ren2,ren1,ren0]),trivial⟩ trivial trivial ab8 Am (fun j hj=>?_);conv=>whnf
 refine Dv (fun h=>?_) fun h=>?_
 ·refine Yc B49 ?_
  conv=>whnf
  refine Yc B49 ?_;conv=>whnf
  refine Dv (fun h2=>?_) fun h2=>?_
  ·refine D3a A0 hp 0 rfl rfl rfl rfl rfl rfl rfl rfl rfl (⟨by omega,h⟩) (go A0 true ?_)
   conv=>whnf
   refine D1w rfl rfl rfl rfl Bq Bq (fun r r0 r1=>go A0 true ?_);conv=>whnf
   refine Cc [] ((j.1+1,r)) ((by show ((j.1+1:Nat):Int)≤_;omega)) (by show d.n-(j.1+1)<_;omega) ⟨rfl,(by show AV.c (vi _)=AV.c (vi _);rw [D1g A7];rfl),trivial⟩ trivial
  exact D2k A0 j.2 trivial rfl rfl rfl J0
 repeat' (first|(refine Ho ?_;conv=>whnf)|(refine Hp ?_;conv=>whnf)|(refine ⟨fun h=>?_,fun h=>?_⟩<;>conv=>whnf)|(refine Gn ?_;conv=>whnf)|fail)
 exact D2k A0 j.2 trivial rfl rfl rfl J0
theorem Ef (d:Kd)(i h n:Int)(hi:0≤i∧i≤d.n)(hn:n≤1099511627776):MtR HT 94 d.pins (d.cur i h) [.one (vi n)] (fun r:Int×Int×Int=>(0≤r.1∧r.1≤d.n)∧0≤r.2.2∧(n≤0→r.2.2=0)∧(0<n→r.2.2<n)) (fun r=>d.cur r.1 r.2.1) (fun r=>[.one (vi r.2.2)]):=by
 have hdn:=d.hn;refine zeP Tryz.func94 fun B b hH hp=>?_;refine Dv (fun h0=>?_) fun h0=>?_
 ·exact Mw A0 (i,h,0) ⟨hi,Tj _,fun _=>rfl,fun h=>by omega⟩ rfl rfl rfl rfl J0
 refine Dv (fun h1=>?_) fun h1=>?_
 ·refine M4 (A0w d i h hi) hH hp fun r hr=>?_
  refine B4 ?_;exact Mw A0 (r.1,r.2.1,r.2.2.tmod n) ⟨hr.1,A3n _ hr.2.1,fun h=>by omega,fun h=>X2 _ h⟩ rfl rfl rfl rfl J0
 refine M4 (A0w d i h hi) hH hp fun r hr=>?_;refine M4 (A0w d r.1 r.2.1 hr.1) hH hp fun r2 hr2=>?_;refine M4 (A0w d r2.1 r2.2.1 hr2.1) hH hp fun r3 hr3=>?_;refine M4 (A0w d r3.1 r3.2.1 hr3.1) hH hp fun r4 hr4=>?_;refine B4 ?_;exact Mw A0 (r4.1,r4.2.1,(r.2.2 * 16777216+r2.2.2 * 65536+r3.2.2 * 256+r4.2.2).tmod n) ⟨hr4.1,A3n _ A7,fun h=>by omega,fun h=>X2 _ h⟩ rfl rfl rfl rfl J0
theorem Pq (d:Kd)(i h n:Int)(hi:0≤i∧i≤d.n)(hn:n≤1099511627776):MtR HT 76 d.pins (d.cur i h) [.one (vi n)] (fun r:Int×Int×Bool=>0≤r.1∧r.1≤d.n) (fun r=>d.cur r.1 r.2.1) (fun r=>[.one (vb r.2.2)]):=by
 refine zeP Tryz.func76 fun B b hH hp=>?_;refine M4 (Ef d i h n hi hn) hH hp fun r hr=>?_;exact Mw A0 (r.1,r.2.1,_) hr.1 rfl rfl rfl rfl J0
theorem A6n (d:Kd)(i h:Int)(xs:List Int)(hi:0≤i∧i≤d.n)(hx:0<xs.length∧xs.length≤16777216):MtR HT 138 d.pins (d.cur i h) [.one (Cn xs)] (fun r:Int×Int×Nat=>(0≤r.1∧r.1≤d.n)∧r.2.2<xs.length) (fun r=>d.cur r.1 r.2.1) (fun r=>[.one (vi (xs.getD r.2.2 0))]):=by
 refine zeP Tryz.func138 fun B b hH hp=>?_;refine M4 (Ef d i h xs.length hi A7) hH hp fun r hr=>?_;refine B4 ?_;exact Mw A0 (r.1,r.2.1,r.2.2.toNat) ⟨hr.1,by have:=hr.2.2.2 A7;show r.2.2.toNat<_;omega⟩ rfl rfl rfl rfl J0
theorem Hg (n lo hi:Int):Di 130 [.one (vi n),.one (vi lo),.one (vi hi)] [.one (vb (E4 n lo hi))]:=by
 refine E7 Tryz.func130 fun W=>?_
 repeat' (first|(refine Ho ?_;conv=>whnf)|(refine Hp ?_;conv=>whnf)|(refine ⟨fun h=>?_,fun h=>?_⟩<;>conv=>whnf)|(refine An A0 rfl rfl ⟨?_,trivial⟩;conv=>whnf)|(refine Gn ?_;conv=>whnf)|fail)
 all_goals (refine A6 vb ?_;simp_all [E4]<;>omega)
theorem Hm (n lo hi:Int):Di 115 [.one (vi n),.one (vi lo),.one (vi hi)] [.one (vb (E4 n lo hi))]:=by
 refine E7 Tryz.func115 fun W=>?_
 repeat' (first|(refine Ho ?_;conv=>whnf)|(refine Hp ?_;conv=>whnf)|(refine ⟨fun h=>?_,fun h=>?_⟩<;>conv=>whnf)|(refine An A0 rfl rfl ⟨?_,trivial⟩;conv=>whnf)|(refine Gn ?_;conv=>whnf)|fail)
 all_goals (refine A6 vb ?_;simp_all [E4]<;>omega)
def B6j:Go.Shelf.Ren:=⟨fun| 171=>116| 243=>172| 246=>220| 283=>264| 284=>265| 285=>266| 286=>267| 129=>301| 317=>300| 318=>302| 319=>303| 320=>304| 337=>323| 338=>324|n=>n,fun| 3=>3| 9=>9| 2=>2| 4=>4| 171=>265| 0=>0| 53=>266| 37=>33| 5=>5| 173=>269| 212=>302| 51=>256| 20=>20| 213=>303| 46=>215| 232=>330| 233=>331|n=>n,fun| 17=>3| 18=>8| 19=>9|n=>n⟩
theorem C95:Go.Proofs.LaysM.n171 Tryz.prog B6j:= {
 mixed:=by kernel_rfl,
 f129:=Tryz.func301.trans (A6 some Am),
 f171:=Tryz.func116.trans (A6 some Am),
 f243:=Tryz.func172.trans (A6 some Am),
 f246:=Tryz.func220.trans (A6 some Am),
 f283:=Tryz.func264.trans (A6 some Am),
 f284:=Tryz.func265.trans (A6 some Am),
 f285:=Tryz.func266.trans (A6 some Am),
 f286:=Tryz.func267.trans (A6 some Am),
 f317:=Tryz.func300.trans (A6 some Am),
 f318:=Tryz.func302.trans (A6 some Am),
 f319:=Tryz.func303.trans (A6 some Am),
 f320:=Tryz.func304.trans (A6 some Am),
 f337:=Tryz.func323.trans (A6 some Am),
 f338:=Tryz.func324.trans (A6 some Am),
 t0:=Tryz.underlying0,
 a0:=Tryz.isAgg0,
 z0:=Tryz.sizeOf0,
 v0:=Tryz.zeroValue0,
 t2:=Tryz.underlying2,
 a2:=Tryz.isAgg2,
 z2:=Tryz.sizeOf2,
 v2:=Tryz.zeroValue2,
 t3:=Tryz.underlying3,
 a3:=Tryz.isAgg3,
 z3:=Tryz.sizeOf3,
 v3:=Tryz.zeroValue3,
 t4:=Tryz.underlying4,
 a4:=Tryz.isAgg4,
 z4:=Tryz.sizeOf4,
 v4:=Tryz.zeroValue4,
 t5:=Tryz.underlying5,
 a5:=Tryz.isAgg5,
 z5:=Tryz.sizeOf5,
 v5:=Tryz.zeroValue5,
 t9:=Tryz.underlying9,
 a9:=Tryz.isAgg9,
 z9:=Tryz.sizeOf9,
 v9:=Tryz.zeroValue9,
 t20:=Tryz.underlying20,
 a20:=Tryz.isAgg20,
 z20:=Tryz.sizeOf20,
 v20:=Tryz.zeroValue20,
 t37:=Tryz.underlying33,
 a37:=Tryz.isAgg33,
 z37:=Tryz.sizeOf33,
 v37:=Tryz.zeroValue33,
 t46:=Tryz.underlying215,
 a46:=Tryz.isAgg215,
 z46:=Tryz.sizeOf215,
 v46:=Tryz.zeroValue215,
 t51:=Tryz.underlying256,
 a51:=Tryz.isAgg256,
 z51:=Tryz.sizeOf256,
 v51:=Tryz.zeroValue256,
 t53:=Tryz.underlying266,
 a53:=Tryz.isAgg266,
 z53:=Tryz.sizeOf266,
 v53:=Tryz.zeroValue266,
 t171:=Tryz.underlying265,
 a171:=Tryz.isAgg265,
 z171:=Tryz.sizeOf265,
 v171:=Tryz.zeroValue265,
 t173:=Tryz.underlying269,
 a173:=Tryz.isAgg269,
 z173:=Tryz.sizeOf269,
 v173:=Tryz.zeroValue269,
 t212:=Tryz.underlying302,
 a212:=Tryz.isAgg302,
 z212:=Tryz.sizeOf302,
 v212:=Tryz.zeroValue302,
 t213:=Tryz.underlying303,
 a213:=Tryz.isAgg303,
 z213:=Tryz.sizeOf303,
 t232:=Tryz.underlying330,
 a232:=Tryz.isAgg330,
 z232:=Tryz.sizeOf330,
 v232:=Tryz.zeroValue330,
 t233:=Tryz.underlying331,
 a233:=Tryz.isAgg331,
 z233:=Tryz.sizeOf331,
 v233:=Tryz.zeroValue331,
 g17:=by kernel_rfl,
 g18:=by kernel_rfl,
 g19:=by kernel_rfl,
 i0:=by kernel_rfl,
 i2:=by kernel_rfl,
 i3:=by kernel_rfl,
 i4:=by kernel_rfl,
 i5:=by kernel_rfl,
 i9:=by kernel_rfl,
 i20:=by kernel_rfl,
 i37:=by kernel_rfl,
 i46:=by kernel_rfl,
 i51:=by kernel_rfl,
 i53:=by kernel_rfl,
 i171:=by kernel_rfl,
 i173:=by kernel_rfl,
 i212:=by kernel_rfl,
 i232:=by kernel_rfl,
 i233:=by kernel_rfl,
 m17:=by kernel_rfl,
 m18:=by kernel_rfl,
 m19:=by kernel_rfl}
def A4d:Go.Shelf.Ren:=⟨fun| 146=>79| 221=>141| 268=>196| 138=>197| 143=>198| 195=>249| 197=>250| 218=>251| 219=>252| 260=>281| 217=>282| 225=>283| 224=>284| 267=>285| 266=>315| 314=>316|n=>n,fun| 9=>9| 31=>27| 3=>3| 4=>4| 0=>0| 105=>250| 21=>21| 5=>5| 46=>215| 119=>203| 139=>310| 138=>309| 146=>311| 51=>256|n=>n,fun| 1=>2| 3=>4| 4=>5|n=>n⟩
theorem B3w:Go.Proofs.LaysM.n146 Tryz.prog A4d:= {
 mixed:=by kernel_rfl,
 f138:=Tryz.func197.trans (A6 some Am),
 f143:=Tryz.func198.trans (A6 some Am),
 f146:=Tryz.func79.trans (A6 some Am),
 f195:=Tryz.func249.trans (A6 some Am),
 f197:=Tryz.func250.trans (A6 some Am),
 f217:=Tryz.func282.trans (A6 some Am),
 f218:=Tryz.func251.trans (A6 some Am),
 f219:=Tryz.func252.trans (A6 some Am),
 f221:=Tryz.func141.trans (A6 some Am),
 f224:=Tryz.func284.trans (A6 some Am),
 f225:=Tryz.func283.trans (A6 some Am),
 f260:=Tryz.func281.trans (A6 some Am),
 f266:=Tryz.func315.trans (A6 some Am),
 f267:=Tryz.func285.trans (A6 some Am),
 f268:=Tryz.func196.trans (A6 some Am),
 f314:=Tryz.func316.trans (A6 some Am),
 t0:=Tryz.underlying0,
 a0:=Tryz.isAgg0,
 z0:=Tryz.sizeOf0,
 v0:=Tryz.zeroValue0,
 t3:=Tryz.underlying3,
 a3:=Tryz.isAgg3,
 z3:=Tryz.sizeOf3,
 v3:=Tryz.zeroValue3,
 t4:=Tryz.underlying4,
 a4:=Tryz.isAgg4,
 z4:=Tryz.sizeOf4,
 v4:=Tryz.zeroValue4,
 t5:=Tryz.underlying5,
 a5:=Tryz.isAgg5,
 z5:=Tryz.sizeOf5,
 v5:=Tryz.zeroValue5,
 t9:=Tryz.underlying9,
 a9:=Tryz.isAgg9,
 z9:=Tryz.sizeOf9,
 v9:=Tryz.zeroValue9,
 t21:=Tryz.underlying21,
 a21:=Tryz.isAgg21,
 z21:=Tryz.sizeOf21,
 v21:=Tryz.zeroValue21,
 t31:=Tryz.underlying27,
 a31:=Tryz.isAgg27,
 z31:=Tryz.sizeOf27,
 v31:=Tryz.zeroValue27,
 t46:=Tryz.underlying215,
 a46:=Tryz.isAgg215,
 z46:=Tryz.sizeOf215,
 v46:=Tryz.zeroValue215,
 t51:=Tryz.underlying256,
 a51:=Tryz.isAgg256,
 z51:=Tryz.sizeOf256,
 v51:=Tryz.zeroValue256,
 t105:=Tryz.underlying250,
 a105:=Tryz.isAgg250,
 z105:=Tryz.sizeOf250,
 v105:=Tryz.zeroValue250,
 t119:=Tryz.underlying203,
 a119:=Tryz.isAgg203,
 z119:=Tryz.sizeOf203,
 t138:=Tryz.underlying309,
 a138:=Tryz.isAgg309,
 z138:=Tryz.sizeOf309,
 v138:=Tryz.zeroValue309,
 t139:=Tryz.underlying310,
 a139:=Tryz.isAgg310,
 z139:=Tryz.sizeOf310,
 v139:=Tryz.zeroValue310,
 t146:=Tryz.underlying311,
 a146:=Tryz.isAgg311,
 z146:=Tryz.sizeOf311,
 v146:=Tryz.zeroValue311,
 g1:=by kernel_rfl,
 g3:=by kernel_rfl,
 g4:=by kernel_rfl,
 i0:=by kernel_rfl,
 i3:=by kernel_rfl,
 i4:=by kernel_rfl,
 i5:=by kernel_rfl,
 i9:=by kernel_rfl,
 i21:=by kernel_rfl,
 i31:=by kernel_rfl,
 i46:=by kernel_rfl,
 i51:=by kernel_rfl,
 i105:=by kernel_rfl,
 i138:=by kernel_rfl,
 i139:=by kernel_rfl,
 i146:=by kernel_rfl,
 m1:=by kernel_rfl,
 s1_3:=fun w h=>Go.Proofs.cell_of_shapedOpen_int (zero:= #[.int .i64 0]) (t:=3) h (Bn Am) Am rfl Am Am Tryz.underlying3,
 m3:=by kernel_rfl,
 m4:=by kernel_rfl}
theorem B8y {w w':World}(hb:Go.RowKit.Below w.heap.size w w'){b o:Nat}{v:Value}(h:w.cell? ⟨b,o,none⟩=some v):w'.cell? ⟨b,o,none⟩=some v:=En.cell ⟨hb.size,fun k hk=>hb.block k hk⟩ h
def X8 (w:World):Prop:=Lib.TabIs Tryz.prog w "internal/strconv.uint64pow10" .u64 Lib.pow10Tab∧Lib.TabIs Tryz.prog w "strings.asciiSpace" .u8 Lib.asciiSpaceTab∧(∃t p,w.var? Tryz.prog "strconv.ErrSyntax" =some #[.iface t p])∧(∃t p,w.var? Tryz.prog "strconv.ErrRange" =some #[.iface t p])∧∃m,w.cell? ⟨A4d.g 1,0,none⟩=some (.int .i64 m)
theorem C8u {w:World}(h:X8 w):∃t p,w.var? Tryz.prog "strconv.ErrRange" =some #[.iface t p]:=h.2.2.2.1
theorem B5:A54 X8:=fun _ _ hb h=>⟨Xy hb h.1,Xy hb h.2.1,h.2.2.1.imp fun _=>Exists.imp fun _=>Xy hb,h.2.2.2.1.imp fun _=>Exists.imp fun _=>Xy hb,h.2.2.2.2.imp fun _=>B8y hb⟩
theorem D3c (n:Int)(h:Gv .i64 n):E3 Tryz.prog X8 116 [.one (vi n)] [.one (vs (I9 n))]:=by
 refine ⟨⟨_,Tryz.func116,by decide,rfl⟩,fun w hw vs hl hv=>?_⟩
 match vs,hl with
 | [v],_=>
  have h0:v= .int .i64 n:=Ud (A:=fun _=>False) (hv 0 _ rfl);subst h0;refine (Any.strconv_Itoa C95 n h.1 h.2 w hw.1).mono ?_
  rintro e w' ⟨rfl,k,os,rfl⟩
  exact Xg (B8q _ _ _) rfl
theorem Dq (n:Int)(h:Gv .i64 n):E3 Tryz.prog X8 59 [.one (vi n)] [.one (vs (I9 n))]:=by
 refine He A0 false Tryz.func59 rfl Bq fun W hW=>?_;conv=>whnf
 refine Dj (D3c n h) B5 hW rfl (Ah ?_);exact An A0 rfl rfl ⟨rfl,trivial⟩
theorem C6i (z:Int)(d:Nat)(hz:z=d)(h:d<10):Di 131 [.one (vi z)] [.one (vy (UInt8.ofNat (48+d)))]:=by
 refine E7 Tryz.func131 fun W=>?_;refine Dv (fun h'=>?_) fun h'=>?_
 ·refine B4 ?_
  exact An A0 rfl rfl ⟨A6 Ag.val (A6 (Value.int .u8) (by rw [hz,UInt8.toNat_ofNat'];omega)),trivial⟩
 omega
theorem A8y (σ:Int)(hσ:σ=1∨σ= -1)(u:Nat)(hu:0<u)(hb:u≤9223372036854775808)(hn:Gv .i64 (σ * u)):Di 68 [.one (vi (σ * u))] [.one (vs (I9 (σ * u)))]:=by
 have hd0:=C3f hu;refine E7 Tryz.func68 fun W=>?_;refine Lf (fun h0=>?_) fun h0=>?_
 ·exfalso;rcases hσ with rfl|rfl<;>omega
 refine Fx [] (fun k:Nat=>[(0,.c (vi (σ * Lq u k))),(4,.c (vs ⟨(B0k u k).toArray⟩))]) (fun k=>[]) (fun k=>[]) (fun k=>k≤19∧C87 u k) (fun k=>19-k) fun k hk=>?_;obtain ⟨hk,he⟩:=hk;refine Y0 (fun hq=>?_) fun hq=>?_
 ·have hm:0<Lq u k:=by
   by_cases h:0<Lq u k
   ·exact h
   exfalso;apply hq;rw [show Lq u k=0 by omega];simp
  have hk':=D2e hb hm;have hr:=D2s hσ (Lq u k);have hdv:=D2r hσ (Lq u k);have ho:=hn.1;have ho:=hn.2;have hss:=B7s u k;have hle:=D0f u k;have hmm:=A2c (Lq u k) (show 10>0 by decide)
  refine B4 ?_;refine Dv (fun hneg=>?_) fun hneg=>?_
  ·refine ⟨by (show _∧_;rcases hσ with rfl|rfl<;>omega),?_⟩
   conv=>whnf
   refine Fp (C6i (0-((σ * Lq u k).tmod 10)) (Lq u k % 10) (by rcases hσ with rfl|rfl<;>omega) hmm) ?_
   refine Eu 0 (Kf [UInt8.ofNat (48+Lq u k % 10)]) rfl (A6i rfl) ?_;refine C8q A0 rfl [UInt8.ofNat (48+Lq u k % 10)] rfl (Em ?_);refine ⟨by (show _∧_;rw [hdv];rcases hσ with rfl|rfl<;>omega),?_⟩
   conv=>whnf
   refine Cc [] (k+1) ⟨by omega,B1d he hm⟩ A7 ⟨A6 (fun z=>AV.c (vi z)) hdv,A6 (fun z=>AV.c (vs z)) (B2y _ _),trivial⟩ trivial
  refine Fp (C6i ((σ * Lq u k).tmod 10) (Lq u k % 10) (by rcases hσ with rfl|rfl<;>omega) hmm) ?_
  refine Eu 0 (Kf [UInt8.ofNat (48+Lq u k % 10)]) rfl (A6i rfl) ?_;refine C8q A0 rfl [UInt8.ofNat (48+Lq u k % 10)] rfl (Em ?_);refine ⟨by (show _∧_;rw [hdv];rcases hσ with rfl|rfl<;>omega),?_⟩
  conv=>whnf
  refine Cc [] (k+1) ⟨by omega,B1d he hm⟩ A7 ⟨A6 (fun z=>AV.c (vi z)) hdv,A6 (fun z=>AV.c (vs z)) (B2y _ _),trivial⟩ trivial
 have hm:Lq u k=0:=by rcases hσ with rfl|rfl<;>omega
 have hd:Lib.decDigits u=B0k u k:=by
  rcases he with ⟨h,_⟩|⟨_,h⟩
  ·omega
  exact h
 have hss:=B7s u k;refine C1 (fun hb'=>?_) fun hb'=>?_
 ·refine B4 ?_
  refine An A0 rfl rfl ⟨?_,trivial⟩;have hs:σ * (u:Int)<0:=Bn hb';exact A6 vs (by rw [I9,Lib.itoa,Ak hs,←hd,show (σ * (u:Int)).natAbs=u by rcases hσ with rfl|rfl<;>omega];exact B2y _ _)
 refine An A0 rfl rfl ⟨?_,trivial⟩;have hs:¬ σ * (u:Int)<0:=Cv hb';exact A6 vs (by rw [I9,Lib.itoa,Ab hs,←hd,show (σ * (u:Int)).toNat=u by rcases hσ with rfl|rfl<;>omega])
theorem Cq (n:Int)(h:Gv .i64 n):Di 68 [.one (vi n)] [.one (vs (I9 n))]:=by
 rcases Int.lt_trichotomy n 0 with h0|rfl|h0
 ·have e:n=(-1) * ((n.natAbs:Nat):Int):=by omega
  have:=A8y (-1) (.inr rfl) n.natAbs A7 (by have:=h.1;omega) (by rw [←e];exact h)
  rwa [←e] at this
 ·refine E7 Tryz.func68 fun W=>?_
  refine Lf (fun h0=>?_) fun h0=>?_
  ·exact An A0 rfl rfl ⟨A6 vs (by rw [I9,Lib.itoa,Ab Bq,Lib.decDigits,dif_pos Bq];rfl),trivial⟩
  exact absurd rfl h0
 have e:n=1 * ((n.natAbs:Nat):Int):=by omega
 have:=A8y 1 (.inl rfl) n.natAbs A7 (by have:=h.2;omega) (by rw [←e];exact h)
 rwa [←e] at this
end Go.Proofs.YtmhcebdkjgkmlaaGreatDoor
