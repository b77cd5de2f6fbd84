/- Part 7 of the proof that each of the laws FnExactWhoIsDone, FnExactResultText, FnExactRunText returns true for every input. No conditions. -/
import Derived.Test.YtmhcebdkjgkmlaaGreatDoorP6
import Derived.Shelf.Strconv.ErrVarAll
import Derived.Shelf.Strconv.AtoiAll
import Derived.Shelf.Strings.OnBuilder
import Derived.Lib.Walk

set_option linter.unusedSimpArgs false
set_option linter.unusedVariables false
set_option maxRecDepth 100000
namespace Go.Proofs.YtmhcebdkjgkmlaaGreatDoor
open Go.Sx
def B6k:Go.Shelf.Ren:=⟨fun| 172=>201| 244=>254| 245=>255| 247=>288| 279=>289| 280=>290| 281=>291| 282=>292| 287=>317| 316=>318| 171=>116| 205=>319| 321=>327| 322=>328| 243=>172| 246=>220| 283=>264| 284=>265| 285=>266| 286=>267| 129=>301| 317=>300| 318=>302| 319=>303| 320=>304| 337=>323| 338=>324|n=>n,fun| 9=>9| 3=>3| 75=>207| 76=>208| 4=>4| 5=>5| 167=>290| 37=>33| 0=>0| 85=>291| 2=>2| 168=>293| 53=>266| 175=>315| 46=>215| 210=>319| 127=>260| 145=>328| 143=>326| 21=>21| 171=>265| 173=>269| 212=>302| 51=>256| 20=>20| 213=>303| 232=>330| 233=>331| 80=>214|n=>n,fun| 15=>6| 16=>7| 17=>3| 18=>8| 19=>9|n=>n⟩
theorem B3w:Go.Proofs.LaysC.n172 Tryz.prog B6k:= {
 mixed:=by kernel_rfl,
 f129:=Tryz.func301.trans (A6 some Ah),
 f171:=Tryz.func116.trans (A6 some Ah),
 f172:=Tryz.func201.trans (A6 some Ah),
 f205:=Tryz.func319.trans (A6 some Ah),
 f243:=Tryz.func172.trans (A6 some Ah),
 f244:=Tryz.func254.trans (A6 some Ah),
 f245:=Tryz.func255.trans (A6 some Ah),
 f246:=Tryz.func220.trans (A6 some Ah),
 f247:=Tryz.func288.trans (A6 some Ah),
 f279:=Tryz.func289.trans (A6 some Ah),
 f280:=Tryz.func290.trans (A6 some Ah),
 f281:=Tryz.func291.trans (A6 some Ah),
 f282:=Tryz.func292.trans (A6 some Ah),
 f283:=Tryz.func264.trans (A6 some Ah),
 f284:=Tryz.func265.trans (A6 some Ah),
 f285:=Tryz.func266.trans (A6 some Ah),
 f286:=Tryz.func267.trans (A6 some Ah),
 f287:=Tryz.func317.trans (A6 some Ah),
 f316:=Tryz.func318.trans (A6 some Ah),
 f317:=Tryz.func300.trans (A6 some Ah),
 f318:=Tryz.func302.trans (A6 some Ah),
 f319:=Tryz.func303.trans (A6 some Ah),
 f320:=Tryz.func304.trans (A6 some Ah),
 f321:=Tryz.func327.trans (A6 some Ah),
 f322:=Tryz.func328.trans (A6 some Ah),
 f337:=Tryz.func323.trans (A6 some Ah),
 f338:=Tryz.func324.trans (A6 some Ah),
 t0:=Tryz.underlying0,
 a0:=Tryz.isAgg0,
 z0:=Tryz.sizeOf0,
 v0:=Tryz.zeroValue0,
 t2:=Tryz.underlying2,
 a2:=Tryz.isAgg2,
 z2:=Tryz.sizeOf2,
 v2:=Tryz.zeroValue2,
 t3:=Tryz.underlying3,
 a3:=Tryz.isAgg3,
 z3:=Tryz.sizeOf3,
 v3:=Tryz.zeroValue3,
 t4:=Tryz.underlying4,
 a4:=Tryz.isAgg4,
 z4:=Tryz.sizeOf4,
 v4:=Tryz.zeroValue4,
 t5:=Tryz.underlying5,
 a5:=Tryz.isAgg5,
 z5:=Tryz.sizeOf5,
 v5:=Tryz.zeroValue5,
 t9:=Tryz.underlying9,
 a9:=Tryz.isAgg9,
 z9:=Tryz.sizeOf9,
 v9:=Tryz.zeroValue9,
 t20:=Tryz.underlying20,
 a20:=Tryz.isAgg20,
 z20:=Tryz.sizeOf20,
 v20:=Tryz.zeroValue20,
 t21:=Tryz.underlying21,
 a21:=Tryz.isAgg21,
 z21:=Tryz.sizeOf21,
 v21:=Tryz.zeroValue21,
 t37:=Tryz.underlying33,
 a37:=Tryz.isAgg33,
 z37:=Tryz.sizeOf33,
 v37:=Tryz.zeroValue33,
 t46:=Tryz.underlying215,
 a46:=Tryz.isAgg215,
 z46:=Tryz.sizeOf215,
 v46:=Tryz.zeroValue215,
 t51:=Tryz.underlying256,
 a51:=Tryz.isAgg256,
 z51:=Tryz.sizeOf256,
 v51:=Tryz.zeroValue256,
 t53:=Tryz.underlying266,
 a53:=Tryz.isAgg266,
 z53:=Tryz.sizeOf266,
 v53:=Tryz.zeroValue266,
 t75:=Tryz.underlying207,
 a75:=Tryz.isAgg207,
 z75:=Tryz.sizeOf207,
 v75:=Tryz.zeroValue207,
 t76:=Tryz.underlying208,
 a76:=Tryz.isAgg208,
 z76:=Tryz.sizeOf208,
 v76:=Tryz.zeroValue208,
 t85:=Tryz.underlying291,
 a85:=Tryz.isAgg291,
 z85:=Tryz.sizeOf291,
 v85:=Tryz.zeroValue291,
 t127:=Tryz.underlying260,
 a127:=Tryz.isAgg260,
 z127:=Tryz.sizeOf260,
 v127:=Tryz.zeroValue260,
 t143:=Tryz.underlying326,
 a143:=Tryz.isAgg326,
 z143:=Tryz.sizeOf326,
 v143:=Tryz.zeroValue326,
 t145:=Tryz.underlying328,
 a145:=Tryz.isAgg328,
 z145:=Tryz.sizeOf328,
 v145:=Tryz.zeroValue328,
 t167:=Tryz.underlying290,
 a167:=Tryz.isAgg290,
 z167:=Tryz.sizeOf290,
 v167:=Tryz.zeroValue290,
 t168:=Tryz.underlying293,
 a168:=Tryz.isAgg293,
 z168:=Tryz.sizeOf293,
 v168:=Tryz.zeroValue293,
 t171:=Tryz.underlying265,
 a171:=Tryz.isAgg265,
 z171:=Tryz.sizeOf265,
 v171:=Tryz.zeroValue265,
 t173:=Tryz.underlying269,
 a173:=Tryz.isAgg269,
 z173:=Tryz.sizeOf269,
 v173:=Tryz.zeroValue269,
 t175:=Tryz.underlying315,
 a175:=Tryz.isAgg315,
 z175:=Tryz.sizeOf315,
 v175:=Tryz.zeroValue315,
 t210:=Tryz.underlying319,
 a210:=Tryz.isAgg319,
 z210:=Tryz.sizeOf319,
 v210:=Tryz.zeroValue319,
 t212:=Tryz.underlying302,
 a212:=Tryz.isAgg302,
 z212:=Tryz.sizeOf302,
 v212:=Tryz.zeroValue302,
 t213:=Tryz.underlying303,
 a213:=Tryz.isAgg303,
 z213:=Tryz.sizeOf303,
 t232:=Tryz.underlying330,
 a232:=Tryz.isAgg330,
 z232:=Tryz.sizeOf330,
 v232:=Tryz.zeroValue330,
 t233:=Tryz.underlying331,
 a233:=Tryz.isAgg331,
 z233:=Tryz.sizeOf331,
 v233:=Tryz.zeroValue331,
 g15:=by kernel_rfl,
 g16:=by kernel_rfl,
 g17:=by kernel_rfl,
 g18:=by kernel_rfl,
 g19:=by kernel_rfl,
 t80:=Tryz.underlying214,
 a80:=Tryz.isAgg214,
 z80:=Tryz.sizeOf214,
 v80:=Tryz.zeroValue214,
 i0:=by kernel_rfl,
 i2:=by kernel_rfl,
 i3:=by kernel_rfl,
 i4:=by kernel_rfl,
 i5:=by kernel_rfl,
 i9:=by kernel_rfl,
 i20:=by kernel_rfl,
 i21:=by kernel_rfl,
 i37:=by kernel_rfl,
 i46:=by kernel_rfl,
 i51:=by kernel_rfl,
 i53:=by kernel_rfl,
 i75:=by kernel_rfl,
 i76:=by kernel_rfl,
 i80:=by kernel_rfl,
 i85:=by kernel_rfl,
 i127:=by kernel_rfl,
 i143:=by kernel_rfl,
 i145:=by kernel_rfl,
 i167:=by kernel_rfl,
 i168:=by kernel_rfl,
 i171:=by kernel_rfl,
 i173:=by kernel_rfl,
 i175:=by kernel_rfl,
 i210:=by kernel_rfl,
 i212:=by kernel_rfl,
 i232:=by kernel_rfl,
 i233:=by kernel_rfl,
 m15:=by kernel_rfl,
 m16:=by kernel_rfl,
 m17:=by kernel_rfl,
 m18:=by kernel_rfl,
 m19:=by kernel_rfl,
 c0:=by kernel_rfl,
 c2:=by kernel_rfl,
 c3:=by kernel_rfl,
 c4:=by kernel_rfl,
 c5:=by kernel_rfl,
 c9:=by kernel_rfl,
 c20:=by kernel_rfl,
 c21:=by kernel_rfl,
 c37:=by kernel_rfl,
 c46:=by kernel_rfl,
 c51:=by kernel_rfl,
 c53:=by kernel_rfl,
 c75:=by kernel_rfl,
 c76:=by kernel_rfl,
 c80:=by kernel_rfl,
 c85:=by kernel_rfl,
 c127:=by kernel_rfl,
 c143:=by kernel_rfl,
 c145:=by kernel_rfl,
 c167:=by kernel_rfl,
 c168:=by kernel_rfl,
 c171:=by kernel_rfl,
 c173:=by kernel_rfl,
 c175:=by kernel_rfl,
 c210:=by kernel_rfl,
 c212:=by kernel_rfl,
 c213:=by kernel_rfl,
 c232:=by kernel_rfl,
 c233:=by kernel_rfl}
def B6i:Go.Shelf.Ren:=⟨fun| 157=>142| 229=>199| 199=>200| 261=>253| 311=>286| 312=>287|n=>n,fun| 9=>9| 31=>27| 3=>3| 5=>5| 4=>4| 119=>203| 0=>0| 40=>205| 152=>253| 21=>21| 154=>255| 51=>256| 141=>258| 196=>282| 193=>279| 198=>285| 49=>283| 194=>280| 201=>288| 226=>313| 46=>215| 227=>314|n=>n,fun| 0=>0| 6=>1|n=>n⟩
theorem C9v:Go.Proofs.LaysM.n157 Tryz.prog B6i:= {
 mixed:=by kernel_rfl,
 f157:=Tryz.func142.trans (A6 some Ah),
 f199:=Tryz.func200.trans (A6 some Ah),
 f229:=Tryz.func199.trans (A6 some Ah),
 f261:=Tryz.func253.trans (A6 some Ah),
 f311:=Tryz.func286.trans (A6 some Ah),
 f312:=Tryz.func287.trans (A6 some Ah),
 t0:=Tryz.underlying0,
 a0:=Tryz.isAgg0,
 z0:=Tryz.sizeOf0,
 v0:=Tryz.zeroValue0,
 t3:=Tryz.underlying3,
 a3:=Tryz.isAgg3,
 z3:=Tryz.sizeOf3,
 v3:=Tryz.zeroValue3,
 t4:=Tryz.underlying4,
 a4:=Tryz.isAgg4,
 z4:=Tryz.sizeOf4,
 v4:=Tryz.zeroValue4,
 t5:=Tryz.underlying5,
 a5:=Tryz.isAgg5,
 z5:=Tryz.sizeOf5,
 v5:=Tryz.zeroValue5,
 t9:=Tryz.underlying9,
 a9:=Tryz.isAgg9,
 z9:=Tryz.sizeOf9,
 v9:=Tryz.zeroValue9,
 t21:=Tryz.underlying21,
 a21:=Tryz.isAgg21,
 z21:=Tryz.sizeOf21,
 v21:=Tryz.zeroValue21,
 t31:=Tryz.underlying27,
 a31:=Tryz.isAgg27,
 z31:=Tryz.sizeOf27,
 v31:=Tryz.zeroValue27,
 t40:=Tryz.underlying205,
 a40:=Tryz.isAgg205,
 z40:=Tryz.sizeOf205,
 v40:=Tryz.zeroValue205,
 t46:=Tryz.underlying215,
 a46:=Tryz.isAgg215,
 z46:=Tryz.sizeOf215,
 v46:=Tryz.zeroValue215,
 t49:=Tryz.underlying283,
 a49:=Tryz.isAgg283,
 z49:=Tryz.sizeOf283,
 v49:=Tryz.zeroValue283,
 t51:=Tryz.underlying256,
 a51:=Tryz.isAgg256,
 z51:=Tryz.sizeOf256,
 v51:=Tryz.zeroValue256,
 t119:=Tryz.underlying203,
 a119:=Tryz.isAgg203,
 z119:=Tryz.sizeOf203,
 t141:=Tryz.underlying258,
 a141:=Tryz.isAgg258,
 z141:=Tryz.sizeOf258,
 v141:=Tryz.zeroValue258,
 t152:=Tryz.underlying253,
 a152:=Tryz.isAgg253,
 z152:=Tryz.sizeOf253,
 v152:=Tryz.zeroValue253,
 t154:=Tryz.underlying255,
 a154:=Tryz.isAgg255,
 z154:=Tryz.sizeOf255,
 v154:=Tryz.zeroValue255,
 t193:=Tryz.underlying279,
 a193:=Tryz.isAgg279,
 z193:=Tryz.sizeOf279,
 v193:=Tryz.zeroValue279,
 t194:=Tryz.underlying280,
 a194:=Tryz.isAgg280,
 z194:=Tryz.sizeOf280,
 v194:=Tryz.zeroValue280,
 t196:=Tryz.underlying282,
 a196:=Tryz.isAgg282,
 z196:=Tryz.sizeOf282,
 v196:=Tryz.zeroValue282,
 t198:=Tryz.underlying285,
 a198:=Tryz.isAgg285,
 z198:=Tryz.sizeOf285,
 v198:=Tryz.zeroValue285,
 t201:=Tryz.underlying288,
 a201:=Tryz.isAgg288,
 z201:=Tryz.sizeOf288,
 v201:=Tryz.zeroValue288,
 t226:=Tryz.underlying313,
 a226:=Tryz.isAgg313,
 z226:=Tryz.sizeOf313,
 v226:=Tryz.zeroValue313,
 t227:=Tryz.underlying314,
 a227:=Tryz.isAgg314,
 z227:=Tryz.sizeOf314,
 v227:=Tryz.zeroValue314,
 g0:=by kernel_rfl,
 g6:=by kernel_rfl,
 i0:=by kernel_rfl,
 i3:=by kernel_rfl,
 i4:=by kernel_rfl,
 i5:=by kernel_rfl,
 i9:=by kernel_rfl,
 i21:=by kernel_rfl,
 i31:=by kernel_rfl,
 i40:=by kernel_rfl,
 i46:=by kernel_rfl,
 i49:=by kernel_rfl,
 i51:=by kernel_rfl,
 i141:=by kernel_rfl,
 i152:=by kernel_rfl,
 i154:=by kernel_rfl,
 i193:=by kernel_rfl,
 i194:=by kernel_rfl,
 i196:=by kernel_rfl,
 i198:=by kernel_rfl,
 i201:=by kernel_rfl,
 i226:=by kernel_rfl,
 i227:=by kernel_rfl,
 m0:=by kernel_rfl,
 m6:=by kernel_rfl}
def D2d (s:ByteArray) (i:Int×Value):Prop:=(Lib.atoiAll s.data.toList= .ok i.1∧i.2= .nilIface)∨((∀v,Lib.atoiAll s.data.toList≠ .ok v)∧∃t p,i.2= .iface t p∧i.2.oneCell'=true)
theorem D2g (s:ByteArray)(hs:s.size≤281474976710656):A57 Tryz.prog Vb 201 [.one (vs s)] (D2d s) (fun i=>[.one (vi i.1),.one (.val i.2)]):=by
 refine ⟨⟨_,Tryz.func201,by decide,rfl⟩,fun w hw vals hl hv=>?_⟩
 match vals,hl with
 | [v],_=>
  have h0:v= .string s:=Ub (A:=fun _=>False) (hv 0 _ rfl);subst h0
  cases hc:Lib.atoiAll s.data.toList with
  |ok v=>
   refine (Any.strconv_Atoi_ok B3w s A7 v hc w).mono ?_
   rintro e w' ⟨rfl,hw'⟩
   refine ⟨(v,.nilIface),.inl ⟨hc,rfl⟩,A2r ?_ rfl rfl⟩
   rcases hw' with rfl|⟨t,rfl⟩
   ·first|exact Go.Sx.Below.refl _ _|exact Go.RowKit.Below.refl _ _
   exact Lib.bytesWorld_below _ _ _
  |range=>
   obtain ⟨t,p,hvar⟩:=C8o hw;refine (Any.strconv_Atoi_range_var B3w s hs hc t p w hvar).mono ?_
   rintro e w' ⟨N,rfl,_,_,hb⟩
   exact ⟨(_,_),.inr ⟨(fun v h=>by rw [hc] at h;cases h),_,_,rfl,rfl⟩,A2r hb rfl rfl⟩
  |_=>
   obtain ⟨t,p,hvar⟩:=hw.2.2.1;refine (Any.strconv_Atoi_syntax_var B3w s hs hc t p w hvar).mono ?_
   rintro e w' ⟨N,rfl,_,_,hb⟩
   exact ⟨(_,_),.inr ⟨(fun v h=>by rw [hc] at h;cases h),_,_,rfl,rfl⟩,A2r hb rfl rfl⟩
theorem V2 (s:ByteArray)(hs:s.size≤1048576):Dy Tryz.prog Vb 146 [.one (vs s)] [.one (vi (Sd s)),.one (vb (U7 s))]:=by
 refine Ga A0 false Tryz.func146 rfl Cw fun W hW=>?_;conv=>whnf
 refine B8w (D2g s A7) B3 hW rfl (fun i hi=>go A0 false ?_);obtain ⟨v,e⟩:=i;conv=>whnf
 rcases hi with ⟨ha,he⟩|⟨hn,t,p,he,h1⟩
 ·dsimp only at ha he
  subst he;have hv:=C5m ha;have hd:=Bq hv;refine D2l rfl rfl Ah rfl (r:=false) (.inl ⟨rfl,rfl⟩) (Aj ?_)
  have hsome:∀n,rd s=some n→v=n:=fun n hr=>by
   have:=C15 hr
   rw [ha] at this
   injection this
  repeat' (first|(refine I1 ?_;conv=>whnf)|(refine I2 ?_;conv=>whnf)|(refine ⟨fun h=>?_,fun h=>?_⟩<;>conv=>whnf)|(refine Dt (Dn v hv) B3 hW rfl (Aj ?_))|(refine As (H9 v 0 1000000000) rfl (Aj ?_))|(refine Co ?_;conv=>whnf)|fail)
  ·have hr:rd s=none:=by
    cases hr:rd s with
    |none=>rfl
    |some n=>
     have e:=(U8.1 hr).2;rw [←hsome n hr] at e;rw [e,Ex] at h;exact absurd h Cw
   exact An A0 rfl rfl ⟨A6 vi (Ij hr).1,A6 vb (Ij hr).2,trivial⟩
  ·have hw:Dv v 0 1000000000=false:=by simpa using h
   have hw:=Go.Sx.G8.1 hw
   have hr:rd s=none:=by
    cases hr:rd s with
    |none=>rfl
    |some n=>
     have e:=D1c hr
     have:=hsome n hr
     exact absurd (show 0≤v∧v≤1000000000 by omega) hw
   exact An A0 rfl rfl ⟨A6 vi (Ij hr).1,A6 vb (Ij hr).2,trivial⟩
  rename_i hb
  have hw:Dv v 0 1000000000=true:=by simpa using h
  have hw:=Go.Sx.Ch.1 hw;have hb:(Ia v==s)=true:=by simpa using hb
  have hr:rd s=some v.toNat:=U8.2 ⟨by omega,by rw [show ((v.toNat:Nat):Int)=v by omega];exact Kf hb⟩
  have hn:=(B2e hr).1;exact An A0 rfl rfl ⟨A6 vi A7,A6 vb (B2e hr).2,trivial⟩
 dsimp only at hn he
 subst he
 have hr:rd s=none:=by
  cases hr:rd s with
  |none=>rfl
  |some n=>exact absurd (C15 hr) (hn _)
 refine D2l rfl rfl Ah rfl (r:=true) (.inr ⟨_,_,rfl,rfl⟩) (Aj ?_)
 repeat' (first|(refine I1 ?_;conv=>whnf)|(refine I2 ?_;conv=>whnf)|(refine ⟨fun h=>?_,fun h=>?_⟩<;>conv=>whnf)|(refine H8 ?_;conv=>whnf)|fail)
 exact An A0 rfl rfl ⟨A6 vi (Ij hr).1,A6 vb (Ij hr).2,trivial⟩
theorem H4 (s:ByteArray)(hs:s.size≤1048576):Dj 87 [.one (vs s)] [.one (vi (Sd s)),.one (vb (U7 s))]:=by
 refine E3 Tryz.func87 fun W=>?_;refine Eh (fun h0=>?_) fun h0=>?_
 ·have hr:=D0j (s:=s) A7
  exact An A0 rfl rfl ⟨A6 vi (Ij hr).1,A6 vb (Ij hr).2,trivial⟩
 have h10:s.size≤10:=by omega
 have hz:∀b∈s.data.toList.take 0,isD b:=fun b hb=>by rw [List.take_zero] at hb;cases hb
 refine Fv [] (fun k:Nat=>[(4,.c (vi (My 0 (s.data.toList.take k):Nat))),(5,.c (vi k))]) (fun k=>[]) (fun k=>[]) (fun k=>k≤s.size∧(∀b∈s.data.toList.take k,isD b)) (fun k=>s.size-k) fun k hk=>?_;obtain ⟨hk,he⟩:=hk;refine Eh (fun h=>?_) fun h=>?_
 ·have hks:k<s.size:=by omega
  have hb:=A6w h10 he;have hu:(s.data.getD (k:Int).toNat 0).toNat<256:=UInt8.toNat_lt _;have hs1:=C3l hks;have hno:¬ isD (C1 s k)→rd s=none:=B95 hks;refine B8 ?_
  repeat' (first|(refine I1 ?_;conv=>whnf)|(refine I2 ?_;conv=>whnf)|(refine ⟨fun h=>?_,fun h=>?_⟩<;>conv=>whnf)|(refine H8 ?_;conv=>whnf)|fail)
  ·have hx:((C1 s k).toNat:Int)<48:=Bj (by assumption)
   have hr:=hno (fun c=>by unfold isD at c;omega);exact An A0 rfl rfl ⟨A6 vi (Ij hr).1,A6 vb (Ij hr).2,trivial⟩
  ·have hx:((C1 s k).toNat:Int)>57:=Bj (by assumption)
   have hr:=hno (fun c=>by unfold isD at c;omega);exact An A0 rfl rfl ⟨A6 vi (Ij hr).1,A6 vb (Ij hr).2,trivial⟩
  rename_i g1
  have x1:¬ ((C1 s k).toNat:Int)<48:=Cr g1;have x2:¬ ((C1 s k).toNat:Int)>57:=Cr h
  have hnext:∀b∈s.data.toList.take (k+1),isD b:=fun b hb=>by
   rw [B2o hks] at hb
   rcases Ng.1 hb with hb|hb
   ·exact he b hb
   rw [Ke.1 hb,isD];omega
  refine Ci [] (k+1) ⟨by omega,hnext⟩ A7 ⟨A6 (fun z=>AV.c (vi z)) (by rw [hs1];show 10 * ((My 0 (List.take k s.data.toList):Nat):Int)+((C1 s k).toNat:Int)-48=_;omega),rfl,trivial⟩ trivial
 have e:k=s.size:=by omega
 have hall:s.data.toList.take k=s.data.toList:=K0 (by rw [Nq];have:s.data.size=s.size:=rfl;omega);have hD:Gt .i64 ((My 0 (s.data.toList.take k):Nat):Int):=by have:=A6w h10 he;show _∧_;omega
 have hsz:=Bq hD
 repeat' (first|(refine I1 ?_;conv=>whnf)|(refine I2 ?_;conv=>whnf)|(refine ⟨fun h=>?_,fun h=>?_⟩<;>conv=>whnf)|(refine As (Dp _ hD) rfl (Aj ?_))|(refine Co ?_;conv=>whnf)|fail)
 ·have hx:=Bj h
  have hr:rd s=none:=by rw [C73,←hall,Ab (by intro c;have:=c.1;omega)]
  exact An A0 rfl rfl ⟨A6 vi (Ij hr).1,A6 vb (Ij hr).2,trivial⟩
 ·have hr:rd s=none:=by
   rw [C73,←hall,Ab (by intro c;rw [c.2,Ex] at h;exact absurd h Cw)]
  exact An A0 rfl rfl ⟨A6 vi (Ij hr).1,A6 vb (Ij hr).2,trivial⟩
 rename_i g1
 have x1:=Cr g1;have x2:(Ia ((My 0 (s.data.toList.take k):Nat):Int)==s)=true:=by simpa using h
 have hr:rd s=some (My 0 (s.data.toList.take k)):=by rw [hall];rw [hall] at x1 x2;rw [C73,Ak ⟨by omega,Kf x2⟩]
 exact An A0 rfl rfl ⟨A6 vi (B2e hr).1,A6 vb (B2e hr).2,trivial⟩
theorem C9m (s:ByteArray)(hok:okB s)(hs:s.size≤600):Dy Tryz.prog Vb 142 [.one (vs s)] [.one (Cj (Gk s))]:=by
 refine ⟨⟨_,Tryz.func142,by decide,rfl⟩,fun w hw vals hl hv=>?_⟩
 match vals,hl with
 | [v],_=>
  have h0:v= .string s:=Ub (A:=fun _=>False) (hv 0 _ rfl);subst h0
  have hlen:(Lib.fields s.data.toList).length≤601:=by
   have:=C2i s (s.size+1)
   rw [C2h s hok,Gk,J8] at this;omega
  refine (Any.strings_Fields_laid C9v s w A7 (fun j b hj=>by have:=hok b (Gs hj);omega) hw.2.1).mono ?_
  rintro e w' ⟨rfl,rfl⟩
  have hn:(Gk s).length=(Lib.fields s.data.toList).length:=by rw [Gk,J8]
  refine ⟨Jd w _,[_],fun _=>[w.heap.size],rfl,rfl,fun i y hi=>?_,fun i hi=>⟨by simp,fun b hb=>by rw [Ke.1 hb];exact Df _⟩,fun i j hi hj hne=>by simp at hi hj;omega⟩
  have hsz:(((Lib.fields s.data.toList).map fun l=>Value.string ⟨l.toArray⟩).toArray).size=(Lib.fields s.data.toList).length:=by rw [Nh,J8]
  match i,hi with
  | 0,hi=>
   simp only [Fq,Ei] at hi;subst hi;have heq1:∀o:Obj,(w.alloc o).heap[w.heap.size]? =some o:=fun o=>Array.getElem?_push_size
   have hr:∀ty:TypeId,Bp (w.alloc (.cells ((Lib.fields s.data.toList).map fun l=>Value.string ⟨l.toArray⟩).toArray ty)) (.sl (Gk s).length 1 fun i=>[vs ((Gk s).getD i default)]) (.slice (some ⟨w.heap.size,0 * 1,none⟩) (Gk s).length (Gk s).length) (w.heap.size::(List.range ((Gk s).length * 1)).flatMap fun _=>[]):=
    fun ty=> .sl (Gk s).length 1 _ w.heap.size 0 (Gk s).length ty _ (fun _=>[]) (Df _) (by rw [hn];unfold maxLen;omega) (heq1 _) (by rw [hn,Td,Nat.mul_one];exact Nat.le_of_eq hsz.symm) (fun i hi=>rfl) (fun i j c hi hj=>by
     match j,hj with
     | 0,hj=>
      simp only [Fq,Ei] at hj;subst hj
      have e:(((Lib.fields s.data.toList).map fun l=>Value.string ⟨l.toArray⟩).toArray).getD ((0+i) * 1+0) undef= .string ((Gk s).getD i default):=by
       have hi':i<(Lib.fields s.data.toList).length:=by rw [←hn];exact hi
       simp [Gk,List.getD,hi']
      rw [e];exact .val _ rfl
     |j+1,hj=>simp at hj)
   have hf:(List.range ((Gk s).length * 1)).flatMap (fun _=>([]:List Nat))=[]:=by simp
   simp only [hf] at hr;rw [←hn];exact hr _
  |i+1,hi=>simp at hi
theorem Vy (s:ByteArray)(hs:s.size≤1048576):Dy Tryz.prog Vb 80 [.one (vs s)] [.one (Cj (A5 s)),.one (vb (Gc s))]:=by
 refine Ga A0 false Tryz.func80 rfl Cw fun W hW=>?_;conv=>whnf
 refine Eh (fun h0=>?_) fun h0=>?_
 ·have hP:¬ Gm s:=fun c=>by have:=c.1;omega
  refine A5c 2 1 (fun i=>(fun b=>[vs b]) (([]:List ByteArray).getD i default)) rfl ?_;exact An A0 rfl rfl ⟨by (conv=>whnf);rw [M9 hP];rfl,A6 vb (M8 hP),trivial⟩
 have hz:=A9k s;refine Fv [] (fun k:Nat=>[(4,.c (vi k))]) (fun k=>[]) (fun k=>[]) (fun k=>k≤s.size∧B04 s k) (fun k=>s.size-k) fun k hk=>?_;obtain ⟨hk,he⟩:=hk;refine Eh (fun h=>?_) fun h=>?_
 ·have hks:k<s.size:=by omega
  have hu:(s.data.getD (k:Int).toNat 0).toNat<256:=UInt8.toNat_lt _;refine B8 ?_;refine F0 (H9 ((C1 s k).toNat:Int) 32 126) ?_;refine Cc (fun hc=>?_) fun hc=>?_
  ·have hx:Dv ((C1 s k).toNat:Int) 32 126=false:=by simpa using hc
   have hx:=Go.Sx.G8.1 hx;have hP:=A78 hks (fun c=>hx A7);refine A5c 2 1 (fun i=>(fun b=>[vs b]) (([]:List ByteArray).getD i default)) rfl ?_;exact An A0 rfl rfl ⟨by (conv=>whnf);rw [M9 hP];rfl,A6 vb (M8 hP),trivial⟩
  have hx:Dv ((C1 s k).toNat:Int) 32 126=true:=by simpa using hc
  have hx:=Go.Sx.Ch.1 hx;have hnext:=O2 he (fun _=>by omega);refine B8 ?_;refine Ci [] (k+1) ⟨by omega,hnext⟩ A7 ⟨rfl,trivial⟩ trivial
 have hok:=C7l he A7;have h600:s.size≤600:=by omega
 refine To (C9m s hok h600) B3 hW rfl (Aj ?_);refine Eh (fun h12=>?_) fun h12=>?_
 ·have hP:¬ Gm s:=fun c=>by have:=c.2.2;omega
  refine A5c 2 1 (fun i=>(fun b=>[vs b]) (([]:List ByteArray).getD i default)) rfl ?_;exact An A0 rfl rfl ⟨by (conv=>whnf);rw [M9 hP];rfl,A6 vb (M8 hP),trivial⟩
 have hP:Gm s:=⟨h600,hok,by omega⟩;exact An A0 rfl rfl ⟨A6 Cj (B18 hP).symm,A6 vb (Me hP),trivial⟩
theorem Rq (s:ByteArray)(hs:s.size≤1048576):Dj 85 [.one (vs s)] [.one (Cj (A5 s)),.one (vb (Gc s))]:=by
 refine E3 Tryz.func85 fun W=>?_;refine Eh (fun h0=>?_) fun h0=>?_
 ·have hP:¬ Gm s:=fun c=>by have:=c.1;omega
  refine Q2 0 (Cj []) rfl C3 ?_;exact An A0 rfl rfl ⟨by (conv=>whnf);exact A6 Cj (M9 hP).symm,A6 vb (M8 hP),trivial⟩
 have hz:=A9k s;refine H5 0 (Cj []) rfl C3 ?_;refine Fv [7] (fun k:Nat=>[(5,.c (vi (Rr s k).2)),(6,.c (vi k))]) (fun k=>[]) (fun k=>[⟨0,Cj (Rr s k).1⟩]) (fun k=>k≤(s.size+1)∧B04 s k) (fun k=>(s.size+1)-k) fun k hk=>?_;obtain ⟨hk,he⟩:=hk;refine Eh (fun h=>?_) fun h=>?_
 ·have hle:=C0o s k
  have hlen:=C2i s k
  repeat' (first|(refine I1 ?_;conv=>whnf)|(refine I2 ?_;conv=>whnf)|(refine ⟨fun h=>?_,fun h=>?_⟩<;>conv=>whnf)|(refine Co ?_;conv=>whnf)|fail)
  ·have hx:((C1 s k).toNat:Int)<32:=Bj h
   have hks:k<s.size:=by simp only [J7] at *;omega
   have hP:=A78 hks (fun c=>by omega);refine Q2 1 (Cj []) rfl C3 ?_;exact An A0 rfl rfl ⟨by (conv=>whnf);exact A6 Cj (M9 hP).symm,A6 vb (M8 hP),trivial⟩
  ·have hx:((C1 s k).toNat:Int)>126:=Bj h
   have hks:k<s.size:=by simp only [J7] at *;omega
   have hP:=A78 hks (fun c=>by omega);refine Q2 1 (Cj []) rfl C3 ?_;exact An A0 rfl rfl ⟨by (conv=>whnf);exact A6 Cj (M9 hP).symm,A6 vb (M8 hP),trivial⟩
  ·rename_i g0 g1 g2
   have hks:k<s.size:=by have:=Bj g0;omega
   have x1:¬ ((C1 s k).toNat:Int)<32:=Cr g1;have x2:¬ ((C1 s k).toNat:Int)>126:=Cr g2;have x3:((C1 s k).toNat:Int)≠32:=bne_iff_ne.1 h;have hne:C1 s k≠32:=fun e=>x3 (by rw [e];rfl);have hnext:=O2 he (fun _=>by omega);have hst:=C8f hks hne;refine B8 ?_;refine Ci [] (k+1) ⟨by omega,hnext⟩ A7 ⟨A6 (fun z:List ByteArray×Nat=>AV.c (vi (z.2:Nat))) hst.symm,rfl,trivial⟩ ⟨A6 (fun z:List ByteArray×Nat=>Cj z.1) hst.symm,trivial⟩
  ·rename_i g0 g1 g2 g3
   have hks:k<s.size:=by have:=Bj g0;omega
   have x1:¬ ((C1 s k).toNat:Int)<32:=Cr g1;have x2:¬ ((C1 s k).toNat:Int)>126:=Cr g2;have x3:((C1 s k).toNat:Int)=32:=A0m.1 g3;have heq:C1 s k=32:=UInt8.toNat_inj.1 (by show _=32;omega)
   have hb:(Rr s k).2<k:=by have:=Bj h;omega
   have hnext:=O2 he (fun _=>by omega);have hst:=C2g (fun c=>c.2 heq) hb;refine A50 A0 rfl rfl rfl rfl rfl rfl rfl ⟨by omega,by omega,by omega⟩ (Aj ?_);refine B9 A0 rfl (Cj ((Rr s k).1++[s.extract (Rr s k).2 k])) (Ao rfl) Hy A7 (Er ?_);refine Ci [(0,2)] (k+1) ⟨by omega,hnext⟩ A7 ⟨A6 (fun z:List ByteArray×Nat=>AV.c (vi (z.2:Nat))) hst.symm,rfl,trivial⟩ ⟨A6 (fun z:List ByteArray×Nat=>Cj z.1) hst.symm,trivial⟩
  ·rename_i g0 g1 g2 g3
   have hks:k<s.size:=by have:=Bj g0;omega
   have x1:¬ ((C1 s k).toNat:Int)<32:=Cr g1;have x2:¬ ((C1 s k).toNat:Int)>126:=Cr g2;have x3:((C1 s k).toNat:Int)=32:=A0m.1 g3;have heq:C1 s k=32:=UInt8.toNat_inj.1 (by show _=32;omega)
   have hb:¬ (Rr s k).2<k:=by have:=Cr h;omega
   have hnext:=O2 he (fun _=>by omega);have hst:=B73 (fun c=>c.2 heq) hb;refine B8 ?_;refine Ci [] (k+1) ⟨by omega,hnext⟩ A7 ⟨A6 (fun z:List ByteArray×Nat=>AV.c (vi (z.2:Nat))) hst.symm,rfl,trivial⟩ ⟨A6 (fun z:List ByteArray=>Cj z) (A6 Prod.fst hst).symm,trivial⟩
  ·rename_i g0
   have hks:¬ k<s.size:=by have:=Cr g0;omega
   have hb:(Rr s k).2<k:=by have:=Bj h;omega
   have hnext:=O2 he (fun c=>absurd c hks);have hst:=C2g (fun c=>hks c.1) hb;refine A50 A0 rfl rfl rfl rfl rfl rfl rfl ⟨by omega,by omega,by omega⟩ (Aj ?_);refine B9 A0 rfl (Cj ((Rr s k).1++[s.extract (Rr s k).2 k])) (Ao rfl) Hy A7 (Er ?_);refine Ci [(0,2)] (k+1) ⟨by omega,hnext⟩ A7 ⟨A6 (fun z:List ByteArray×Nat=>AV.c (vi (z.2:Nat))) hst.symm,rfl,trivial⟩ ⟨A6 (fun z:List ByteArray×Nat=>Cj z.1) hst.symm,trivial⟩
  rename_i g0
  have hks:¬ k<s.size:=by have:=Cr g0;omega
  have hb:¬ (Rr s k).2<k:=by have:=Cr h;omega
  have hnext:=O2 he (fun c=>absurd c hks);have hst:=B73 (fun c=>hks c.1) hb;refine B8 ?_;refine Ci [] (k+1) ⟨by omega,hnext⟩ A7 ⟨A6 (fun z:List ByteArray×Nat=>AV.c (vi (z.2:Nat))) hst.symm,rfl,trivial⟩ ⟨A6 (fun z:List ByteArray=>Cj z) (A6 Prod.fst hst).symm,trivial⟩
 have e:k=s.size+1:=by omega
 have hok:=C7l he A7;have hend:(Rr s k).1=Gk s:=by rw [e];exact C2h s hok
 rw [hend];refine Eh (fun h12=>?_) fun h12=>?_
 ·have hP:¬ Gm s:=fun c=>by have:=c.2.2;omega
  refine Q2 1 (Cj []) rfl C3 ?_;exact An A0 rfl rfl ⟨by (conv=>whnf);exact A6 Cj (M9 hP).symm,A6 vb (M8 hP),trivial⟩
 have hP:Gm s:=⟨by omega,hok,by omega⟩;exact An A0 rfl rfl ⟨A6 Cj (B18 hP).symm,A6 vb (Me hP),trivial⟩
def B6h:Go.Shelf.Ren:=⟨fun| 156=>147| 165=>202| 166=>203| 169=>204| 240=>256| 241=>257| 276=>293| 277=>294|n=>n,fun| 31=>27| 9=>9| 3=>3| 4=>4| 0=>0| 20=>20| 72=>212| 76=>208| 70=>210| 37=>33| 75=>207| 127=>260| 164=>296| 5=>5| 80=>214|n=>n,fun|n=>n⟩
theorem B3v:Go.Proofs.Lays.n156 Tryz.prog B6h:= {
 mixed:=by kernel_rfl,
 f156:=Tryz.func147.trans (A6 some Ah),
 f165:=Tryz.func202.trans (A6 some Ah),
 f166:=Tryz.func203.trans (A6 some Ah),
 f169:=Tryz.func204.trans (A6 some Ah),
 f240:=Tryz.func256.trans (A6 some Ah),
 f241:=Tryz.func257.trans (A6 some Ah),
 f276:=Tryz.func293.trans (A6 some Ah),
 f277:=Tryz.func294.trans (A6 some Ah),
 t0:=Tryz.underlying0,
 a0:=Tryz.isAgg0,
 z0:=Tryz.sizeOf0,
 v0:=Tryz.zeroValue0,
 t3:=Tryz.underlying3,
 a3:=Tryz.isAgg3,
 z3:=Tryz.sizeOf3,
 v3:=Tryz.zeroValue3,
 t4:=Tryz.underlying4,
 a4:=Tryz.isAgg4,
 z4:=Tryz.sizeOf4,
 v4:=Tryz.zeroValue4,
 t9:=Tryz.underlying9,
 a9:=Tryz.isAgg9,
 z9:=Tryz.sizeOf9,
 v9:=Tryz.zeroValue9,
 t20:=Tryz.underlying20,
 a20:=Tryz.isAgg20,
 z20:=Tryz.sizeOf20,
 v20:=Tryz.zeroValue20,
 t31:=Tryz.underlying27,
 a31:=Tryz.isAgg27,
 z31:=Tryz.sizeOf27,
 v31:=Tryz.zeroValue27,
 t37:=Tryz.underlying33,
 a37:=Tryz.isAgg33,
 z37:=Tryz.sizeOf33,
 v37:=Tryz.zeroValue33,
 t70:=Tryz.underlying210,
 a70:=Tryz.isAgg210,
 z70:=Tryz.sizeOf210,
 v70:=Tryz.zeroValue210,
 t72:=Tryz.underlying212,
 a72:=Tryz.isAgg212,
 z72:=Tryz.sizeOf212,
 v72:=Tryz.zeroValue212,
 t75:=Tryz.underlying207,
 a75:=Tryz.isAgg207,
 z75:=Tryz.sizeOf207,
 v75:=Tryz.zeroValue207,
 t76:=Tryz.underlying208,
 a76:=Tryz.isAgg208,
 z76:=Tryz.sizeOf208,
 v76:=Tryz.zeroValue208,
 t127:=Tryz.underlying260,
 a127:=Tryz.isAgg260,
 z127:=Tryz.sizeOf260,
 v127:=Tryz.zeroValue260,
 t164:=Tryz.underlying296,
 a164:=Tryz.isAgg296,
 z164:=Tryz.sizeOf296,
 v164:=Tryz.zeroValue296}
def C3z:Go.Shelf.Ren:=⟨fun| 156=>147| 165=>202| 166=>203| 169=>204| 240=>256| 241=>257| 276=>293| 277=>294|n=>n,fun| 31=>27| 9=>9| 3=>3| 4=>4| 0=>0| 20=>20| 72=>212| 76=>208| 70=>210| 37=>33| 75=>207| 127=>260| 164=>296| 5=>5| 80=>214|n=>n,fun|n=>n⟩
theorem C62:Go.Proofs.Builder.Extra Tryz.prog C3z:= {
 sizeBuilder:=by kernel_rfl,
 liesBuilder:=by kernel_rfl,
 t5:=Tryz.underlying5,
 a5:=Tryz.isAgg5,
 z5:=Tryz.sizeOf5,
 v5:=Tryz.zeroValue5,
 infoByte:=by kernel_rfl,
 cellsByte:=by kernel_rfl,
 sizeByte:=by kernel_rfl,
 neB5:=by decide}
theorem C94 {w:World}{a:Addr}{v:Value}(h:w.cell? a=some v):a.block<w.heap.size:=by
 by_cases hl:a.block<w.heap.size
 ·exact hl
 exfalso
 unfold World.cell? at h;rw [Array.getElem?_eq_none A7] at h
 simp at h
theorem C6x (xs:List ByteArray)(hx:xs.length≤1048576)(hs:(Cx xs).size≤140737488355328):Dj 147 [.one (Cj xs),.one (vs (⟨#[32]⟩:ByteArray))] [.one (vs (Cx xs))]:=by
 refine ⟨⟨_,Tryz.func147,by decide,rfl⟩,fun w vals hl hv=>?_⟩
 match vals,hl with
 | [v,u],_=>
  have h1:u= .string (⟨#[32]⟩:ByteArray):=Ub (A:=fun _=>False) (hv 1 _ rfl);have h0:R2 w (fun _=>False) (Cj xs) v:=hv 0 _ rfl;subst h1
  rcases D0n h0 with ⟨a,c,rfl,rfl⟩|⟨b,o,c,rfl,hc,hcells⟩
  ·refine (Any.strings_Join_none B3v C62 a c (⟨#[32]⟩:ByteArray) w).mono ?_
   rintro e w' ⟨rfl,rfl⟩
   exact Xf (by first|exact Go.Sx.Below.refl _ _|exact Go.RowKit.Below.refl _ _) rfl
  by_cases hn:xs=[]
  ·subst hn
   refine (Any.strings_Join_none B3v C62 _ c (⟨#[32]⟩:ByteArray) w).mono ?_
   rintro e w' ⟨rfl,rfl⟩
   exact Xf (by first|exact Go.Sx.Below.refl _ _|exact Go.RowKit.Below.refl _ _) rfl
  have hb:b<w.heap.size:=by
   obtain ⟨x,r,rfl⟩:=List.exists_cons_of_ne_nil hn;exact C94 (hcells 0 x rfl)
  refine (Any.strings_Join B3v C62 b o c xs (⟨#[32]⟩:ByteArray) w hcells hb A7 hc (by rw [Cx,bsz,Nh] at hs;exact hs)).mono ?_
  rintro e w' ⟨rfl,hw⟩
  exact Xf hw rfl
theorem O5:∀(l cur:List UInt8),∀x∈Lib.fieldsGo cur l,x.length≤cur.length+l.length
 | [],cur,x,hx=>by
  rw [Pi] at hx
  split at hx
  ·cases hx
  rw [Ke.1 hx];exact Us _ _
 |b::l,cur,x,hx=>by
  rw [O4] at hx
  split at hx
  ·split at hx
   ·have:=O5 l [] x hx
    simp only [Ld,Gi] at *;omega
   rcases Ca.1 hx with rfl|hx
   ·exact Us _ _
   have:=O5 l [] x hx
   simp only [Ld,Gi] at *;omega
  have:=O5 l (cur++[b]) x hx
  simp only [D7,Gi,Ld] at *;omega
theorem G3 (s:ByteArray):∀x∈A5 s,x.size≤600:=fun x hx=>by
 unfold A5 at hx
 split at hx
 ·rename_i hP
  obtain ⟨l,hl,rfl⟩:=Fu.1 hx;have h1:=O5 s.data.toList [] l hl;have h2:s.data.toList.length=s.size:=Nq;rw [bsz,Nh]
  have:=hP.1
  simp only [Ld] at h1;omega
 cases hx
theorem A7u (p:List ByteArray)(k:Nat)(h:k<p.length):Cx (p.take (k+1))=(if 0<k then Cx (p.take k)++(⟨#[32]⟩:ByteArray) else Cx (p.take k))++p.getD k default:=by
 rw [Ff p k h]
 by_cases e:k=0
 ·subst e
  rw [Ab A7,List.take_zero,Ut,B1v];exact (ByteArray.empty_append).symm
 rw [Ak A7]
 exact Za _ _ (by
  intro h0
  have:=A6 List.length h0
  rw [Eo] at this;simp only [Ld] at this
  omega)
theorem A4d (p:List ByteArray)(hp:∀x∈p,x.size≤600)(k:Nat)(hk:k≤p.length):(Cx (p.take k)).size≤601 * k:=by
 induction k with
 |zero=>exact Df _
 |succ k ih=>
  have h1:=hp _ (Am (d:=default) (show k<p.length by omega))
  have h2:=ih A7;rw [A7u p k A7,Ox]
  split
  ·rw [Ox]
   have h3:((⟨#[32]⟩:ByteArray)).size=1:=rfl;omega
  omega
theorem A4e (s:ByteArray):(Cx (A5 s)).size≤7212:=by
 have h1:=H2 s;have h2:=A4d (A5 s) (G3 s) (A5 s).length (Df _);rw [Hx] at h2;omega
theorem Rp (p:List ByteArray)(i:Nat)(hp:∀x∈p,x.size≤600)(hl:p.length≤12)(hi:i≤12):Dj 205 [.one (Cj p),.one (vi i)] [.one (vi (En p i))]:=by
 refine E3 Tryz.func205 fun W=>?_;refine Cc (fun hc=>?_) fun hc=>?_
 ·have hc:=Bj hc
  exact An A0 rfl rfl ⟨A6 vi (by rw [En,Ab A7]),trivial⟩
 have hc:=Cr hc;have h:i<p.length:=by omega
 have hx:=hp _ (Am (d:=default) h);refine B8 ?_;refine F0 (H4 (p.getD i default) A7) ?_;exact An A0 rfl rfl ⟨A6 vi (by rw [En,Ak h]),trivial⟩
theorem A88 (p:List ByteArray)(hp:∀x∈p,x.size≤600)(hl:p.length≤12):Dj 206 [.one (Cj p)] [.one (vs (Cx p))]:=by
 refine E3 Tryz.func206 fun W=>?_;refine Fv [] (fun k:Nat=>[(3,.c (vs (Cx (p.take k)))),(4,.c (vi k))]) (fun k=>[]) (fun k=>[]) (fun k=>k≤p.length) (fun k=>p.length-k) fun k hk=>?_;refine Eh (fun h=>?_) fun h=>?_
 ·have h:k<p.length:=by omega
  have hs:=A4d p hp k A7;have hx:=hp _ (Am (d:=default) h);have hj:=A7u p k h;have h1:(Cx (p.take k)++(⟨#[32]⟩:ByteArray)).size=(Cx (p.take k)).size+1:=Ox;refine Cc (fun hg=>?_) fun hg=>?_
  ·have hg:0<k:=by have:=Bj hg;omega
   rw [Ak hg] at hj;refine B8 ?_;refine Ci [] (k+1) A7 A7 ⟨A6 (fun z=>AV.c (vs z)) hj.symm,rfl,trivial⟩ trivial
  have hg:¬ 0<k:=by have:=Cr hg;omega
  rw [Ab hg] at hj;refine B8 ?_;refine Ci [] (k+1) A7 A7 ⟨A6 (fun z=>AV.c (vs z)) hj.symm,rfl,trivial⟩ trivial
 have e:k=p.length:=by omega
 exact An A0 rfl rfl ⟨A6 vs (by rw [e,Hx]),trivial⟩
def Nk (s:ByteArray) (w:Nat):Bool:=Gc s&&decide (w≤(A5 s).length)&&Qf (A5 s) w
def Dr (s:ByteArray) (w:Nat):List Int:=if Nk s w then Gh (A5 s) w else []
def B2p (s:ByteArray) (w:Nat):ByteArray:=if Nk s w then Cx (A5 s) else (⟨#[]⟩:ByteArray)
theorem Xm {s:ByteArray}{w:Nat}(h:Nk s w=false):Dr s w=[]∧B2p s w=(⟨#[]⟩:ByteArray):=by simp [Dr,B2p,h]
theorem Km {s:ByteArray}{w:Nat}(h:Nk s w=true):Dr s w=Gh (A5 s) w∧B2p s w=Cx (A5 s):=by simp [Dr,B2p,h]
theorem Y8 (s:ByteArray)(w:Nat)(hs:s.size≤1048576)(hw2:w≤2):A57 Tryz.prog Vb 82 [.one (vs s),.one (vi w)] (fun v:Value=>v.oneCell'=true) (fun v=>[.one (Ej (Dr s w)),.one (.val v),.one (vs (B2p s w)),.one (vb (Nk s w))]):=by
 have hl:=H2 s;have hp:=G3 s;have hjs:=A4e s;refine D1o A0 false Tryz.func82 rfl Cw fun W hW=>?_;conv=>whnf
 refine Dt (Vy s hs) B3 hW rfl (Aj ?_)
 repeat' (first|(refine I1 ?_;conv=>whnf)|(refine I2 ?_;conv=>whnf)|(refine ⟨fun h=>?_,fun h=>?_⟩<;>conv=>whnf)|(refine Co ?_;conv=>whnf)|fail)
 ·have hb:Gc s=false:=by simpa using h
  have hok:Nk s w=false:=by rw [Nk,hb];rfl
  have hh:=Xm hok;refine A5c 4 1 (fun i=>(fun n=>[vi n]) (([]:List Int).getD i default)) rfl ?_;refine D0q (.slice none 0 0) rfl ?_;exact An A0 rfl rfl ⟨by (conv=>whnf);rw [hh.1];rfl,.inl rfl,A6 vs hh.2,A6 vb hok,trivial⟩
 ·have hlt:(A5 s).length<w:=by have:=Bj h;omega
  have hok:Nk s w=false:=by rw [Nk,Cb (by omega:¬ w≤(A5 s).length)];simp
  have hh:=Xm hok;refine A5c 4 1 (fun i=>(fun n=>[vi n]) (([]:List Int).getD i default)) rfl ?_;refine D0q (.slice none 0 0) rfl ?_;exact An A0 rfl rfl ⟨by (conv=>whnf);rw [hh.1];rfl,.inl rfl,A6 vs hh.2,A6 vb hok,trivial⟩
 rename_i hb0
 have hb:Gc s=true:=by simpa using hb0
 have hwl:w≤(A5 s).length:=by have:=Cr h;omega
 have hsub:Xz (A5 s).length 1 (fun i=>[vs ((A5 s).getD i default)]) (w:Int) ((A5 s).length:Int) (Cj ((A5 s).drop w)):=by
  have h:=Xr (es:=1) (e:=fun b=>[vs b]) (xs:=A5 s) (l:=(w:Int)) (h:=((A5 s).length:Int)) A7 A7 A7
  rwa [Bu,K0 (by rw [G4];omega)] at h
 have hq:∀x∈(A5 s).drop w,x.size≤600:=fun x hx=>hp x (A3s hx);have hql:((A5 s).drop w).length≤12:=by rw [G4];omega
 generalize hQ:(A5 s).drop w=Q at hsub hq hql;refine U4 10 1 (fun i=>(fun n=>[vi n]) (([]:List Int).getD i default)) rfl ?_;refine P3 A0 rfl ⟨by omega,by omega,by omega⟩ (Cj Q) hsub (Aj ?_);have hz:∀x∈Q.take 0,U7 x=true:=fun x hx=>by rw [List.take_zero] at hx;cases hx
 refine Fv [] (fun k:Nat=>[(32,.c (vi k))]) (fun k=>[]) (fun k=>[⟨0,Ej ((Q.take k).map Sd)⟩]) (fun k=>k≤Q.length∧(∀x∈Q.take k,U7 x=true)) (fun k=>Q.length-k) fun k hk=>?_;obtain ⟨hk,he⟩:=hk;refine Eh (fun h'=>?_) fun h'=>?_
 ·have h':k<Q.length:=by omega
  have hx:=hq _ (Am (d:=default) h');refine B8 ?_;refine Dt (V2 (Q.getD k default) A7) B3 hW rfl (Aj ?_);refine Cc (fun hc=>?_) fun hc=>?_
  ·have hr:U7 (Q.getD k default)=false:=by simpa using hc
   have hok:Nk s w=false:=by
    rw [Nk,Qf,hQ,A31 h' hr];simp
   have hh:=Xm hok;refine A5c 4 1 (fun i=>(fun n=>[vi n]) (([]:List Int).getD i default)) rfl ?_;refine D0q (.slice none 0 0) rfl ?_;exact An A0 rfl rfl ⟨by (conv=>whnf);rw [hh.1];rfl,.inl rfl,A6 vs hh.2,A6 vb hok,trivial⟩
  have hr:U7 (Q.getD k default)=true:=by simpa using hc
  have hnext:∀x∈Q.take (k+1),U7 x=true:=fun x hx=>by
   rw [Ff Q k h'] at hx
   rcases Ng.1 hx with hx|hx
   ·exact he x hx
   rw [Ke.1 hx];exact hr
  refine B8 ?_;refine B9 A0 rfl (Ej ((Q.take k).map Sd++[Sd (Q.getD k default)])) (Ao rfl) Hy Qv (Er ?_);refine Ci [(0,2)] (k+1) ⟨by omega,hnext⟩ A7 ⟨rfl,trivial⟩ ⟨A6 Ej (A71 _ _ _ h').symm,trivial⟩
 have e:k=Q.length:=by omega
 have hall:Q.take k=Q:=by rw [e,Hx]
 rw [hall]
 have hok:Nk s w=true:=by
  rw [Nk,hb,Dg hwl,Qf,hQ,J6.2 (fun x hx=>he x (by rw [hall];exact hx))];rfl
 have hh:=Km hok;refine F0 (C6x (A5 s) A7 A7) ?_;refine D3k 5 rfl (fun a m c=>D0q (.slice a m c) rfl ?_);exact An A0 rfl rfl ⟨by (conv=>whnf);exact A6 Ej (by rw [hh.1,Gh,hQ]),by (cases a<;>(conv=>whnf));exact Or.inl rfl,A6 vs hh.2,A6 vb hok,trivial⟩
theorem K9 {n:Int}(h:0≤n):noB (Ia n):=by
 obtain ⟨m,rfl⟩:∃m:Nat,n=m:=⟨n.toNat,by omega⟩;exact D1m m
theorem N5 {n:Int}(h:0≤n∧n≤1000000000):U7 (Ia n)=true:=by
 obtain ⟨m,rfl⟩:∃m:Nat,n=m:=⟨n.toNat,by omega⟩;exact (D0i m A7).1
def S8 (s:ByteArray) (w:Nat):List ByteArray:=if Nk s w then A5 s else []
theorem Zl {s:ByteArray}{w:Nat}(h:Nk s w=false):S8 s w=[]:=by simp [S8,h]
theorem T1 {s:ByteArray}{w:Nat}(h:Nk s w=true):S8 s w=A5 s:=by simp [S8,h]
theorem Pl (s:ByteArray)(w:Nat)(hs:s.size≤1048576)(hw2:w≤2):Dy Tryz.prog Vb 82 [.one (vs s),.one (vi w)] [.one (Ej (Dr s w)),.one (Cj (S8 s w)),.one (vs (B2p s w)),.one (vb (Nk s w))]:=by
 have hl:=H2 s;have hp:=G3 s;have hjs:=A4e s;refine Ga A0 false Tryz.func82 rfl Cw fun W hW=>?_;conv=>whnf
 refine To (Vy s hs) B3 hW rfl (Aj ?_)
 repeat' (first|(refine I1 ?_;conv=>whnf)|(refine I2 ?_;conv=>whnf)|(refine ⟨fun h=>?_,fun h=>?_⟩<;>conv=>whnf)|(refine Co ?_;conv=>whnf)|fail)
 ·have hb:Gc s=false:=by simpa using h
  have hok:Nk s w=false:=by rw [Nk,hb];rfl
  have hh:=Xm hok;have hq:=Zl hok;refine A5c 4 1 (fun i=>(fun n=>[vi n]) (([]:List Int).getD i default)) rfl ?_;refine A5c 5 1 (fun i=>(fun b=>[vs b]) (([]:List ByteArray).getD i default)) rfl ?_;exact An A0 rfl rfl ⟨by (conv=>whnf);rw [hh.1];rfl,by (conv=>whnf);rw [hq];rfl,A6 vs hh.2,A6 vb hok,trivial⟩
 ·have hlt:(A5 s).length<w:=by have:=Bj h;omega
  have hok:Nk s w=false:=by rw [Nk,Cb (by omega:¬ w≤(A5 s).length)];simp
  have hh:=Xm hok;have hq:=Zl hok;refine A5c 4 1 (fun i=>(fun n=>[vi n]) (([]:List Int).getD i default)) rfl ?_;refine A5c 5 1 (fun i=>(fun b=>[vs b]) (([]:List ByteArray).getD i default)) rfl ?_;exact An A0 rfl rfl ⟨by (conv=>whnf);rw [hh.1];rfl,by (conv=>whnf);rw [hq];rfl,A6 vs hh.2,A6 vb hok,trivial⟩
 rename_i hb0
 have hb:Gc s=true:=by simpa using hb0
 have hwl:w≤(A5 s).length:=by have:=Cr h;omega
 have hsub:Xz (A5 s).length 1 (fun i=>[vs ((A5 s).getD i default)]) (w:Int) ((A5 s).length:Int) (Cj ((A5 s).drop w)):=by
  have h:=Xr (es:=1) (e:=fun b=>[vs b]) (xs:=A5 s) (l:=(w:Int)) (h:=((A5 s).length:Int)) A7 A7 A7
  rwa [Bu,K0 (by rw [G4];omega)] at h
 have hq:∀x∈(A5 s).drop w,x.size≤600:=fun x hx=>hp x (A3s hx);have hql:((A5 s).drop w).length≤12:=by rw [G4];omega
 generalize hQ:(A5 s).drop w=Q at hsub hq hql;refine C9q 0 rfl fun B v fp hF=>?_;refine D25 hF 28 rfl ?_;refine U4 10 1 (fun i=>(fun n=>[vi n]) (([]:List Int).getD i default)) rfl ?_;refine P3 A0 rfl ⟨by omega,by omega,by omega⟩ (Cj Q) hsub (Aj ?_);have hz:∀x∈Q.take 0,U7 x=true:=fun x hx=>by rw [List.take_zero] at hx;cases hx
 refine Fv [] (fun k:Nat=>[(32,.c (vi k))]) (fun k=>[]) (fun k=>[⟨1,Ej ((Q.take k).map Sd)⟩]) (fun k=>k≤Q.length∧(∀x∈Q.take k,U7 x=true)) (fun k=>Q.length-k) fun k hk=>?_;obtain ⟨hk,he⟩:=hk;refine Eh (fun h'=>?_) fun h'=>?_
 ·have h':k<Q.length:=by omega
  have hx:=hq _ (Am (d:=default) h');refine B8 ?_;refine D1k hF (V2 (Q.getD k default) A7) B3 hW rfl (Aj ?_);refine Cc (fun hc=>?_) fun hc=>?_
  ·have hr:U7 (Q.getD k default)=false:=by simpa using hc
   have hok:Nk s w=false:=by
    rw [Nk,Qf,hQ,A31 h' hr];simp
   have hh:=Xm hok;have hq:=Zl hok;refine A5c 4 1 (fun i=>(fun n=>[vi n]) (([]:List Int).getD i default)) rfl ?_;refine A5c 5 1 (fun i=>(fun b=>[vs b]) (([]:List ByteArray).getD i default)) rfl ?_;exact D3o A0 hF rfl rfl ⟨by (conv=>whnf);rw [hh.1];rfl,by (conv=>whnf);rw [hq];rfl,A6 vs hh.2,A6 vb hok,trivial⟩
  have hr:U7 (Q.getD k default)=true:=by simpa using hc
  have hnext:∀x∈Q.take (k+1),U7 x=true:=fun x hx=>by
   rw [Ff Q k h'] at hx
   rcases Ng.1 hx with hx|hx
   ·exact he x hx
   rw [Ke.1 hx];exact hr
  refine B8 ?_;refine B9 A0 rfl (Ej ((Q.take k).map Sd++[Sd (Q.getD k default)])) (Ao rfl) Hy Qv (Er ?_);refine Ci [(1,3)] (k+1) ⟨by omega,hnext⟩ A7 ⟨rfl,trivial⟩ ⟨A6 Ej (A71 _ _ _ h').symm,trivial⟩
 have e:k=Q.length:=by omega
 have hall:Q.take k=Q:=by rw [e,Hx]
 rw [hall]
 have hok:Nk s w=true:=by
  rw [Nk,hb,Dg hwl,Qf,hQ,J6.2 (fun x hx=>he x (by rw [hall];exact hx))];rfl
 have hh:=Km hok;have hq:=T1 hok;rw [show Dr s w=Q.map Sd by rw [hh.1,Gh,hQ],hq,hh.2,hok]
 refine D24 hF 0 rfl ?_;refine F0 (C6x (A5 s) A7 A7) ?_;exact D3q A0 hF 1 rfl rfl rfl ⟨rfl,B63 _ _,rfl,rfl,trivial⟩
def Jc (x:D5):Prop:=(1≤x.kind∧x.kind≤8)∧(x.kind=2→0≤x.a∧x.a≤999∧x.b=0)∧(x.kind=3→1≤x.a∧x.a≤10∧0≤x.b∧x.b≤x.a-1)∧(x.kind=4→0≤x.a∧x.a≤99∧x.b=0)∧
 (x.kind≠2→x.kind≠3→x.kind≠4→x.a=0∧x.b=0)∧x.ax.length≤2∧(x.kind=8→x.ax.length=0)∧(x.ax.length=2→x.ax.getD 0 default≠x.ax.getD 1 default)∧(∀n∈x.ax,0≤n∧n≤7)
instance (x:D5):Decidable (Jc x):=by unfold Jc;infer_instance
def Lh (x:D5):Bool:=decide (Jc x)
def A59 (l:List Int) (k:Nat):Prop:=∀i,i<k→0≤l.getD i default∧l.getD i default≤7
theorem A8c {l:List Int}{k:Nat}(h:A59 l k)(h1:0≤l.getD k default)(h2:l.getD k default≤7):A59 l (k+1):=fun i hi=>by
 by_cases e:i=k
 ·subst e;exact ⟨h1,h2⟩
 exact h i A7
theorem B17 {l:List Int}(h:A59 l l.length):∀n∈l,0≤n∧n≤7:=fun n hn=>by
 obtain ⟨i,hi,e⟩:=Ry hn
 have:=h i hi
 rw [List.getD,Cl hi] at this;rw [←e];exact this
def A6a (x:D5):Prop:=(1≤x.kind∧x.kind≤8)∧(x.kind=2→0≤x.a∧x.a≤999∧x.b=0)∧(x.kind=3→1≤x.a∧x.a≤10∧0≤x.b∧x.b≤x.a-1)∧(x.kind=4→0≤x.a∧x.a≤99∧x.b=0)∧
 (x.kind≠2→x.kind≠3→x.kind≠4→x.a=0∧x.b=0)
theorem Jc.pars {x:D5}(h:Jc x):A6a x:=⟨h.1,h.2.1,h.2.2.1,h.2.2.2.1,h.2.2.2.2.1⟩
theorem Ty (x:D5)(hx:x.w≤16777216):Dj 112 [.agg x.c] [.one (vb (Lh x))]:=by
 have hl:x.ax.length≤16777216:=hx;refine C6b 6 A0 false Tryz.func112 rfl Cw fun W=>?_;conv=>whnf
 refine C9e A0 false (J:=Unit) [5,6,7,8,9,10,11,12,13,14,15,16,17,18,19,20,21,22,23,24,25,26,27,28,29,30,31,32,33,34,35,36,37,38,39,40,41,42,43,44,45,46,47,48,49,50,51,52,53,54,55,56,57] (fun _=>[]) (fun _=>[⟨0,[.c (vi x.kind),.c (vi x.a),.c (vi x.b),.c (Ej x.ax)]⟩]) (fun _=>[]) (fun _=>A6a x) ?_ ?_
 ·conv=>whnf
  repeat' (first|(refine I1 ?_;conv=>whnf)|(refine I2 ?_;conv=>whnf)|(refine ⟨fun h=>?_,fun h=>?_⟩<;>conv=>whnf)|(refine As (H9 _ _ _) rfl (Aj ?_))|(refine Co ?_;conv=>whnf)|(refine Al 19 rfl [0,1,2,3,4,5,6,7,8,9,10,11,12,13,14,15,16,17,18,19,20,21,22,23,24,25,26,27,28,29,30,31] Ah (Aj ?_))|fail)
  all_goals first
   |(refine An A0 rfl rfl ⟨A6 vb (Cb fun p=>?_),trivial⟩;have p:=p.pars;unfold A6a at p;obtain ⟨p1,p2,p3,p4,p5⟩:=p;simp only [Ey] at * <;>omega)
   |(refine Ci [] () ?_ Cw trivial trivial;refine ⟨?_,?_,?_,?_,?_⟩<;>(intros;simp only [Ey] at * <;>omega))
 intro _ hp;have hu:A59 x.ax 0:=fun i h=>absurd h (Kt i);conv=>whnf
 unfold A6a at hp
 repeat' (first|(refine I1 ?_;conv=>whnf)|(refine I2 ?_;conv=>whnf)|(refine ⟨fun h=>?_,fun h=>?_⟩<;>conv=>whnf)|(refine Co ?_;conv=>whnf)|(refine Al 19 rfl [0,1,2,3,4,5,6,7,8,9,10,11,12,13,14,15,16,17,18,19,20,21,22,23,24,25,26,27,28,29,30,31] Ah (Aj ?_))|fail)
 all_goals try (refine An A0 rfl rfl ⟨A6 vb (Cb fun p=>?_),trivial⟩;obtain ⟨p1,p2,p3,p4,p5,p6,p7,p8,p9⟩:=p;clear hp p1 p2 p3 p4 p5 p9;simp only [Ey] at * <;>omega)
 all_goals
  refine Fv [] (fun k:Nat=>[(93,.c (vi k))]) (fun k=>[⟨0,[.c (vi x.kind),.c (vi x.a),.c (vi x.b),.c (Ej x.ax)]⟩]) (fun k=>[]) (fun k=>k≤x.ax.length∧A59 x.ax k) (fun k=>x.ax.length-k) fun k hk=>?_;obtain ⟨hk,he⟩:=hk;refine Eh (fun h'=>?_) fun h'=>?_
  ·have h':k<x.ax.length:=by omega
   refine B8 ?_;refine F0 (H9 (x.ax.getD k default) 0 7) ?_;refine Cc (fun hc=>?_) fun hc=>?_
   ·exact An A0 rfl rfl ⟨A6 vb (Cb fun p=>by have p9:=p.2.2.2.2.2.2.2.2 _ (Am (d:=default) h');clear p hp he;simp only [Ey] at * <;>omega),trivial⟩
   have hc:=Go.Sx.Ch.1 (by simpa using hc);refine B8 ?_;refine Ci [] (k+1) ⟨by omega,A8c he hc.1 hc.2⟩ A7 ⟨rfl,trivial⟩ trivial
  have e:k=x.ax.length:=by omega
  refine An A0 rfl rfl ⟨A6 vb (Dg ⟨hp.1,hp.2.1,hp.2.2.1,hp.2.2.2.1,hp.2.2.2.2,?_,?_,?_,B17 (e▸he)⟩),trivial⟩
  all_goals (clear he hp;intros;simp only [Ey] at * <;>omega)
theorem C58 {p:Prop}(d:Decidable p)(q:Prop) [Decidable q]:(Decidable.rec (motive:=fun _=>Bool) (fun _=>false) (fun _=>decide q) d=true)↔(p∧q):=by
 cases d<;>simp [*]
theorem Zv (x:D5)(hx:x.w≤16777216):Dj 128 [.agg x.c] [.one (vb (Lh x))]:=by
 have hl:x.ax.length≤16777216:=hx;have hw1:1≤x.a→x.a≤10→IntKind.wrap .i64 (x.a-1)=x.a-1:=fun h1 h2=>Ks (by show _∧_;omega)
 refine C6b 20 A0 true Tryz.func128 rfl Cw fun W=>?_;conv=>whnf
 refine C9e A0 true (J:=Bool×Bool) [12,13,14,15,16,17,18,19,20,21,22,23,24,25,26,27,28,29,30,31,32,33,34] (fun j=>[(3,.c (vb j.1)),(4,.c (vb j.2))]) (fun _=>[⟨0,[.c (vi x.kind),.c (vi x.a),.c (vi x.b),.c (Ej x.ax)]⟩]) (fun _=>[]) (fun j=>((j.1=true∧j.2=true∧1≤x.kind∧x.kind≤8)↔A6a x)) ?_ ?_
 ·conv=>whnf
  repeat' (first|(refine I1 ?_;conv=>whnf)|(refine I2 ?_;conv=>whnf)|(refine ⟨fun h=>?_,fun h=>?_⟩<;>conv=>whnf)|(refine As (H3 _ _ _) rfl (go A0 true ?_);conv=>whnf)|(refine Co ?_;conv=>whnf)|(refine Al 16 rfl [0,1,2,3,4,5,6,7,8,9,10,11,12,13,14,15,16,17,18,19,20,21] Ah (go A0 true ?_);conv=>whnf)|fail)
  all_goals
   refine Ci [] (_,_) ?_ Cw ⟨rfl,rfl,trivial⟩ trivial;unfold A6a
   try simp only [C58]
   simp only [Ey] at * <;>omega
 rintro ⟨a,b⟩ hp
 have hu:A59 x.ax 0∧(2≤0→x.ax.getD 0 default≠x.ax.getD 1 default):=⟨fun i h=>absurd h (Kt i),fun h=>by omega⟩
 conv=>whnf
 repeat' (first|(refine I1 ?_;conv=>whnf)|(refine I2 ?_;conv=>whnf)|(refine ⟨fun h=>?_,fun h=>?_⟩<;>conv=>whnf)|(refine As (H3 _ _ _) rfl (go A0 true ?_);conv=>whnf)|(refine Co ?_;conv=>whnf)|(refine Al 16 rfl [0,1,2,3,4,5,6,7,8,9,10,11,12,13,14,15,16,17,18,19,20,21] Ah (go A0 true ?_);conv=>whnf)|fail)
 all_goals try (refine An A0 rfl rfl ⟨A6 vb (Cb fun p=>?_),trivial⟩;have q:=hp.2 p.pars;obtain ⟨p1,p2,p3,p4,p5,p6,p7,p8,p9⟩:=p;clear hp hu p2 p3 p4 p5 p9;simp only [Ey] at * <;>first|omega|simp_all)
 all_goals
  refine Ok A0 true [] (fun k:Nat=>[(5,.c (vi k))]) (fun k=>[⟨0,[.c (vi x.kind),.c (vi x.a),.c (vi x.b),.c (Ej x.ax)]⟩]) (fun k=>[])
   (fun k=>k≤x.ax.length∧(A59 x.ax k∧(2≤k→x.ax.getD 0 default≠x.ax.getD 1 default))) (fun k=>x.ax.length-k) 0 ⟨Fk _,by first|rfl|assumption|simp⟩ ⟨(by first|rfl|simp [I7,ren2,ren1,ren0]),trivial⟩ A2j trivial ab9 Ah (fun k hk=>?_)
  obtain ⟨hk,he⟩:=hk;conv=>whnf
  refine Eh (fun h'=>?_) fun h'=>?_
  ·have h':k<x.ax.length:=by omega
   clear hp hu
   repeat' (first|(refine I1 ?_;conv=>whnf)|(refine I2 ?_;conv=>whnf)|(refine ⟨fun h=>?_,fun h=>?_⟩<;>conv=>whnf)|(refine As (H3 _ _ _) rfl (go A0 true ?_);conv=>whnf)|(refine Co ?_;conv=>whnf)|(refine Al 16 rfl [0,1,2,3,4,5,6,7,8,9,10,11,12,13,14,15,16,17,18,19,20,21] Ah (go A0 true ?_);conv=>whnf)|fail)
   all_goals try (refine An A0 rfl rfl ⟨A6 vb (Cb fun p=>?_),trivial⟩;have p9:=p.2.2.2.2.2.2.2.2 _ (Am (d:=default) h');have p8:=p.2.2.2.2.2.2.2.1;have p6:=p.2.2.2.2.2.1;clear p he;simp only [Ey] at * <;>omega)
   all_goals
    refine Ci [] (k+1) ⟨by omega,⟨A8c he.1 (by clear he;simp only [Ey] at * <;>omega) (by clear he;simp only [Ey] at * <;>omega),by have q:=he.2;clear he;simp only [Ey] at * <;>omega⟩⟩ A7 ⟨A6 (fun n=>AV.c (vi n)) (C42 k A7),trivial⟩ trivial
  have e:k=x.ax.length:=by omega
  have hq:A6a x:=hp.1 (by clear hp hu he;simp only [Ey] at * <;>first|omega|(refine ⟨?_,?_,?_,?_⟩<;>first|assumption|omega))
  have q:=he.2;refine An A0 rfl rfl ⟨A6 vb (Dg ⟨hq.1,hq.2.1,hq.2.2.1,hq.2.2.2.1,hq.2.2.2.2,?_,?_,?_,B17 (e▸he.1)⟩),trivial⟩
  all_goals (clear he hp hu hq;intros;simp only [Ey] at * <;>omega)
end Go.Proofs.YtmhcebdkjgkmlaaGreatDoor
