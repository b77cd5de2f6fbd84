/- Part 16 of the proof that each of the laws FnScriptsBack returns true for every input. No conditions. -/
import Derived.Test.YtmhcebdkjgkmlaaGreatDoorR11
import Derived.Shelf.Strconv.ErrVarAll
import Derived.Shelf.Strconv.AtoiAll

set_option linter.unusedSimpArgs false
set_option linter.unusedVariables false
set_option maxRecDepth 100000
namespace Go.Proofs.YtmhcebdkjgkmlaaGreatDoor
open Go.Sx
def B4u:Go.Shelf.Ren:=⟨fun| 172=>201| 244=>254| 245=>255| 247=>288| 279=>289| 280=>290| 281=>291| 282=>292| 287=>317| 316=>318| 171=>116| 205=>319| 321=>327| 322=>328| 243=>172| 246=>220| 283=>264| 284=>265| 285=>266| 286=>267| 129=>301| 317=>300| 318=>302| 319=>303| 320=>304| 337=>323| 338=>324|n=>n,fun| 9=>9| 3=>3| 75=>207| 76=>208| 4=>4| 5=>5| 167=>290| 37=>33| 0=>0| 85=>291| 2=>2| 168=>293| 53=>266| 175=>315| 46=>215| 210=>319| 127=>260| 145=>328| 143=>326| 21=>21| 171=>265| 173=>269| 212=>302| 51=>256| 20=>20| 213=>303| 232=>330| 233=>331| 80=>214|n=>n,fun| 15=>6| 16=>7| 17=>3| 18=>8| 19=>9|n=>n⟩
theorem B2c:Go.Proofs.LaysC.n172 Tryz.prog B4u:= {
 mixed:=by kernel_rfl,
 f129:=Tryz.func301.trans (A6 some Ak),
 f171:=Tryz.func116.trans (A6 some Ak),
 f172:=Tryz.func201.trans (A6 some Ak),
 f205:=Tryz.func319.trans (A6 some Ak),
 f243:=Tryz.func172.trans (A6 some Ak),
 f244:=Tryz.func254.trans (A6 some Ak),
 f245:=Tryz.func255.trans (A6 some Ak),
 f246:=Tryz.func220.trans (A6 some Ak),
 f247:=Tryz.func288.trans (A6 some Ak),
 f279:=Tryz.func289.trans (A6 some Ak),
 f280:=Tryz.func290.trans (A6 some Ak),
 f281:=Tryz.func291.trans (A6 some Ak),
 f282:=Tryz.func292.trans (A6 some Ak),
 f283:=Tryz.func264.trans (A6 some Ak),
 f284:=Tryz.func265.trans (A6 some Ak),
 f285:=Tryz.func266.trans (A6 some Ak),
 f286:=Tryz.func267.trans (A6 some Ak),
 f287:=Tryz.func317.trans (A6 some Ak),
 f316:=Tryz.func318.trans (A6 some Ak),
 f317:=Tryz.func300.trans (A6 some Ak),
 f318:=Tryz.func302.trans (A6 some Ak),
 f319:=Tryz.func303.trans (A6 some Ak),
 f320:=Tryz.func304.trans (A6 some Ak),
 f321:=Tryz.func327.trans (A6 some Ak),
 f322:=Tryz.func328.trans (A6 some Ak),
 f337:=Tryz.func323.trans (A6 some Ak),
 f338:=Tryz.func324.trans (A6 some Ak),
 t0:=Tryz.underlying0,
 a0:=Tryz.isAgg0,
 z0:=Tryz.sizeOf0,
 v0:=Tryz.zeroValue0,
 t2:=Tryz.underlying2,
 a2:=Tryz.isAgg2,
 z2:=Tryz.sizeOf2,
 v2:=Tryz.zeroValue2,
 t3:=Tryz.underlying3,
 a3:=Tryz.isAgg3,
 z3:=Tryz.sizeOf3,
 v3:=Tryz.zeroValue3,
 t4:=Tryz.underlying4,
 a4:=Tryz.isAgg4,
 z4:=Tryz.sizeOf4,
 v4:=Tryz.zeroValue4,
 t5:=Tryz.underlying5,
 a5:=Tryz.isAgg5,
 z5:=Tryz.sizeOf5,
 v5:=Tryz.zeroValue5,
 t9:=Tryz.underlying9,
 a9:=Tryz.isAgg9,
 z9:=Tryz.sizeOf9,
 v9:=Tryz.zeroValue9,
 t20:=Tryz.underlying20,
 a20:=Tryz.isAgg20,
 z20:=Tryz.sizeOf20,
 v20:=Tryz.zeroValue20,
 t21:=Tryz.underlying21,
 a21:=Tryz.isAgg21,
 z21:=Tryz.sizeOf21,
 v21:=Tryz.zeroValue21,
 t37:=Tryz.underlying33,
 a37:=Tryz.isAgg33,
 z37:=Tryz.sizeOf33,
 v37:=Tryz.zeroValue33,
 t46:=Tryz.underlying215,
 a46:=Tryz.isAgg215,
 z46:=Tryz.sizeOf215,
 v46:=Tryz.zeroValue215,
 t51:=Tryz.underlying256,
 a51:=Tryz.isAgg256,
 z51:=Tryz.sizeOf256,
 v51:=Tryz.zeroValue256,
 t53:=Tryz.underlying266,
 a53:=Tryz.isAgg266,
 z53:=Tryz.sizeOf266,
 v53:=Tryz.zeroValue266,
 t75:=Tryz.underlying207,
 a75:=Tryz.isAgg207,
 z75:=Tryz.sizeOf207,
 v75:=Tryz.zeroValue207,
 t76:=Tryz.underlying208,
 a76:=Tryz.isAgg208,
 z76:=Tryz.sizeOf208,
 v76:=Tryz.zeroValue208,
 t85:=Tryz.underlying291,
 a85:=Tryz.isAgg291,
 z85:=Tryz.sizeOf291,
 v85:=Tryz.zeroValue291,
 t127:=Tryz.underlying260,
 a127:=Tryz.isAgg260,
 z127:=Tryz.sizeOf260,
 v127:=Tryz.zeroValue260,
 t143:=Tryz.underlying326,
 a143:=Tryz.isAgg326,
 z143:=Tryz.sizeOf326,
 v143:=Tryz.zeroValue326,
 t145:=Tryz.underlying328,
 a145:=Tryz.isAgg328,
 z145:=Tryz.sizeOf328,
 v145:=Tryz.zeroValue328,
 t167:=Tryz.underlying290,
 a167:=Tryz.isAgg290,
 z167:=Tryz.sizeOf290,
 v167:=Tryz.zeroValue290,
 t168:=Tryz.underlying293,
 a168:=Tryz.isAgg293,
 z168:=Tryz.sizeOf293,
 v168:=Tryz.zeroValue293,
 t171:=Tryz.underlying265,
 a171:=Tryz.isAgg265,
 z171:=Tryz.sizeOf265,
 v171:=Tryz.zeroValue265,
 t173:=Tryz.underlying269,
 a173:=Tryz.isAgg269,
 z173:=Tryz.sizeOf269,
 v173:=Tryz.zeroValue269,
 t175:=Tryz.underlying315,
 a175:=Tryz.isAgg315,
 z175:=Tryz.sizeOf315,
 v175:=Tryz.zeroValue315,
 t210:=Tryz.underlying319,
 a210:=Tryz.isAgg319,
 z210:=Tryz.sizeOf319,
 v210:=Tryz.zeroValue319,
 t212:=Tryz.underlying302,
 a212:=Tryz.isAgg302,
 z212:=Tryz.sizeOf302,
 v212:=Tryz.zeroValue302,
 t213:=Tryz.underlying303,
 a213:=Tryz.isAgg303,
 z213:=Tryz.sizeOf303,
 t232:=Tryz.underlying330,
 a232:=Tryz.isAgg330,
 z232:=Tryz.sizeOf330,
 v232:=Tryz.zeroValue330,
 t233:=Tryz.underlying331,
 a233:=Tryz.isAgg331,
 z233:=Tryz.sizeOf331,
 v233:=Tryz.zeroValue331,
 g15:=by kernel_rfl,
 g16:=by kernel_rfl,
 g17:=by kernel_rfl,
 g18:=by kernel_rfl,
 g19:=by kernel_rfl,
 t80:=Tryz.underlying214,
 a80:=Tryz.isAgg214,
 z80:=Tryz.sizeOf214,
 v80:=Tryz.zeroValue214,
 i0:=by kernel_rfl,
 i2:=by kernel_rfl,
 i3:=by kernel_rfl,
 i4:=by kernel_rfl,
 i5:=by kernel_rfl,
 i9:=by kernel_rfl,
 i20:=by kernel_rfl,
 i21:=by kernel_rfl,
 i37:=by kernel_rfl,
 i46:=by kernel_rfl,
 i51:=by kernel_rfl,
 i53:=by kernel_rfl,
 i75:=by kernel_rfl,
 i76:=by kernel_rfl,
 i80:=by kernel_rfl,
 i85:=by kernel_rfl,
 i127:=by kernel_rfl,
 i143:=by kernel_rfl,
 i145:=by kernel_rfl,
 i167:=by kernel_rfl,
 i168:=by kernel_rfl,
 i171:=by kernel_rfl,
 i173:=by kernel_rfl,
 i175:=by kernel_rfl,
 i210:=by kernel_rfl,
 i212:=by kernel_rfl,
 i232:=by kernel_rfl,
 i233:=by kernel_rfl,
 m15:=by kernel_rfl,
 m16:=by kernel_rfl,
 m17:=by kernel_rfl,
 m18:=by kernel_rfl,
 m19:=by kernel_rfl,
 c0:=by kernel_rfl,
 c2:=by kernel_rfl,
 c3:=by kernel_rfl,
 c4:=by kernel_rfl,
 c5:=by kernel_rfl,
 c9:=by kernel_rfl,
 c20:=by kernel_rfl,
 c21:=by kernel_rfl,
 c37:=by kernel_rfl,
 c46:=by kernel_rfl,
 c51:=by kernel_rfl,
 c53:=by kernel_rfl,
 c75:=by kernel_rfl,
 c76:=by kernel_rfl,
 c80:=by kernel_rfl,
 c85:=by kernel_rfl,
 c127:=by kernel_rfl,
 c143:=by kernel_rfl,
 c145:=by kernel_rfl,
 c167:=by kernel_rfl,
 c168:=by kernel_rfl,
 c171:=by kernel_rfl,
 c173:=by kernel_rfl,
 c175:=by kernel_rfl,
 c210:=by kernel_rfl,
 c212:=by kernel_rfl,
 c213:=by kernel_rfl,
 c232:=by kernel_rfl,
 c233:=by kernel_rfl}
def B4s:Go.Shelf.Ren:=⟨fun| 157=>142| 229=>199| 199=>200| 261=>253| 311=>286| 312=>287|n=>n,fun| 9=>9| 31=>27| 3=>3| 5=>5| 4=>4| 119=>203| 0=>0| 40=>205| 152=>253| 21=>21| 154=>255| 51=>256| 141=>258| 196=>282| 193=>279| 198=>285| 49=>283| 194=>280| 201=>288| 226=>313| 46=>215| 227=>314|n=>n,fun| 0=>0| 6=>1|n=>n⟩
theorem C8t:Go.Proofs.LaysM.n157 Tryz.prog B4s:= {
 mixed:=by kernel_rfl,
 f157:=Tryz.func142.trans (A6 some Ak),
 f199:=Tryz.func200.trans (A6 some Ak),
 f229:=Tryz.func199.trans (A6 some Ak),
 f261:=Tryz.func253.trans (A6 some Ak),
 f311:=Tryz.func286.trans (A6 some Ak),
 f312:=Tryz.func287.trans (A6 some Ak),
 t0:=Tryz.underlying0,
 a0:=Tryz.isAgg0,
 z0:=Tryz.sizeOf0,
 v0:=Tryz.zeroValue0,
 t3:=Tryz.underlying3,
 a3:=Tryz.isAgg3,
 z3:=Tryz.sizeOf3,
 v3:=Tryz.zeroValue3,
 t4:=Tryz.underlying4,
 a4:=Tryz.isAgg4,
 z4:=Tryz.sizeOf4,
 v4:=Tryz.zeroValue4,
 t5:=Tryz.underlying5,
 a5:=Tryz.isAgg5,
 z5:=Tryz.sizeOf5,
 v5:=Tryz.zeroValue5,
 t9:=Tryz.underlying9,
 a9:=Tryz.isAgg9,
 z9:=Tryz.sizeOf9,
 v9:=Tryz.zeroValue9,
 t21:=Tryz.underlying21,
 a21:=Tryz.isAgg21,
 z21:=Tryz.sizeOf21,
 v21:=Tryz.zeroValue21,
 t31:=Tryz.underlying27,
 a31:=Tryz.isAgg27,
 z31:=Tryz.sizeOf27,
 v31:=Tryz.zeroValue27,
 t40:=Tryz.underlying205,
 a40:=Tryz.isAgg205,
 z40:=Tryz.sizeOf205,
 v40:=Tryz.zeroValue205,
 t46:=Tryz.underlying215,
 a46:=Tryz.isAgg215,
 z46:=Tryz.sizeOf215,
 v46:=Tryz.zeroValue215,
 t49:=Tryz.underlying283,
 a49:=Tryz.isAgg283,
 z49:=Tryz.sizeOf283,
 v49:=Tryz.zeroValue283,
 t51:=Tryz.underlying256,
 a51:=Tryz.isAgg256,
 z51:=Tryz.sizeOf256,
 v51:=Tryz.zeroValue256,
 t119:=Tryz.underlying203,
 a119:=Tryz.isAgg203,
 z119:=Tryz.sizeOf203,
 t141:=Tryz.underlying258,
 a141:=Tryz.isAgg258,
 z141:=Tryz.sizeOf258,
 v141:=Tryz.zeroValue258,
 t152:=Tryz.underlying253,
 a152:=Tryz.isAgg253,
 z152:=Tryz.sizeOf253,
 v152:=Tryz.zeroValue253,
 t154:=Tryz.underlying255,
 a154:=Tryz.isAgg255,
 z154:=Tryz.sizeOf255,
 v154:=Tryz.zeroValue255,
 t193:=Tryz.underlying279,
 a193:=Tryz.isAgg279,
 z193:=Tryz.sizeOf279,
 v193:=Tryz.zeroValue279,
 t194:=Tryz.underlying280,
 a194:=Tryz.isAgg280,
 z194:=Tryz.sizeOf280,
 v194:=Tryz.zeroValue280,
 t196:=Tryz.underlying282,
 a196:=Tryz.isAgg282,
 z196:=Tryz.sizeOf282,
 v196:=Tryz.zeroValue282,
 t198:=Tryz.underlying285,
 a198:=Tryz.isAgg285,
 z198:=Tryz.sizeOf285,
 v198:=Tryz.zeroValue285,
 t201:=Tryz.underlying288,
 a201:=Tryz.isAgg288,
 z201:=Tryz.sizeOf288,
 v201:=Tryz.zeroValue288,
 t226:=Tryz.underlying313,
 a226:=Tryz.isAgg313,
 z226:=Tryz.sizeOf313,
 v226:=Tryz.zeroValue313,
 t227:=Tryz.underlying314,
 a227:=Tryz.isAgg314,
 z227:=Tryz.sizeOf314,
 v227:=Tryz.zeroValue314,
 g0:=by kernel_rfl,
 g6:=by kernel_rfl,
 i0:=by kernel_rfl,
 i3:=by kernel_rfl,
 i4:=by kernel_rfl,
 i5:=by kernel_rfl,
 i9:=by kernel_rfl,
 i21:=by kernel_rfl,
 i31:=by kernel_rfl,
 i40:=by kernel_rfl,
 i46:=by kernel_rfl,
 i49:=by kernel_rfl,
 i51:=by kernel_rfl,
 i141:=by kernel_rfl,
 i152:=by kernel_rfl,
 i154:=by kernel_rfl,
 i193:=by kernel_rfl,
 i194:=by kernel_rfl,
 i196:=by kernel_rfl,
 i198:=by kernel_rfl,
 i201:=by kernel_rfl,
 i226:=by kernel_rfl,
 i227:=by kernel_rfl,
 m0:=by kernel_rfl,
 m6:=by kernel_rfl}
def D1w (s:ByteArray) (i:Int×Value):Prop:=(Lib.atoiAll s.data.toList= .ok i.1∧i.2= .nilIface)∨((∀v,Lib.atoiAll s.data.toList≠ .ok v)∧∃t p,i.2= .iface t p∧i.2.oneCell'=true)
theorem D1z (s:ByteArray)(hs:s.size≤281474976710656):A4f Tryz.prog Tab 201 [.one (vs s)] (D1w s) (fun i=>[.one (vi i.1),.one (.val i.2)]):=by
 refine ⟨⟨_,Tryz.func201,by decide,rfl⟩,fun w hw vals hl hv=>?_⟩
 match vals,hl with
 | [v],_=>
  have h0:v= .string s:=U1 (A:=fun _=>False) (hv 0 _ rfl);subst h0
  cases hc:Lib.atoiAll s.data.toList with
  |ok v=>
   refine (Any.strconv_Atoi_ok B2c s A7 v hc w).mono ?_
   rintro e w' ⟨rfl,hw'⟩
   refine ⟨(v,.nilIface),.inl ⟨hc,rfl⟩,A1h ?_ rfl rfl⟩
   rcases hw' with rfl|⟨t,rfl⟩
   ·first|exact Go.Sx.Below.refl _ _|exact Go.RowKit.Below.refl _ _
   exact Lib.bytesWorld_below _ _ _
  |range=>
   obtain ⟨t,p,hvar⟩:=C7h hw;refine (Any.strconv_Atoi_range_var B2c s hs hc t p w hvar).mono ?_
   rintro e w' ⟨N,rfl,_,_,hb⟩
   exact ⟨(_,_),.inr ⟨(fun v h=>by rw [hc] at h;cases h),_,_,rfl,rfl⟩,A1h hb rfl rfl⟩
  |_=>
   obtain ⟨t,p,hvar⟩:=hw.2.2.1;refine (Any.strconv_Atoi_syntax_var B2c s hs hc t p w hvar).mono ?_
   rintro e w' ⟨N,rfl,_,_,hb⟩
   exact ⟨(_,_),.inr ⟨(fun v h=>by rw [hc] at h;cases h),_,_,rfl,rfl⟩,A1h hb rfl rfl⟩
theorem Up (s:ByteArray)(hs:s.size≤1048576):Ex Tryz.prog Tab 146 [.one (vs s)] [.one (vi (Pw s)),.one (vb (Ty s))]:=by
 refine Kq A0 false Tryz.func146 rfl Bk fun W hW=>?_;conv=>whnf
 refine B6z (D1z s A7) C6 hW rfl (fun i hi=>go A0 false ?_);obtain ⟨v,e⟩:=i;conv=>whnf
 rcases hi with ⟨ha,he⟩|⟨hn,t,p,he,h1⟩
 ·dsimp only at ha he
  subst he;have hv:=C36 ha;have hd:=Cl hv;refine D14 rfl rfl Ak rfl (r:=false) (.inl ⟨rfl,rfl⟩) (Ag ?_)
  have hsome:∀n,rd s=some n→v=n:=fun n hr=>by
   have:=B95 hr
   rw [ha] at this
   injection this
  repeat' (first|(refine Gy ?_;conv=>whnf)|(refine Gz ?_;conv=>whnf)|(refine ⟨fun h=>?_,fun h=>?_⟩<;>conv=>whnf)|(refine F4 (G8 v hv) C6 hW rfl (Ag ?_))|(refine Ao (Hw v 0 1000000000) rfl (Ag ?_))|(refine D6 ?_;conv=>whnf)|fail)
  ·have hr:rd s=none:=by
    cases hr:rd s with
    |none=>rfl
    |some n=>
     have e:=(Tz.1 hr).2;rw [←hsome n hr] at e;rw [e,Fm] at h;exact absurd h Bk
   exact Af A0 rfl rfl ⟨A6 vi (Il hr).1,A6 vb (Il hr).2,trivial⟩
  ·have hw:F0 v 0 1000000000=false:=by simpa using h
   have hw:=Go.Sx.Gv.1 hw
   have hr:rd s=none:=by
    cases hr:rd s with
    |none=>rfl
    |some n=>
     have e:=D0o hr
     have:=hsome n hr
     exact absurd (show 0≤v∧v≤1000000000 by omega) hw
   exact Af A0 rfl rfl ⟨A6 vi (Il hr).1,A6 vb (Il hr).2,trivial⟩
  rename_i hb
  have hw:F0 v 0 1000000000=true:=by simpa using h
  have hw:=Go.Sx.Dj.1 hw;have hb:(Gf v==s)=true:=by simpa using hb
  have hr:rd s=some v.toNat:=Tz.2 ⟨by omega,by rw [show ((v.toNat:Nat):Int)=v by omega];exact Lq hb⟩
  have hn:=(A6x hr).1;exact Af A0 rfl rfl ⟨A6 vi A7,A6 vb (A6x hr).2,trivial⟩
 dsimp only at hn he
 subst he
 have hr:rd s=none:=by
  cases hr:rd s with
  |none=>rfl
  |some n=>exact absurd (B95 hr) (hn _)
 refine D14 rfl rfl Ak rfl (r:=true) (.inr ⟨_,_,rfl,rfl⟩) (Ag ?_)
 repeat' (first|(refine Gy ?_;conv=>whnf)|(refine Gz ?_;conv=>whnf)|(refine ⟨fun h=>?_,fun h=>?_⟩<;>conv=>whnf)|(refine Ew ?_;conv=>whnf)|fail)
 exact Af A0 rfl rfl ⟨A6 vi (Il hr).1,A6 vb (Il hr).2,trivial⟩
theorem Ha (s:ByteArray)(hs:s.size≤1048576):Df 87 [.one (vs s)] [.one (vi (Pw s)),.one (vb (Ty s))]:=by
 refine Dy Tryz.func87 fun W=>?_;refine E3 (fun h0=>?_) fun h0=>?_
 ·have hr:=C9n (s:=s) A7
  exact Af A0 rfl rfl ⟨A6 vi (Il hr).1,A6 vb (Il hr).2,trivial⟩
 have h10:s.size≤10:=by omega
 have hz:∀b∈s.data.toList.take 0,isD b:=fun b hb=>by rw [List.take_zero] at hb;cases hb
 refine Fs [] (fun k:Nat=>[(4,.c (vi (Mz 0 (s.data.toList.take k):Nat))),(5,.c (vi k))]) (fun k=>[]) (fun k=>[]) (fun k=>k≤s.size∧(∀b∈s.data.toList.take k,isD b)) (fun k=>s.size-k) fun k hk=>?_;obtain ⟨hk,he⟩:=hk;refine E3 (fun h=>?_) fun h=>?_
 ·have hks:k<s.size:=by omega
  have hb:=A43 h10 he;have hu:(s.data.getD (k:Int).toNat 0).toNat<256:=UInt8.toNat_lt _;have hs1:=C1u hks;have hno:¬ isD (C3 s k)→rd s=none:=B76 hks;refine B6 ?_
  repeat' (first|(refine Gy ?_;conv=>whnf)|(refine Gz ?_;conv=>whnf)|(refine ⟨fun h=>?_,fun h=>?_⟩<;>conv=>whnf)|(refine Ew ?_;conv=>whnf)|fail)
  ·have hx:((C3 s k).toNat:Int)<48:=Bp (by assumption)
   have hr:=hno (fun c=>by unfold isD at c;omega);exact Af A0 rfl rfl ⟨A6 vi (Il hr).1,A6 vb (Il hr).2,trivial⟩
  ·have hx:((C3 s k).toNat:Int)>57:=Bp (by assumption)
   have hr:=hno (fun c=>by unfold isD at c;omega);exact Af A0 rfl rfl ⟨A6 vi (Il hr).1,A6 vb (Il hr).2,trivial⟩
  rename_i g1
  have x1:¬ ((C3 s k).toNat:Int)<48:=Cy g1;have x2:¬ ((C3 s k).toNat:Int)>57:=Cy h
  have hnext:∀b∈s.data.toList.take (k+1),isD b:=fun b hb=>by
   rw [B06 hks] at hb
   rcases Hg.1 hb with hb|hb
   ·exact he b hb
   rw [Hh.1 hb,isD];omega
  refine Co [] (k+1) ⟨by omega,hnext⟩ A7 ⟨A6 (fun z=>AV.c (vi z)) (by rw [hs1];show 10 * ((Mz 0 (List.take k s.data.toList):Nat):Int)+((C3 s k).toNat:Int)-48=_;omega),rfl,trivial⟩ trivial
 have e:k=s.size:=by omega
 have hall:s.data.toList.take k=s.data.toList:=Pn (by rw [Nr];have:s.data.size=s.size:=rfl;omega);have hD:Js .i64 ((Mz 0 (s.data.toList.take k):Nat):Int):=by have:=A43 h10 he;show _∧_;omega
 have hsz:=Cl hD
 repeat' (first|(refine Gy ?_;conv=>whnf)|(refine Gz ?_;conv=>whnf)|(refine ⟨fun h=>?_,fun h=>?_⟩<;>conv=>whnf)|(refine Ao (Ga _ hD) rfl (Ag ?_))|(refine D6 ?_;conv=>whnf)|fail)
 ·have hx:=Bp h
  have hr:rd s=none:=by rw [C6r,←hall,Ab (by intro c;have:=c.1;omega)]
  exact Af A0 rfl rfl ⟨A6 vi (Il hr).1,A6 vb (Il hr).2,trivial⟩
 ·have hr:rd s=none:=by
   rw [C6r,←hall,Ab (by intro c;rw [c.2,Fm] at h;exact absurd h Bk)]
  exact Af A0 rfl rfl ⟨A6 vi (Il hr).1,A6 vb (Il hr).2,trivial⟩
 rename_i g1
 have x1:=Cy g1;have x2:(Gf ((Mz 0 (s.data.toList.take k):Nat):Int)==s)=true:=by simpa using h
 have hr:rd s=some (Mz 0 (s.data.toList.take k)):=by rw [hall];rw [hall] at x1 x2;rw [C6r,Ah ⟨by omega,Lq x2⟩]
 exact Af A0 rfl rfl ⟨A6 vi (A6x hr).1,A6 vb (A6x hr).2,trivial⟩
theorem C8k (s:ByteArray)(hok:okB s)(hs:s.size≤600):Ex Tryz.prog Tab 142 [.one (vs s)] [.one (En (Fw s))]:=by
 refine ⟨⟨_,Tryz.func142,by decide,rfl⟩,fun w hw vals hl hv=>?_⟩
 match vals,hl with
 | [v],_=>
  have h0:v= .string s:=U1 (A:=fun _=>False) (hv 0 _ rfl);subst h0
  have hlen:(Lib.fields s.data.toList).length≤601:=by
   have:=C0i s (s.size+1)
   rw [C0h s hok,Fw,Oy] at this;omega
  refine (Any.strings_Fields_laid C8t s w A7 (fun j b hj=>by have:=hok b (Hr hj);omega) hw.2.1).mono ?_
  rintro e w' ⟨rfl,rfl⟩
  have hn:(Fw s).length=(Lib.fields s.data.toList).length:=by rw [Fw,Oy]
  refine ⟨Jc w _,[_],fun _=>[w.heap.size],rfl,rfl,fun i y hi=>?_,fun i hi=>⟨by simp,fun b hb=>by rw [Hh.1 hb];exact Bu _⟩,fun i j hi hj hne=>by simp at hi hj;omega⟩
  have hsz:(((Lib.fields s.data.toList).map fun l=>Value.string ⟨l.toArray⟩).toArray).size=(Lib.fields s.data.toList).length:=by rw [Gh,Oy]
  match i,hi with
  | 0,hi=>
   simp only [H3,Em] at hi;subst hi;have heq1:∀o:Obj,(w.alloc o).heap[w.heap.size]? =some o:=fun o=>Array.getElem?_push_size
   have hr:∀ty:TypeId,Bz (w.alloc (.cells ((Lib.fields s.data.toList).map fun l=>Value.string ⟨l.toArray⟩).toArray ty)) (.sl (Fw s).length 1 fun i=>[vs ((Fw s).getD i default)]) (.slice (some ⟨w.heap.size,0 * 1,none⟩) (Fw s).length (Fw s).length) (w.heap.size::(List.range ((Fw s).length * 1)).flatMap fun _=>[]):=
    fun ty=> .sl (Fw s).length 1 _ w.heap.size 0 (Fw s).length ty _ (fun _=>[]) (Bu _) (by rw [hn];unfold maxLen;omega) (heq1 _) (by rw [hn,Rw,Nat.mul_one];exact Nat.le_of_eq hsz.symm) (fun i hi=>rfl) (fun i j c hi hj=>by
     match j,hj with
     | 0,hj=>
      simp only [H3,Em] at hj;subst hj
      have e:(((Lib.fields s.data.toList).map fun l=>Value.string ⟨l.toArray⟩).toArray).getD ((0+i) * 1+0) undef= .string ((Fw s).getD i default):=by
       have hi':i<(Lib.fields s.data.toList).length:=by rw [←hn];exact hi
       simp [Fw,List.getD,hi']
      rw [e];exact .val _ rfl
     |j+1,hj=>simp at hj)
   have hf:(List.range ((Fw s).length * 1)).flatMap (fun _=>([]:List Nat))=[]:=by simp
   simp only [hf] at hr;rw [←hn];exact hr _
  |i+1,hi=>simp at hi
theorem Vk (s:ByteArray)(hs:s.size≤1048576):Ex Tryz.prog Tab 80 [.one (vs s)] [.one (En (A4 s)),.one (vb (Gk s))]:=by
 refine Kq A0 false Tryz.func80 rfl Bk fun W hW=>?_;conv=>whnf
 refine E3 (fun h0=>?_) fun h0=>?_
 ·have hP:¬ Fv s:=fun c=>by have:=c.1;omega
  refine A3q 2 1 (fun i=>(fun b=>[vs b]) (([]:List ByteArray).getD i default)) rfl ?_;exact Af A0 rfl rfl ⟨by (conv=>whnf);rw [Me hP];rfl,A6 vb (Md hP),trivial⟩
 have hz:=A7x s;refine Fs [] (fun k:Nat=>[(4,.c (vi k))]) (fun k=>[]) (fun k=>[]) (fun k=>k≤s.size∧A9q s k) (fun k=>s.size-k) fun k hk=>?_;obtain ⟨hk,he⟩:=hk;refine E3 (fun h=>?_) fun h=>?_
 ·have hks:k<s.size:=by omega
  have hu:(s.data.getD (k:Int).toNat 0).toNat<256:=UInt8.toNat_lt _;refine B6 ?_;refine Fh (Hw ((C3 s k).toNat:Int) 32 126) ?_;refine C2 (fun hc=>?_) fun hc=>?_
  ·have hx:F0 ((C3 s k).toNat:Int) 32 126=false:=by simpa using hc
   have hx:=Go.Sx.Gv.1 hx;have hP:=A6f hks (fun c=>hx A7);refine A3q 2 1 (fun i=>(fun b=>[vs b]) (([]:List ByteArray).getD i default)) rfl ?_;exact Af A0 rfl rfl ⟨by (conv=>whnf);rw [Me hP];rfl,A6 vb (Md hP),trivial⟩
  have hx:F0 ((C3 s k).toNat:Int) 32 126=true:=by simpa using hc
  have hx:=Go.Sx.Dj.1 hx;have hnext:=O5 he (fun _=>by omega);refine B6 ?_;refine Co [] (k+1) ⟨by omega,hnext⟩ A7 ⟨rfl,trivial⟩ trivial
 have hok:=C6b he A7;have h600:s.size≤600:=by omega
 refine C4e (C8k s hok h600) C6 hW rfl (Ag ?_);refine E3 (fun h12=>?_) fun h12=>?_
 ·have hP:¬ Fv s:=fun c=>by have:=c.2.2;omega
  refine A3q 2 1 (fun i=>(fun b=>[vs b]) (([]:List ByteArray).getD i default)) rfl ?_;exact Af A0 rfl rfl ⟨by (conv=>whnf);rw [Me hP];rfl,A6 vb (Md hP),trivial⟩
 have hP:Fv s:=⟨h600,hok,by omega⟩;exact Af A0 rfl rfl ⟨A6 En (B0o hP).symm,A6 vb (Mj hP),trivial⟩
theorem Rr (s:ByteArray)(hs:s.size≤1048576):Df 85 [.one (vs s)] [.one (En (A4 s)),.one (vb (Gk s))]:=by
 refine Dy Tryz.func85 fun W=>?_;refine E3 (fun h0=>?_) fun h0=>?_
 ·have hP:¬ Fv s:=fun c=>by have:=c.1;omega
  refine R9 0 (En []) rfl Dx ?_;exact Af A0 rfl rfl ⟨by (conv=>whnf);exact A6 En (Me hP).symm,A6 vb (Md hP),trivial⟩
 have hz:=A7x s;refine Fi 0 (En []) rfl Dx ?_;refine Fs [7] (fun k:Nat=>[(5,.c (vi (Rs s k).2)),(6,.c (vi k))]) (fun k=>[]) (fun k=>[⟨0,En (Rs s k).1⟩]) (fun k=>k≤(s.size+1)∧A9q s k) (fun k=>(s.size+1)-k) fun k hk=>?_;obtain ⟨hk,he⟩:=hk;refine E3 (fun h=>?_) fun h=>?_
 ·have hle:=B8r s k
  have hlen:=C0i s k
  repeat' (first|(refine Gy ?_;conv=>whnf)|(refine Gz ?_;conv=>whnf)|(refine ⟨fun h=>?_,fun h=>?_⟩<;>conv=>whnf)|(refine D6 ?_;conv=>whnf)|fail)
  ·have hx:((C3 s k).toNat:Int)<32:=Bp h
   have hks:k<s.size:=by simp only [Nq] at *;omega
   have hP:=A6f hks (fun c=>by omega);refine R9 1 (En []) rfl Dx ?_;exact Af A0 rfl rfl ⟨by (conv=>whnf);exact A6 En (Me hP).symm,A6 vb (Md hP),trivial⟩
  ·have hx:((C3 s k).toNat:Int)>126:=Bp h
   have hks:k<s.size:=by simp only [Nq] at *;omega
   have hP:=A6f hks (fun c=>by omega);refine R9 1 (En []) rfl Dx ?_;exact Af A0 rfl rfl ⟨by (conv=>whnf);exact A6 En (Me hP).symm,A6 vb (Md hP),trivial⟩
  ·rename_i g0 g1 g2
   have hks:k<s.size:=by have:=Bp g0;omega
   have x1:¬ ((C3 s k).toNat:Int)<32:=Cy g1;have x2:¬ ((C3 s k).toNat:Int)>126:=Cy g2;have x3:((C3 s k).toNat:Int)≠32:=Oz.1 h;have hne:C3 s k≠32:=fun e=>x3 (by rw [e];rfl);have hnext:=O5 he (fun _=>by omega);have hst:=C68 hks hne;refine B6 ?_;refine Co [] (k+1) ⟨by omega,hnext⟩ A7 ⟨A6 (fun z:List ByteArray×Nat=>AV.c (vi (z.2:Nat))) hst.symm,rfl,trivial⟩ ⟨A6 (fun z:List ByteArray×Nat=>En z.1) hst.symm,trivial⟩
  ·rename_i g0 g1 g2 g3
   have hks:k<s.size:=by have:=Bp g0;omega
   have x1:¬ ((C3 s k).toNat:Int)<32:=Cy g1;have x2:¬ ((C3 s k).toNat:Int)>126:=Cy g2;have x3:((C3 s k).toNat:Int)=32:=Ni.1 g3;have heq:C3 s k=32:=UInt8.toNat_inj.1 (by show _=32;omega)
   have hb:(Rs s k).2<k:=by have:=Bp h;omega
   have hnext:=O5 he (fun _=>by omega);have hst:=C0g (fun c=>c.2 heq) hb;refine A38 A0 rfl rfl rfl rfl rfl rfl rfl ⟨by omega,by omega,by omega⟩ (Ag ?_);refine Bg A0 rfl (En ((Rs s k).1++[s.extract (Rs s k).2 k])) (An rfl) Ij A7 (F1 ?_);refine Co [(0,2)] (k+1) ⟨by omega,hnext⟩ A7 ⟨A6 (fun z:List ByteArray×Nat=>AV.c (vi (z.2:Nat))) hst.symm,rfl,trivial⟩ ⟨A6 (fun z:List ByteArray×Nat=>En z.1) hst.symm,trivial⟩
  ·rename_i g0 g1 g2 g3
   have hks:k<s.size:=by have:=Bp g0;omega
   have x1:¬ ((C3 s k).toNat:Int)<32:=Cy g1;have x2:¬ ((C3 s k).toNat:Int)>126:=Cy g2;have x3:((C3 s k).toNat:Int)=32:=Ni.1 g3;have heq:C3 s k=32:=UInt8.toNat_inj.1 (by show _=32;omega)
   have hb:¬ (Rs s k).2<k:=by have:=Cy h;omega
   have hnext:=O5 he (fun _=>by omega);have hst:=B57 (fun c=>c.2 heq) hb;refine B6 ?_;refine Co [] (k+1) ⟨by omega,hnext⟩ A7 ⟨A6 (fun z:List ByteArray×Nat=>AV.c (vi (z.2:Nat))) hst.symm,rfl,trivial⟩ ⟨A6 (fun z:List ByteArray=>En z) (A6 Prod.fst hst).symm,trivial⟩
  ·rename_i g0
   have hks:¬ k<s.size:=by have:=Cy g0;omega
   have hb:(Rs s k).2<k:=by have:=Bp h;omega
   have hnext:=O5 he (fun c=>absurd c hks);have hst:=C0g (fun c=>hks c.1) hb;refine A38 A0 rfl rfl rfl rfl rfl rfl rfl ⟨by omega,by omega,by omega⟩ (Ag ?_);refine Bg A0 rfl (En ((Rs s k).1++[s.extract (Rs s k).2 k])) (An rfl) Ij A7 (F1 ?_);refine Co [(0,2)] (k+1) ⟨by omega,hnext⟩ A7 ⟨A6 (fun z:List ByteArray×Nat=>AV.c (vi (z.2:Nat))) hst.symm,rfl,trivial⟩ ⟨A6 (fun z:List ByteArray×Nat=>En z.1) hst.symm,trivial⟩
  rename_i g0
  have hks:¬ k<s.size:=by have:=Cy g0;omega
  have hb:¬ (Rs s k).2<k:=by have:=Cy h;omega
  have hnext:=O5 he (fun c=>absurd c hks);have hst:=B57 (fun c=>hks c.1) hb;refine B6 ?_;refine Co [] (k+1) ⟨by omega,hnext⟩ A7 ⟨A6 (fun z:List ByteArray×Nat=>AV.c (vi (z.2:Nat))) hst.symm,rfl,trivial⟩ ⟨A6 (fun z:List ByteArray=>En z) (A6 Prod.fst hst).symm,trivial⟩
 have e:k=s.size+1:=by omega
 have hok:=C6b he A7;have hend:(Rs s k).1=Fw s:=by rw [e];exact C0h s hok
 rw [hend];refine E3 (fun h12=>?_) fun h12=>?_
 ·have hP:¬ Fv s:=fun c=>by have:=c.2.2;omega
  refine R9 1 (En []) rfl Dx ?_;exact Af A0 rfl rfl ⟨by (conv=>whnf);exact A6 En (Me hP).symm,A6 vb (Md hP),trivial⟩
 have hP:Fv s:=⟨by omega,hok,by omega⟩;exact Af A0 rfl rfl ⟨A6 En (B0o hP).symm,A6 vb (Mj hP),trivial⟩
end Go.Proofs.YtmhcebdkjgkmlaaGreatDoor
