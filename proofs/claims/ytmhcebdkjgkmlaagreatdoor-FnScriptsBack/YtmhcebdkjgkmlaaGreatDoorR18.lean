/- Part 18 of the proof that each of the laws FnScriptsBack returns true for every input. No conditions. -/
import Derived.Test.YtmhcebdkjgkmlaaGreatDoorR16
import Derived.Shelf.Strings.OnBuilder
import Derived.Lib.Walk

set_option linter.unusedSimpArgs false
set_option linter.unusedVariables false
set_option maxRecDepth 100000
namespace Go.Proofs.YtmhcebdkjgkmlaaGreatDoor
open Go.Sx
def B4r:Go.Shelf.Ren:=⟨fun| 156=>147| 165=>202| 166=>203| 169=>204| 240=>256| 241=>257| 276=>293| 277=>294|n=>n,fun| 31=>27| 9=>9| 3=>3| 4=>4| 0=>0| 20=>20| 72=>212| 76=>208| 70=>210| 37=>33| 75=>207| 127=>260| 164=>296| 5=>5| 80=>214|n=>n,fun|n=>n⟩
theorem B2b:Go.Proofs.Lays.n156 Tryz.prog B4r:= {
 mixed:=by kernel_rfl,
 f156:=Tryz.func147.trans (A6 some Ak),
 f165:=Tryz.func202.trans (A6 some Ak),
 f166:=Tryz.func203.trans (A6 some Ak),
 f169:=Tryz.func204.trans (A6 some Ak),
 f240:=Tryz.func256.trans (A6 some Ak),
 f241:=Tryz.func257.trans (A6 some Ak),
 f276:=Tryz.func293.trans (A6 some Ak),
 f277:=Tryz.func294.trans (A6 some Ak),
 t0:=Tryz.underlying0,
 a0:=Tryz.isAgg0,
 z0:=Tryz.sizeOf0,
 v0:=Tryz.zeroValue0,
 t3:=Tryz.underlying3,
 a3:=Tryz.isAgg3,
 z3:=Tryz.sizeOf3,
 v3:=Tryz.zeroValue3,
 t4:=Tryz.underlying4,
 a4:=Tryz.isAgg4,
 z4:=Tryz.sizeOf4,
 v4:=Tryz.zeroValue4,
 t9:=Tryz.underlying9,
 a9:=Tryz.isAgg9,
 z9:=Tryz.sizeOf9,
 v9:=Tryz.zeroValue9,
 t20:=Tryz.underlying20,
 a20:=Tryz.isAgg20,
 z20:=Tryz.sizeOf20,
 v20:=Tryz.zeroValue20,
 t31:=Tryz.underlying27,
 a31:=Tryz.isAgg27,
 z31:=Tryz.sizeOf27,
 v31:=Tryz.zeroValue27,
 t37:=Tryz.underlying33,
 a37:=Tryz.isAgg33,
 z37:=Tryz.sizeOf33,
 v37:=Tryz.zeroValue33,
 t70:=Tryz.underlying210,
 a70:=Tryz.isAgg210,
 z70:=Tryz.sizeOf210,
 v70:=Tryz.zeroValue210,
 t72:=Tryz.underlying212,
 a72:=Tryz.isAgg212,
 z72:=Tryz.sizeOf212,
 v72:=Tryz.zeroValue212,
 t75:=Tryz.underlying207,
 a75:=Tryz.isAgg207,
 z75:=Tryz.sizeOf207,
 v75:=Tryz.zeroValue207,
 t76:=Tryz.underlying208,
 a76:=Tryz.isAgg208,
 z76:=Tryz.sizeOf208,
 v76:=Tryz.zeroValue208,
 t127:=Tryz.underlying260,
 a127:=Tryz.isAgg260,
 z127:=Tryz.sizeOf260,
 v127:=Tryz.zeroValue260,
 t164:=Tryz.underlying296,
 a164:=Tryz.isAgg296,
 z164:=Tryz.sizeOf296,
 v164:=Tryz.zeroValue296}
def C2d:Go.Shelf.Ren:=⟨fun| 156=>147| 165=>202| 166=>203| 169=>204| 240=>256| 241=>257| 276=>293| 277=>294|n=>n,fun| 31=>27| 9=>9| 3=>3| 4=>4| 0=>0| 20=>20| 72=>212| 76=>208| 70=>210| 37=>33| 75=>207| 127=>260| 164=>296| 5=>5| 80=>214|n=>n,fun|n=>n⟩
theorem C5r:Go.Proofs.Builder.Extra Tryz.prog C2d:= {
 sizeBuilder:=by kernel_rfl,
 liesBuilder:=by kernel_rfl,
 t5:=Tryz.underlying5,
 a5:=Tryz.isAgg5,
 z5:=Tryz.sizeOf5,
 v5:=Tryz.zeroValue5,
 infoByte:=by kernel_rfl,
 cellsByte:=by kernel_rfl,
 sizeByte:=by kernel_rfl,
 neB5:=by decide}
theorem C81 {w:World}{a:Addr}{v:Value}(h:w.cell? a=some v):a.block<w.heap.size:=by
 by_cases hl:a.block<w.heap.size
 ·exact hl
 exfalso
 unfold World.cell? at h;rw [Array.getElem?_eq_none A7] at h
 simp at h
theorem D0l (xs:List ByteArray)(hx:xs.length≤1048576)(hs:(Cf xs).size≤140737488355328):Df 147 [.one (En xs),.one (vs (⟨#[32]⟩:ByteArray))] [.one (vs (Cf xs))]:=by
 refine ⟨⟨_,Tryz.func147,by decide,rfl⟩,fun w vals hl hv=>?_⟩
 match vals,hl with
 | [v,u],_=>
  have h1:u= .string (⟨#[32]⟩:ByteArray):=U1 (A:=fun _=>False) (hv 1 _ rfl);have h0:Qz w (fun _=>False) (En xs) v:=hv 0 _ rfl;subst h1
  rcases C9r h0 with ⟨a,c,rfl,rfl⟩|⟨b,o,c,rfl,hc,hcells⟩
  ·refine (Any.strings_Join_none B2b C5r a c (⟨#[32]⟩:ByteArray) w).mono ?_
   rintro e w' ⟨rfl,rfl⟩
   exact Wz (by first|exact Go.Sx.Below.refl _ _|exact Go.RowKit.Below.refl _ _) rfl
  by_cases hn:xs=[]
  ·subst hn
   refine (Any.strings_Join_none B2b C5r _ c (⟨#[32]⟩:ByteArray) w).mono ?_
   rintro e w' ⟨rfl,rfl⟩
   exact Wz (by first|exact Go.Sx.Below.refl _ _|exact Go.RowKit.Below.refl _ _) rfl
  have hb:b<w.heap.size:=by
   obtain ⟨x,r,rfl⟩:=List.exists_cons_of_ne_nil hn;exact C81 (hcells 0 x rfl)
  refine (Any.strings_Join B2b C5r b o c xs (⟨#[32]⟩:ByteArray) w hcells hb A7 hc (by rw [Cf,Xl,Gh] at hs;exact hs)).mono ?_
  rintro e w' ⟨rfl,hw⟩
  exact Wz hw rfl
theorem O7:∀(l cur:List UInt8),∀x∈Lib.fieldsGo cur l,x.length≤cur.length+l.length
 | [],cur,x,hx=>by
  rw [N0] at hx
  split at hx
  ·cases hx
  rw [Hh.1 hx];exact Uk _ _
 |b::l,cur,x,hx=>by
  rw [K5] at hx
  split at hx
  ·split at hx
   ·have:=O7 l [] x hx
    simp only [Hi,Ep] at *;omega
   rcases C7.1 hx with rfl|hx
   ·exact Uk _ _
   have:=O7 l [] x hx
   simp only [Hi,Ep] at *;omega
  have:=O7 l (cur++[b]) x hx
  simp only [Dn,Ep,Hi] at *;omega
theorem G9 (s:ByteArray):∀x∈A4 s,x.size≤600:=fun x hx=>by
 unfold A4 at hx
 split at hx
 ·rename_i hP
  obtain ⟨l,hl,rfl⟩:=Ea.1 hx;have h1:=O7 s.data.toList [] l hl;have h2:s.data.toList.length=s.size:=Nr;rw [Xl,Gh]
  have:=hP.1
  simp only [Hi] at h1;omega
 cases hx
theorem A53 (p:List ByteArray)(k:Nat)(h:k<p.length):Cf (p.take (k+1))=(if 0<k then Cf (p.take k)++(⟨#[32]⟩:ByteArray) else Cf (p.take k))++p.getD k default:=by
 rw [Ee p k h]
 by_cases e:k=0
 ·subst e
  rw [Ab A7,List.take_zero,Uw,C19];exact (ByteArray.empty_append).symm
 rw [Ah A7]
 exact A52 _ _ (by
  intro h0
  have:=A6 List.length h0
  rw [G2] at this;simp only [Hi] at this
  omega)
theorem A22 (p:List ByteArray)(hp:∀x∈p,x.size≤600)(k:Nat)(hk:k≤p.length):(Cf (p.take k)).size≤601 * k:=by
 induction k with
 |zero=>exact Bu _
 |succ k ih=>
  have h1:=hp _ (Am (d:=default) (show k<p.length by omega))
  have h2:=ih A7;rw [A53 p k A7,H4]
  split
  ·rw [H4]
   have h3:((⟨#[32]⟩:ByteArray)).size=1:=rfl;omega
  omega
theorem A23 (s:ByteArray):(Cf (A4 s)).size≤7212:=by
 have h1:=H9 s;have h2:=A22 (A4 s) (G9 s) (A4 s).length (Bu _);rw [H5] at h2;omega
theorem Rq (p:List ByteArray)(i:Nat)(hp:∀x∈p,x.size≤600)(hl:p.length≤12)(hi:i≤12):Df 205 [.one (En p),.one (vi i)] [.one (vi (Dq p i))]:=by
 refine Dy Tryz.func205 fun W=>?_;refine C2 (fun hc=>?_) fun hc=>?_
 ·have hc:=Bp hc
  exact Af A0 rfl rfl ⟨A6 vi (by rw [Dq,Ab A7]),trivial⟩
 have hc:=Cy hc;have h:i<p.length:=by omega
 have hx:=hp _ (Am (d:=default) h);refine B6 ?_;refine Fh (Ha (p.getD i default) A7) ?_;exact Af A0 rfl rfl ⟨A6 vi (by rw [Dq,Ah h]),trivial⟩
theorem A7k (p:List ByteArray)(hp:∀x∈p,x.size≤600)(hl:p.length≤12):Df 206 [.one (En p)] [.one (vs (Cf p))]:=by
 refine Dy Tryz.func206 fun W=>?_;refine Fs [] (fun k:Nat=>[(3,.c (vs (Cf (p.take k)))),(4,.c (vi k))]) (fun k=>[]) (fun k=>[]) (fun k=>k≤p.length) (fun k=>p.length-k) fun k hk=>?_;refine E3 (fun h=>?_) fun h=>?_
 ·have h:k<p.length:=by omega
  have hs:=A22 p hp k A7;have hx:=hp _ (Am (d:=default) h);have hj:=A53 p k h;have h1:(Cf (p.take k)++(⟨#[32]⟩:ByteArray)).size=(Cf (p.take k)).size+1:=H4;refine C2 (fun hg=>?_) fun hg=>?_
  ·have hg:0<k:=by have:=Bp hg;omega
   rw [Ah hg] at hj;refine B6 ?_;refine Co [] (k+1) A7 A7 ⟨A6 (fun z=>AV.c (vs z)) hj.symm,rfl,trivial⟩ trivial
  have hg:¬ 0<k:=by have:=Cy hg;omega
  rw [Ab hg] at hj;refine B6 ?_;refine Co [] (k+1) A7 A7 ⟨A6 (fun z=>AV.c (vs z)) hj.symm,rfl,trivial⟩ trivial
 have e:k=p.length:=by omega
 exact Af A0 rfl rfl ⟨A6 vs (by rw [e,H5]),trivial⟩
def Nn (s:ByteArray) (w:Nat):Bool:=Gk s&&decide (w≤(A4 s).length)&&Ql (A4 s) w
def Du (s:ByteArray) (w:Nat):List Int:=if Nn s w then Gg (A4 s) w else []
def B07 (s:ByteArray) (w:Nat):ByteArray:=if Nn s w then Cf (A4 s) else (⟨#[]⟩:ByteArray)
theorem X3 {s:ByteArray}{w:Nat}(h:Nn s w=false):Du s w=[]∧B07 s w=(⟨#[]⟩:ByteArray):=by simp [Du,B07,h]
theorem Kt {s:ByteArray}{w:Nat}(h:Nn s w=true):Du s w=Gg (A4 s) w∧B07 s w=Cf (A4 s):=by simp [Du,B07,h]
theorem Xs (s:ByteArray)(w:Nat)(hs:s.size≤1048576)(hw2:w≤2):A4f Tryz.prog Tab 82 [.one (vs s),.one (vi w)] (fun v:Value=>v.oneCell'=true) (fun v=>[.one (De (Du s w)),.one (.val v),.one (vs (B07 s w)),.one (vb (Nn s w))]):=by
 have hl:=H9 s;have hp:=G9 s;have hjs:=A23 s;refine D02 A0 false Tryz.func82 rfl Bk fun W hW=>?_;conv=>whnf
 refine F4 (Vk s hs) C6 hW rfl (Ag ?_)
 repeat' (first|(refine Gy ?_;conv=>whnf)|(refine Gz ?_;conv=>whnf)|(refine ⟨fun h=>?_,fun h=>?_⟩<;>conv=>whnf)|(refine D6 ?_;conv=>whnf)|fail)
 ·have hb:Gk s=false:=by simpa using h
  have hok:Nn s w=false:=by rw [Nn,hb];rfl
  have hh:=X3 hok;refine A3q 4 1 (fun i=>(fun n=>[vi n]) (([]:List Int).getD i default)) rfl ?_;refine C9u (.slice none 0 0) rfl ?_;exact Af A0 rfl rfl ⟨by (conv=>whnf);rw [hh.1];rfl,.inl rfl,A6 vs hh.2,A6 vb hok,trivial⟩
 ·have hlt:(A4 s).length<w:=by have:=Bp h;omega
  have hok:Nn s w=false:=by rw [Nn,Cx (by omega:¬ w≤(A4 s).length)];simp
  have hh:=X3 hok;refine A3q 4 1 (fun i=>(fun n=>[vi n]) (([]:List Int).getD i default)) rfl ?_;refine C9u (.slice none 0 0) rfl ?_;exact Af A0 rfl rfl ⟨by (conv=>whnf);rw [hh.1];rfl,.inl rfl,A6 vs hh.2,A6 vb hok,trivial⟩
 rename_i hb0
 have hb:Gk s=true:=by simpa using hb0
 have hwl:w≤(A4 s).length:=by have:=Cy h;omega
 have hsub:Xj (A4 s).length 1 (fun i=>[vs ((A4 s).getD i default)]) (w:Int) ((A4 s).length:Int) (En ((A4 s).drop w)):=by
  have h:=X8 (es:=1) (e:=fun b=>[vs b]) (xs:=A4 s) (l:=(w:Int)) (h:=((A4 s).length:Int)) A7 A7 A7
  rwa [Cp,Pn (by rw [Gm];omega)] at h
 have hq:∀x∈(A4 s).drop w,x.size≤600:=fun x hx=>hp x (A8f hx);have hql:((A4 s).drop w).length≤12:=by rw [Gm];omega
 generalize hQ:(A4 s).drop w=Q at hsub hq hql;refine A85 10 1 (fun i=>(fun n=>[vi n]) (([]:List Int).getD i default)) rfl ?_;refine P9 A0 rfl ⟨by omega,by omega,by omega⟩ (En Q) hsub (Ag ?_);have hz:∀x∈Q.take 0,Ty x=true:=fun x hx=>by rw [List.take_zero] at hx;cases hx
 refine Fs [] (fun k:Nat=>[(32,.c (vi k))]) (fun k=>[]) (fun k=>[⟨0,De ((Q.take k).map Pw)⟩]) (fun k=>k≤Q.length∧(∀x∈Q.take k,Ty x=true)) (fun k=>Q.length-k) fun k hk=>?_;obtain ⟨hk,he⟩:=hk;refine E3 (fun h'=>?_) fun h'=>?_
 ·have h':k<Q.length:=by omega
  have hx:=hq _ (Am (d:=default) h');refine B6 ?_;refine F4 (Up (Q.getD k default) A7) C6 hW rfl (Ag ?_);refine C2 (fun hc=>?_) fun hc=>?_
  ·have hr:Ty (Q.getD k default)=false:=by simpa using hc
   have hok:Nn s w=false:=by
    rw [Nn,Ql,hQ,A2o h' hr];simp
   have hh:=X3 hok;refine A3q 4 1 (fun i=>(fun n=>[vi n]) (([]:List Int).getD i default)) rfl ?_;refine C9u (.slice none 0 0) rfl ?_;exact Af A0 rfl rfl ⟨by (conv=>whnf);rw [hh.1];rfl,.inl rfl,A6 vs hh.2,A6 vb hok,trivial⟩
  have hr:Ty (Q.getD k default)=true:=by simpa using hc
  have hnext:∀x∈Q.take (k+1),Ty x=true:=fun x hx=>by
   rw [Ee Q k h'] at hx
   rcases Hg.1 hx with hx|hx
   ·exact he x hx
   rw [Hh.1 hx];exact hr
  refine B6 ?_;refine Bg A0 rfl (De ((Q.take k).map Pw++[Pw (Q.getD k default)])) (An rfl) Ij P4 (F1 ?_);refine Co [(0,2)] (k+1) ⟨by omega,hnext⟩ A7 ⟨rfl,trivial⟩ ⟨A6 De (Ol _ _ _ h').symm,trivial⟩
 have e:k=Q.length:=by omega
 have hall:Q.take k=Q:=by rw [e,H5]
 rw [hall]
 have hok:Nn s w=true:=by
  rw [Nn,hb,D7 hwl,Ql,hQ,Ja.2 (fun x hx=>he x (by rw [hall];exact hx))];rfl
 have hh:=Kt hok;refine Fh (D0l (A4 s) A7 A7) ?_;refine D21 5 rfl (fun a m c=>C9u (.slice a m c) rfl ?_);exact Af A0 rfl rfl ⟨by (conv=>whnf);exact A6 De (by rw [hh.1,Gg,hQ]),by (cases a<;>(conv=>whnf));exact Or.inl rfl,A6 vs hh.2,A6 vb hok,trivial⟩
def S7 (s:ByteArray) (w:Nat):List ByteArray:=if Nn s w then A4 s else []
theorem Yw {s:ByteArray}{w:Nat}(h:Nn s w=false):S7 s w=[]:=by simp [S7,h]
theorem Sw {s:ByteArray}{w:Nat}(h:Nn s w=true):S7 s w=A4 s:=by simp [S7,h]
theorem Pt (s:ByteArray)(w:Nat)(hs:s.size≤1048576)(hw2:w≤2):Ex Tryz.prog Tab 82 [.one (vs s),.one (vi w)] [.one (De (Du s w)),.one (En (S7 s w)),.one (vs (B07 s w)),.one (vb (Nn s w))]:=by
 have hl:=H9 s;have hp:=G9 s;have hjs:=A23 s;refine Kq A0 false Tryz.func82 rfl Bk fun W hW=>?_;conv=>whnf
 refine C4e (Vk s hs) C6 hW rfl (Ag ?_)
 repeat' (first|(refine Gy ?_;conv=>whnf)|(refine Gz ?_;conv=>whnf)|(refine ⟨fun h=>?_,fun h=>?_⟩<;>conv=>whnf)|(refine D6 ?_;conv=>whnf)|fail)
 ·have hb:Gk s=false:=by simpa using h
  have hok:Nn s w=false:=by rw [Nn,hb];rfl
  have hh:=X3 hok;have hq:=Yw hok;refine A3q 4 1 (fun i=>(fun n=>[vi n]) (([]:List Int).getD i default)) rfl ?_;refine A3q 5 1 (fun i=>(fun b=>[vs b]) (([]:List ByteArray).getD i default)) rfl ?_;exact Af A0 rfl rfl ⟨by (conv=>whnf);rw [hh.1];rfl,by (conv=>whnf);rw [hq];rfl,A6 vs hh.2,A6 vb hok,trivial⟩
 ·have hlt:(A4 s).length<w:=by have:=Bp h;omega
  have hok:Nn s w=false:=by rw [Nn,Cx (by omega:¬ w≤(A4 s).length)];simp
  have hh:=X3 hok;have hq:=Yw hok;refine A3q 4 1 (fun i=>(fun n=>[vi n]) (([]:List Int).getD i default)) rfl ?_;refine A3q 5 1 (fun i=>(fun b=>[vs b]) (([]:List ByteArray).getD i default)) rfl ?_;exact Af A0 rfl rfl ⟨by (conv=>whnf);rw [hh.1];rfl,by (conv=>whnf);rw [hq];rfl,A6 vs hh.2,A6 vb hok,trivial⟩
 rename_i hb0
 have hb:Gk s=true:=by simpa using hb0
 have hwl:w≤(A4 s).length:=by have:=Cy h;omega
 have hsub:Xj (A4 s).length 1 (fun i=>[vs ((A4 s).getD i default)]) (w:Int) ((A4 s).length:Int) (En ((A4 s).drop w)):=by
  have h:=X8 (es:=1) (e:=fun b=>[vs b]) (xs:=A4 s) (l:=(w:Int)) (h:=((A4 s).length:Int)) A7 A7 A7
  rwa [Cp,Pn (by rw [Gm];omega)] at h
 have hq:∀x∈(A4 s).drop w,x.size≤600:=fun x hx=>hp x (A8f hx);have hql:((A4 s).drop w).length≤12:=by rw [Gm];omega
 generalize hQ:(A4 s).drop w=Q at hsub hq hql;refine C8o 0 rfl fun B v fp hF=>?_;refine D2n hF 28 rfl ?_;refine A85 10 1 (fun i=>(fun n=>[vi n]) (([]:List Int).getD i default)) rfl ?_;refine P9 A0 rfl ⟨by omega,by omega,by omega⟩ (En Q) hsub (Ag ?_);have hz:∀x∈Q.take 0,Ty x=true:=fun x hx=>by rw [List.take_zero] at hx;cases hx
 refine Fs [] (fun k:Nat=>[(32,.c (vi k))]) (fun k=>[]) (fun k=>[⟨1,De ((Q.take k).map Pw)⟩]) (fun k=>k≤Q.length∧(∀x∈Q.take k,Ty x=true)) (fun k=>Q.length-k) fun k hk=>?_;obtain ⟨hk,he⟩:=hk;refine E3 (fun h'=>?_) fun h'=>?_
 ·have h':k<Q.length:=by omega
  have hx:=hq _ (Am (d:=default) h');refine B6 ?_;refine D0x hF (Up (Q.getD k default) A7) C6 hW rfl (Ag ?_);refine C2 (fun hc=>?_) fun hc=>?_
  ·have hr:Ty (Q.getD k default)=false:=by simpa using hc
   have hok:Nn s w=false:=by
    rw [Nn,Ql,hQ,A2o h' hr];simp
   have hh:=X3 hok;have hq:=Yw hok;refine A3q 4 1 (fun i=>(fun n=>[vi n]) (([]:List Int).getD i default)) rfl ?_;refine A3q 5 1 (fun i=>(fun b=>[vs b]) (([]:List ByteArray).getD i default)) rfl ?_;exact D27 A0 hF rfl rfl ⟨by (conv=>whnf);rw [hh.1];rfl,by (conv=>whnf);rw [hq];rfl,A6 vs hh.2,A6 vb hok,trivial⟩
  have hr:Ty (Q.getD k default)=true:=by simpa using hc
  have hnext:∀x∈Q.take (k+1),Ty x=true:=fun x hx=>by
   rw [Ee Q k h'] at hx
   rcases Hg.1 hx with hx|hx
   ·exact he x hx
   rw [Hh.1 hx];exact hr
  refine B6 ?_;refine Bg A0 rfl (De ((Q.take k).map Pw++[Pw (Q.getD k default)])) (An rfl) Ij P4 (F1 ?_);refine Co [(1,3)] (k+1) ⟨by omega,hnext⟩ A7 ⟨rfl,trivial⟩ ⟨A6 De (Ol _ _ _ h').symm,trivial⟩
 have e:k=Q.length:=by omega
 have hall:Q.take k=Q:=by rw [e,H5]
 rw [hall]
 have hok:Nn s w=true:=by
  rw [Nn,hb,D7 hwl,Ql,hQ,Ja.2 (fun x hx=>he x (by rw [hall];exact hx))];rfl
 have hh:=Kt hok;have hq:=Sw hok;rw [show Du s w=Q.map Pw by rw [hh.1,Gg,hQ],hq,hh.2,hok]
 refine D2m hF 0 rfl ?_;refine Fh (D0l (A4 s) A7 A7) ?_;exact D28 A0 hF 1 rfl rfl rfl ⟨rfl,A0p _ _,rfl,rfl,trivial⟩
theorem Kh {n:Int}(h:0≤n):noB (Gf n):=by
 obtain ⟨m,rfl⟩:∃m:Nat,n=m:=⟨n.toNat,by omega⟩;exact D0z m
theorem Jv {n:Int}(h:0≤n∧n≤1000000000):Ty (Gf n)=true:=by
 obtain ⟨m,rfl⟩:∃m:Nat,n=m:=⟨n.toNat,by omega⟩;exact (C9m m A7).1
def Hk (s:ByteArray):A9:=⟨0,⟨Dq (A4 s) 1,0⟩,Dq (A4 s) 2,Dq (A4 s) 3⟩
def Pq (s:ByteArray):Prop:=Fv s∧(A4 s).length=4∧H8 (Hk s)∧B8 (Hk s)=Cf (A4 s)
instance (s:ByteArray):Decidable (Pq s):=by unfold Pq;infer_instance
def Kj (s:ByteArray):A9:=if Pq s then Hk s else default
def Gp (s:ByteArray):Bool:=decide (Pq s)
variable {r : A9}
theorem Kr (h:H8 r∧r.op=0∧r.af.turn=0):B8 r=Cf [(⟨#[112,117,116]⟩:ByteArray),Gf r.af.am,Gf r.key,Gf r.val]:=by
 rw [B8,Ah h]
 apply Qx
 apply Ul.1
 simp [Cf,Uq,Lib.join_one,Wp]
theorem B18 (h:H8 r∧r.op=0∧r.af.turn=0):B8 r≠(⟨#[]⟩:ByteArray):=by
 intro e;rw [B8,Ah h] at e
 have:=A6 ByteArray.size e
 simp only [H4,Xl,Gh,Ep,Hi] at this;omega
theorem A83 (h:¬ (H8 r∧r.op=0∧r.af.turn=0)):B8 r=(⟨#[]⟩:ByteArray):=by
 rw [B8,Ab h]
variable {s : ByteArray}
theorem B5i (h:Pq s):Ql (A4 s) 1=true:=by
 obtain ⟨h1,h2,h3,h4⟩:=h;rw [Kr ⟨h3,rfl,rfl⟩] at h4;have r1:=Cm (A4 s) 1;have r2:=Cm (A4 s) 2;have r3:=Cm (A4 s) 3;have hp:A4 s≠[]:=fun e=>by rw [e] at h2;cases h2
 have e:=Sr Ef hp (fun x hx=>by
  simp only [C7,K0,Ld] at hx
  rcases hx with rfl|rfl|rfl|rfl
  ·show (32:UInt8)∉_;decide
  ·exact Kh r1.1
  ·exact Kh r2.1
  exact Kh r3.1) (Sv s) h4
 rw [←e];simp only [Ql,Wi,Zd,Wg,List.all_nil,A2h,Cj];exact ⟨Jv r1,Jv r2,Jv r3⟩
theorem A6z (s:ByteArray):(Hk s).ok:=by
 have r1:=Cm (A4 s) 1;have r2:=Cm (A4 s) 2;have r3:=Cm (A4 s) 3;refine ⟨?_,⟨?_,?_⟩,?_,?_⟩<;>(show _∧_;simp only [Hk];omega)
theorem Ku (h:¬ Pq s):Kj s=default∧Gp s=false:=⟨Ab h,Cx h⟩
theorem B0x (h:Pq s):Kj s=Hk s∧Gp s=true:=⟨Ah h,D7 h⟩
theorem A9f (s:ByteArray)(hs:s.size≤1048576):Df 149 [.one (vs s)] [.agg (Kj s).c,.one (vb (Gp s))]:=by
 have hp:=G9 s;have hl:=H9 s;have ho:=A6z s;refine Dy Tryz.func149 fun W=>?_
 repeat' (first|(refine Gy ?_;conv=>whnf)|(refine Gz ?_;conv=>whnf)|(refine ⟨fun h=>?_,fun h=>?_⟩<;>conv=>whnf)|(refine Ao (Rr s hs) rfl (Ag ?_))|(refine Ao (Rq (A4 s) 1 hp hl Bk) rfl (I7 ?_);conv=>whnf)|(refine Ao (Rq (A4 s) 2 hp hl Bk) rfl (I7 ?_);conv=>whnf)|(refine Ao (Rq (A4 s) 3 hp hl Bk) rfl (I7 ?_);conv=>whnf)|(refine Ao (Y9 (Hk s) ho) rfl (I7 ?_);conv=>whnf)|(refine Ao (A7k (A4 s) hp hl) rfl (I7 ?_);conv=>whnf)|(refine D6 ?_;conv=>whnf)|fail)
 ·obtain ⟨hv',hb'⟩:=Ku (s:=s) (fun c=>by rw [Mj c.1] at h;exact absurd h Bk)
  exact Af A0 rfl rfl ⟨⟨A6 (fun r:A9=>vi r.op) hv',A6 (fun r:A9=>vi r.af.am) hv',A6 (fun r:A9=>vi r.af.turn) hv',A6 (fun r:A9=>vi r.key) hv',A6 (fun r:A9=>vi r.val) hv',trivial⟩,A6 vb hb',trivial⟩
 ·obtain ⟨hv',hb'⟩:=Ku (s:=s) (fun c=>by have:=Oz.1 h;have:=c.2.1;omega)
  exact Af A0 rfl rfl ⟨⟨A6 (fun r:A9=>vi r.op) hv',A6 (fun r:A9=>vi r.af.am) hv',A6 (fun r:A9=>vi r.af.turn) hv',A6 (fun r:A9=>vi r.key) hv',A6 (fun r:A9=>vi r.val) hv',trivial⟩,A6 vb hb',trivial⟩
 ·obtain ⟨hv',hb'⟩:=Ku (s:=s) (fun c=>B18 ⟨c.2.2.1,rfl,rfl⟩ (Lq h))
  exact Af A0 rfl rfl ⟨⟨A6 (fun r:A9=>vi r.op) hv',A6 (fun r:A9=>vi r.af.am) hv',A6 (fun r:A9=>vi r.af.turn) hv',A6 (fun r:A9=>vi r.key) hv',A6 (fun r:A9=>vi r.val) hv',trivial⟩,A6 vb hb',trivial⟩
 ·obtain ⟨hv',hb'⟩:=Ku (s:=s) (fun c=>by rw [c.2.2.2,Fm] at h;exact absurd h Bk)
  exact Af A0 rfl rfl ⟨⟨A6 (fun r:A9=>vi r.op) hv',A6 (fun r:A9=>vi r.af.am) hv',A6 (fun r:A9=>vi r.af.turn) hv',A6 (fun r:A9=>vi r.key) hv',A6 (fun r:A9=>vi r.val) hv',trivial⟩,A6 vb hb',trivial⟩
 rename_i g1 g2 g3
 have hP:Fv s:=Bp (show Gk s=true by simpa using g1)
 have h4:(A4 s).length=4:=by have:=Ni.1 g2;omega
 have hR:H8 (Hk s):=by
  by_cases c:H8 (Hk s)
  ·exact c
  exfalso
  rw [A83 (fun d=>c d.1),Fm] at g3;exact absurd g3 Bk
 have hj:B8 (Hk s)=Cf (A4 s):=Lq (by simpa using h);obtain ⟨hv',hb'⟩:=B0x (s:=s) ⟨hP,h4,hR,hj⟩;exact Af A0 rfl rfl ⟨⟨A6 (fun r:A9=>vi r.op) hv',A6 (fun r:A9=>vi r.af.am) hv',A6 (fun r:A9=>vi r.af.turn) hv',A6 (fun r:A9=>vi r.key) hv',A6 (fun r:A9=>vi r.val) hv',trivial⟩,A6 vb hb',trivial⟩
theorem A8z (s:ByteArray)(hs:s.size≤1048576):Ex Tryz.prog Tab 144 [.one (vs s)] [.agg (Kj s).c,.one (vb (Gp s))]:=by
 have ho:=A6z s;refine Kq A0 false Tryz.func144 rfl Bk fun W hW=>?_;conv=>whnf
 refine B6z (Xs s 1 hs Bk) C6 hW rfl (fun v hv=>go A0 false ?_);conv=>whnf
 have hyes:Pq s→Nn s 1=true:=fun c=>by
  rw [Nn,Mj c.1,B5i c,D7 (show 1≤(A4 s).length by have:=c.2.1;omega)];rfl
 repeat' (first|(refine Gy ?_;conv=>whnf)|(refine Gz ?_;conv=>whnf)|(refine ⟨fun h=>?_,fun h=>?_⟩<;>conv=>whnf)|(refine Ew ?_;conv=>whnf)|fail)
 ·obtain ⟨hv',hb'⟩:=Ku (s:=s) (fun c=>by rw [hyes c] at h;exact absurd h Bk)
  exact Af A0 rfl rfl ⟨⟨A6 (fun r:A9=>vi r.op) hv',A6 (fun r:A9=>vi r.af.am) hv',A6 (fun r:A9=>vi r.af.turn) hv',A6 (fun r:A9=>vi r.key) hv',A6 (fun r:A9=>vi r.val) hv',trivial⟩,A6 vb hb',trivial⟩
 ·rename_i g1
  have hok:Nn s 1=true:=by simpa using g1
  have hn:=(Kt hok).1;have ht:=(Kt hok).2
  have hP:Fv s:=by
   have h1:=hok;rw [Nn,Cj,Cj] at h1;exact Bp h1.1.1
  have hlen:(Du s 1).length=(A4 s).length-1:=by rw [hn,Hs]
  obtain ⟨hv',hb'⟩:=Ku (s:=s) (fun c=>by have:=Oz.1 h;have:=c.2.1;omega);exact Af A0 rfl rfl ⟨⟨A6 (fun r:A9=>vi r.op) hv',A6 (fun r:A9=>vi r.af.am) hv',A6 (fun r:A9=>vi r.af.turn) hv',A6 (fun r:A9=>vi r.key) hv',A6 (fun r:A9=>vi r.val) hv',trivial⟩,A6 vb hb',trivial⟩
 rename_i g1
 have hok:Nn s 1=true:=by simpa using g1
 have hn:=(Kt hok).1;have ht:=(Kt hok).2
 have hP:Fv s:=by
  have h1:=hok;rw [Nn,Cj,Cj] at h1;exact Bp h1.1.1
 have hlen:(Du s 1).length=(A4 s).length-1:=by rw [hn,Hs]
 have h3:(Du s 1).length=3:=by have:=Ni.1 h;omega
 have h4:(A4 s).length=4:=by omega
 have hget:∀i,i<3→(Du s 1).getD i default=Dq (A4 s) (i+1):=fun i hi=>by
  rw [hn,Dq,Ah A7,Gg];simp only [B3d,Ec,T7];rw [Z8 1 i,Dh (show i+1<(A4 s).length by omega)]
  rfl
 have e0:(Du s 1).getD (Int.toNat 0) default=Dq (A4 s) 1:=hget 0 Bk;have e1:(Du s 1).getD (Int.toNat 1) default=Dq (A4 s) 2:=hget 1 Bk;have e2:(Du s 1).getD (Int.toNat 2) default=Dq (A4 s) 3:=hget 2 Bk
 first|(refine Ae 4 rfl [0,1,2,3,4,5,6,7,8,9,10,11,12] Ak (Ag ?_))
 refine B6 ?_;rw [e0,e1,e2];refine Fh (Ik (Hk s)) ?_
 repeat' (first|(refine Gy ?_;conv=>whnf)|(refine Gz ?_;conv=>whnf)|(refine ⟨fun h=>?_,fun h=>?_⟩<;>conv=>whnf)|(refine F4 (Xq (Hk s) ho) C6 hW rfl (I7 ?_);conv=>whnf)|(refine Ew ?_;conv=>whnf)|fail)
 ·obtain ⟨hv',hb'⟩:=Ku (s:=s) (fun c=>by rw [show F2 (Hk s)=true from D7 c.2.2.1] at h;exact absurd h Bk)
  exact Af A0 rfl rfl ⟨⟨A6 (fun r:A9=>vi r.op) hv',A6 (fun r:A9=>vi r.af.am) hv',A6 (fun r:A9=>vi r.af.turn) hv',A6 (fun r:A9=>vi r.key) hv',A6 (fun r:A9=>vi r.val) hv',trivial⟩,A6 vb hb',trivial⟩
 ·obtain ⟨hv',hb'⟩:=Ku (s:=s) (fun c=>by rw [ht,c.2.2.2,Fm] at h;exact absurd h Bk)
  exact Af A0 rfl rfl ⟨⟨A6 (fun r:A9=>vi r.op) hv',A6 (fun r:A9=>vi r.af.am) hv',A6 (fun r:A9=>vi r.af.turn) hv',A6 (fun r:A9=>vi r.key) hv',A6 (fun r:A9=>vi r.val) hv',trivial⟩,A6 vb hb',trivial⟩
 rename_i g2
 have hR:H8 (Hk s):=Bp (show F2 (Hk s)=true by simpa using g2)
 have hj:B8 (Hk s)=Cf (A4 s):=by rw [←ht];exact Lq (by simpa using h)
 obtain ⟨hv',hb'⟩:=B0x (s:=s) ⟨hP,h4,hR,hj⟩;exact Af A0 rfl rfl ⟨⟨A6 (fun r:A9=>vi r.op) hv',A6 (fun r:A9=>vi r.af.am) hv',A6 (fun r:A9=>vi r.af.turn) hv',A6 (fun r:A9=>vi r.key) hv',A6 (fun r:A9=>vi r.val) hv',trivial⟩,A6 vb hb',trivial⟩
end Go.Proofs.YtmhcebdkjgkmlaaGreatDoor
