/- Part 9 of the proof that each of the laws FnConsole returns true for every input. No conditions. -/
import Derived.Test.YtmhcebdkjgkmlaaGreatDoorQ8
import Derived.Shelf.Strings.OnBuilder
import Derived.Lib.Walk

set_option linter.unusedSimpArgs false
set_option linter.unusedVariables false
set_option maxRecDepth 100000
namespace Go.Proofs.YtmhcebdkjgkmlaaGreatDoor
open Go.Sx
def B6h:Go.Shelf.Ren:=⟨fun| 156=>147| 165=>202| 166=>203| 169=>204| 240=>256| 241=>257| 276=>293| 277=>294|n=>n,fun| 31=>27| 9=>9| 3=>3| 4=>4| 0=>0| 20=>20| 72=>212| 76=>208| 70=>210| 37=>33| 75=>207| 127=>260| 164=>296| 5=>5| 80=>214|n=>n,fun|n=>n⟩
theorem B3x:Go.Proofs.Lays.n156 Tryz.prog B6h:= {
 mixed:=by kernel_rfl,
 f156:=Tryz.func147.trans (A6 some Am),
 f165:=Tryz.func202.trans (A6 some Am),
 f166:=Tryz.func203.trans (A6 some Am),
 f169:=Tryz.func204.trans (A6 some Am),
 f240:=Tryz.func256.trans (A6 some Am),
 f241:=Tryz.func257.trans (A6 some Am),
 f276:=Tryz.func293.trans (A6 some Am),
 f277:=Tryz.func294.trans (A6 some Am),
 t0:=Tryz.underlying0,
 a0:=Tryz.isAgg0,
 z0:=Tryz.sizeOf0,
 v0:=Tryz.zeroValue0,
 t3:=Tryz.underlying3,
 a3:=Tryz.isAgg3,
 z3:=Tryz.sizeOf3,
 v3:=Tryz.zeroValue3,
 t4:=Tryz.underlying4,
 a4:=Tryz.isAgg4,
 z4:=Tryz.sizeOf4,
 v4:=Tryz.zeroValue4,
 t9:=Tryz.underlying9,
 a9:=Tryz.isAgg9,
 z9:=Tryz.sizeOf9,
 v9:=Tryz.zeroValue9,
 t20:=Tryz.underlying20,
 a20:=Tryz.isAgg20,
 z20:=Tryz.sizeOf20,
 v20:=Tryz.zeroValue20,
 t31:=Tryz.underlying27,
 a31:=Tryz.isAgg27,
 z31:=Tryz.sizeOf27,
 v31:=Tryz.zeroValue27,
 t37:=Tryz.underlying33,
 a37:=Tryz.isAgg33,
 z37:=Tryz.sizeOf33,
 v37:=Tryz.zeroValue33,
 t70:=Tryz.underlying210,
 a70:=Tryz.isAgg210,
 z70:=Tryz.sizeOf210,
 v70:=Tryz.zeroValue210,
 t72:=Tryz.underlying212,
 a72:=Tryz.isAgg212,
 z72:=Tryz.sizeOf212,
 v72:=Tryz.zeroValue212,
 t75:=Tryz.underlying207,
 a75:=Tryz.isAgg207,
 z75:=Tryz.sizeOf207,
 v75:=Tryz.zeroValue207,
 t76:=Tryz.underlying208,
 a76:=Tryz.isAgg208,
 z76:=Tryz.sizeOf208,
 v76:=Tryz.zeroValue208,
 t127:=Tryz.underlying260,
 a127:=Tryz.isAgg260,
 z127:=Tryz.sizeOf260,
 v127:=Tryz.zeroValue260,
 t164:=Tryz.underlying296,
 a164:=Tryz.isAgg296,
 z164:=Tryz.sizeOf296,
 v164:=Tryz.zeroValue296}
def C31:Go.Shelf.Ren:=⟨fun| 156=>147| 165=>202| 166=>203| 169=>204| 240=>256| 241=>257| 276=>293| 277=>294|n=>n,fun| 31=>27| 9=>9| 3=>3| 4=>4| 0=>0| 20=>20| 72=>212| 76=>208| 70=>210| 37=>33| 75=>207| 127=>260| 164=>296| 5=>5| 80=>214|n=>n,fun|n=>n⟩
theorem C65:Go.Proofs.Builder.Extra Tryz.prog C31:= {
 sizeBuilder:=by kernel_rfl,
 liesBuilder:=by kernel_rfl,
 t5:=Tryz.underlying5,
 a5:=Tryz.isAgg5,
 z5:=Tryz.sizeOf5,
 v5:=Tryz.zeroValue5,
 infoByte:=by kernel_rfl,
 cellsByte:=by kernel_rfl,
 sizeByte:=by kernel_rfl,
 neB5:=by decide}
theorem D0d {w:World}{a:Addr}{v:Value}(h:w.cell? a=some v):a.block<w.heap.size:=by
 by_cases hl:a.block<w.heap.size
 ·exact hl
 exfalso
 unfold World.cell? at h;rw [Array.getElem?_eq_none A7] at h
 simp at h
theorem C60 (xs:List ByteArray)(hx:xs.length≤1048576)(hs:(D6 xs).size≤140737488355328):Di 147 [.one (C6 xs),.one (vs (⟨#[32]⟩:ByteArray))] [.one (vs (D6 xs))]:=by
 refine ⟨⟨_,Tryz.func147,by decide,rfl⟩,fun w vals hl hv=>?_⟩
 match vals,hl with
 | [v,u],_=>
  have h1:u= .string (⟨#[32]⟩:ByteArray):=Ud (A:=fun _=>False) (hv 1 _ rfl);have h0:Qv w (fun _=>False) (C6 xs) v:=hv 0 _ rfl;subst h1
  rcases D0z h0 with ⟨a,c,rfl,rfl⟩|⟨b,o,c,rfl,hc,hcells⟩
  ·refine (Any.strings_Join_none B3x C65 a c (⟨#[32]⟩:ByteArray) w).mono ?_
   rintro e w' ⟨rfl,rfl⟩
   exact Xg (by first|exact Go.Sx.Below.refl _ _|exact Go.RowKit.Below.refl _ _) rfl
  by_cases hn:xs=[]
  ·subst hn
   refine (Any.strings_Join_none B3x C65 _ c (⟨#[32]⟩:ByteArray) w).mono ?_
   rintro e w' ⟨rfl,rfl⟩
   exact Xg (by first|exact Go.Sx.Below.refl _ _|exact Go.RowKit.Below.refl _ _) rfl
  have hb:b<w.heap.size:=by
   obtain ⟨x,r,rfl⟩:=List.exists_cons_of_ne_nil hn;exact D0d (hcells 0 x rfl)
  refine (Any.strings_Join B3x C65 b o c xs (⟨#[32]⟩:ByteArray) w hcells hb A7 hc (by rw [D6,bsz,Gq] at hs;exact hs)).mono ?_
  rintro e w' ⟨rfl,hw⟩
  exact Xg hw rfl
theorem Od:∀(l cur:List UInt8),∀x∈Lib.fieldsGo cur l,x.length≤cur.length+l.length
 | [],cur,x,hx=>by
  rw [Pr] at hx
  split at hx
  ·cases hx
  rw [I3.1 hx];exact Ut _ _
 |b::l,cur,x,hx=>by
  rw [Oc] at hx
  split at hx
  ·split at hx
   ·have:=Od l [] x hx
    simp only [H3,Fb] at *;omega
   rcases Ch.1 hx with rfl|hx
   ·exact Ut _ _
   have:=Od l [] x hx
   simp only [H3,Fb] at *;omega
  have:=Od l (cur++[b]) x hx
  simp only [D3,Fb,H3] at *;omega
theorem G8 (s:ByteArray):∀x∈A5 s,x.size≤600:=fun x hx=>by
 unfold A5 at hx
 split at hx
 ·rename_i hP
  obtain ⟨l,hl,rfl⟩:=Fm.1 hx;have h1:=Od s.data.toList [] l hl;have h2:s.data.toList.length=s.size:=Mr;rw [bsz,Gq]
  have:=hP.1
  simp only [H3] at h1;omega
 cases hx
theorem A7n (p:List ByteArray)(k:Nat)(h:k<p.length):D6 (p.take (k+1))=(if 0<k then D6 (p.take k)++(⟨#[32]⟩:ByteArray) else D6 (p.take k))++p.getD k default:=by
 rw [Ep p k h]
 by_cases e:k=0
 ·subst e
  rw [Ab A7,List.take_zero,Uu,B1v];exact (ByteArray.empty_append).symm
 rw [Ak A7]
 exact Zc _ _ (by
  intro h0
  have:=A6 List.length h0
  rw [F9] at this;simp only [H3] at this
  omega)
theorem A38 (p:List ByteArray)(hp:∀x∈p,x.size≤600)(k:Nat)(hk:k≤p.length):(D6 (p.take k)).size≤601 * k:=by
 induction k with
 |zero=>exact Ds _
 |succ k ih=>
  have h1:=hp _ (Al (d:=default) (show k<p.length by omega))
  have h2:=ih A7;rw [A7n p k A7,Gr]
  split
  ·rw [Gr]
   have h3:((⟨#[32]⟩:ByteArray)).size=1:=rfl;omega
  omega
theorem A39 (s:ByteArray):(D6 (A5 s)).size≤7212:=by
 have h1:=Hf s;have h2:=A38 (A5 s) (G8 s) (A5 s).length (Ds _);rw [H4] at h2;omega
theorem Ru (p:List ByteArray)(i:Nat)(hp:∀x∈p,x.size≤600)(hl:p.length≤12)(hi:i≤12):Di 205 [.one (C6 p),.one (vi i)] [.one (vi (Es p i))]:=by
 refine E7 Tryz.func205 fun W=>?_;refine C1 (fun hc=>?_) fun hc=>?_
 ·have hc:=Bn hc
  exact An A0 rfl rfl ⟨A6 vi (by rw [Es,Ab A7]),trivial⟩
 have hc:=Cv hc;have h:i<p.length:=by omega
 have hx:=hp _ (Al (d:=default) h);refine B4 ?_;refine Fp (Hh (p.getD i default) A7) ?_;exact An A0 rfl rfl ⟨A6 vi (by rw [Es,Ak h]),trivial⟩
theorem A8z (p:List ByteArray)(hp:∀x∈p,x.size≤600)(hl:p.length≤12):Di 206 [.one (C6 p)] [.one (vs (D6 p))]:=by
 refine E7 Tryz.func206 fun W=>?_;refine Fx [] (fun k:Nat=>[(3,.c (vs (D6 (p.take k)))),(4,.c (vi k))]) (fun k=>[]) (fun k=>[]) (fun k=>k≤p.length) (fun k=>p.length-k) fun k hk=>?_;refine Dv (fun h=>?_) fun h=>?_
 ·have h:k<p.length:=by omega
  have hs:=A38 p hp k A7;have hx:=hp _ (Al (d:=default) h);have hj:=A7n p k h;have h1:(D6 (p.take k)++(⟨#[32]⟩:ByteArray)).size=(D6 (p.take k)).size+1:=Gr;refine C1 (fun hg=>?_) fun hg=>?_
  ·have hg:0<k:=by have:=Bn hg;omega
   rw [Ak hg] at hj;refine B4 ?_;refine Cc [] (k+1) A7 A7 ⟨A6 (fun z=>AV.c (vs z)) hj.symm,rfl,trivial⟩ trivial
  have hg:¬ 0<k:=by have:=Cv hg;omega
  rw [Ab hg] at hj;refine B4 ?_;refine Cc [] (k+1) A7 A7 ⟨A6 (fun z=>AV.c (vs z)) hj.symm,rfl,trivial⟩ trivial
 have e:k=p.length:=by omega
 exact An A0 rfl rfl ⟨A6 vs (by rw [e,H4]),trivial⟩
def Nt (s:ByteArray) (w:Nat):Bool:=Gk s&&decide (w≤(A5 s).length)&&Ql (A5 s) w
def Du (s:ByteArray) (w:Nat):List Int:=if Nt s w then Gp (A5 s) w else []
def B2o (s:ByteArray) (w:Nat):ByteArray:=if Nt s w then D6 (A5 s) else (⟨#[]⟩:ByteArray)
theorem Xm {s:ByteArray}{w:Nat}(h:Nt s w=false):Du s w=[]∧B2o s w=(⟨#[]⟩:ByteArray):=by simp [Du,B2o,h]
theorem Ks {s:ByteArray}{w:Nat}(h:Nt s w=true):Du s w=Gp (A5 s) w∧B2o s w=D6 (A5 s):=by simp [Du,B2o,h]
theorem Y9 (s:ByteArray)(w:Nat)(hs:s.size≤1048576)(hw2:w≤2):A5z Tryz.prog X8 82 [.one (vs s),.one (vi w)] (fun v:Value=>v.oneCell'=true) (fun v=>[.one (Cn (Du s w)),.one (.val v),.one (vs (B2o s w)),.one (vb (Nt s w))]):=by
 have hl:=Hf s;have hp:=G8 s;have hjs:=A39 s;refine D16 A0 false Tryz.func82 rfl Bq fun W hW=>?_;conv=>whnf
 refine Dj (Vv s hs) B5 hW rfl (Ah ?_)
 repeat' (first|(refine Ho ?_;conv=>whnf)|(refine Hp ?_;conv=>whnf)|(refine ⟨fun h=>?_,fun h=>?_⟩<;>conv=>whnf)|(refine Cp ?_;conv=>whnf)|fail)
 ·have hb:Gk s=false:=by simpa using h
  have hok:Nt s w=false:=by rw [Nt,hb];rfl
  have hh:=Xm hok;refine A46 4 1 (fun i=>(fun n=>[vi n]) (([]:List Int).getD i default)) rfl ?_;refine D02 (.slice none 0 0) rfl ?_;exact An A0 rfl rfl ⟨by (conv=>whnf);rw [hh.1];rfl,.inl rfl,A6 vs hh.2,A6 vb hok,trivial⟩
 ·have hlt:(A5 s).length<w:=by have:=Bn h;omega
  have hok:Nt s w=false:=by rw [Nt,Cd (by omega:¬ w≤(A5 s).length)];simp
  have hh:=Xm hok;refine A46 4 1 (fun i=>(fun n=>[vi n]) (([]:List Int).getD i default)) rfl ?_;refine D02 (.slice none 0 0) rfl ?_;exact An A0 rfl rfl ⟨by (conv=>whnf);rw [hh.1];rfl,.inl rfl,A6 vs hh.2,A6 vb hok,trivial⟩
 rename_i hb0
 have hb:Gk s=true:=by simpa using hb0
 have hwl:w≤(A5 s).length:=by have:=Cv h;omega
 have hsub:Y1 (A5 s).length 1 (fun i=>[vs ((A5 s).getD i default)]) (w:Int) ((A5 s).length:Int) (C6 ((A5 s).drop w)):=by
  have h:=Xt (es:=1) (e:=fun b=>[vs b]) (xs:=A5 s) (l:=(w:Int)) (h:=((A5 s).length:Int)) A7 A7 A7
  rwa [Bv,Ms (by rw [Ge];omega)] at h
 have hq:∀x∈(A5 s).drop w,x.size≤600:=fun x hx=>hp x (A3m hx);have hql:((A5 s).drop w).length≤12:=by rw [Ge];omega
 generalize hQ:(A5 s).drop w=Q at hsub hq hql;refine U5 10 1 (fun i=>(fun n=>[vi n]) (([]:List Int).getD i default)) rfl ?_;refine P9 A0 rfl ⟨by omega,by omega,by omega⟩ (C6 Q) hsub (Ah ?_);have hz:∀x∈Q.take 0,U9 x=true:=fun x hx=>by rw [List.take_zero] at hx;cases hx
 refine Fx [] (fun k:Nat=>[(32,.c (vi k))]) (fun k=>[]) (fun k=>[⟨0,Cn ((Q.take k).map Sj)⟩]) (fun k=>k≤Q.length∧(∀x∈Q.take k,U9 x=true)) (fun k=>Q.length-k) fun k hk=>?_;obtain ⟨hk,he⟩:=hk;refine Dv (fun h'=>?_) fun h'=>?_
 ·have h':k<Q.length:=by omega
  have hx:=hq _ (Al (d:=default) h');refine B4 ?_;refine Dj (V1 (Q.getD k default) A7) B5 hW rfl (Ah ?_);refine C1 (fun hc=>?_) fun hc=>?_
  ·have hr:U9 (Q.getD k default)=false:=by simpa using hc
   have hok:Nt s w=false:=by
    rw [Nt,Ql,hQ,A3u h' hr];simp
   have hh:=Xm hok;refine A46 4 1 (fun i=>(fun n=>[vi n]) (([]:List Int).getD i default)) rfl ?_;refine D02 (.slice none 0 0) rfl ?_;exact An A0 rfl rfl ⟨by (conv=>whnf);rw [hh.1];rfl,.inl rfl,A6 vs hh.2,A6 vb hok,trivial⟩
  have hr:U9 (Q.getD k default)=true:=by simpa using hc
  have hnext:∀x∈Q.take (k+1),U9 x=true:=fun x hx=>by
   rw [Ep Q k h'] at hx
   rcases Ki.1 hx with hx|hx
   ·exact he x hx
   rw [I3.1 hx];exact hr
  refine B4 ?_;refine B6 A0 rfl (Cn ((Q.take k).map Sj++[Sj (Q.getD k default)])) (Ao rfl) Hd Pn (Em ?_);refine Cc [(0,2)] (k+1) ⟨by omega,hnext⟩ A7 ⟨rfl,trivial⟩ ⟨A6 Cn (T2 _ _ _ h').symm,trivial⟩
 have e:k=Q.length:=by omega
 have hall:Q.take k=Q:=by rw [e,H4]
 rw [hall]
 have hok:Nt s w=true:=by
  rw [Nt,hb,Dc hwl,Ql,hQ,Jc.2 (fun x hx=>he x (by rw [hall];exact hx))];rfl
 have hh:=Ks hok;refine Fp (C60 (A5 s) A7 A7) ?_;refine D37 5 rfl (fun a m c=>D02 (.slice a m c) rfl ?_);exact An A0 rfl rfl ⟨by (conv=>whnf);exact A6 Cn (by rw [hh.1,Gp,hQ]),by (cases a<;>(conv=>whnf));exact Or.inl rfl,A6 vs hh.2,A6 vb hok,trivial⟩
theorem Ke {n:Int}(h:0≤n):noB (I9 n):=by
 obtain ⟨m,rfl⟩:∃m:Nat,n=m:=⟨n.toNat,by omega⟩;exact D12 m
theorem Nc {n:Int}(h:0≤n∧n≤1000000000):U9 (I9 n)=true:=by
 obtain ⟨m,rfl⟩:∃m:Nat,n=m:=⟨n.toNat,by omega⟩;exact (D0u m A7).1
def Se (s:ByteArray) (w:Nat):List ByteArray:=if Nt s w then A5 s else []
theorem Zn {s:ByteArray}{w:Nat}(h:Nt s w=false):Se s w=[]:=by simp [Se,h]
theorem T4 {s:ByteArray}{w:Nat}(h:Nt s w=true):Se s w=A5 s:=by simp [Se,h]
theorem Pu (s:ByteArray)(w:Nat)(hs:s.size≤1048576)(hw2:w≤2):E3 Tryz.prog X8 82 [.one (vs s),.one (vi w)] [.one (Cn (Du s w)),.one (C6 (Se s w)),.one (vs (B2o s w)),.one (vb (Nt s w))]:=by
 have hl:=Hf s;have hp:=G8 s;have hjs:=A39 s;refine He A0 false Tryz.func82 rfl Bq fun W hW=>?_;conv=>whnf
 refine A2m (Vv s hs) B5 hW rfl (Ah ?_)
 repeat' (first|(refine Ho ?_;conv=>whnf)|(refine Hp ?_;conv=>whnf)|(refine ⟨fun h=>?_,fun h=>?_⟩<;>conv=>whnf)|(refine Cp ?_;conv=>whnf)|fail)
 ·have hb:Gk s=false:=by simpa using h
  have hok:Nt s w=false:=by rw [Nt,hb];rfl
  have hh:=Xm hok;have hq:=Zn hok;refine A46 4 1 (fun i=>(fun n=>[vi n]) (([]:List Int).getD i default)) rfl ?_;refine A46 5 1 (fun i=>(fun b=>[vs b]) (([]:List ByteArray).getD i default)) rfl ?_;exact An A0 rfl rfl ⟨by (conv=>whnf);rw [hh.1];rfl,by (conv=>whnf);rw [hq];rfl,A6 vs hh.2,A6 vb hok,trivial⟩
 ·have hlt:(A5 s).length<w:=by have:=Bn h;omega
  have hok:Nt s w=false:=by rw [Nt,Cd (by omega:¬ w≤(A5 s).length)];simp
  have hh:=Xm hok;have hq:=Zn hok;refine A46 4 1 (fun i=>(fun n=>[vi n]) (([]:List Int).getD i default)) rfl ?_;refine A46 5 1 (fun i=>(fun b=>[vs b]) (([]:List ByteArray).getD i default)) rfl ?_;exact An A0 rfl rfl ⟨by (conv=>whnf);rw [hh.1];rfl,by (conv=>whnf);rw [hq];rfl,A6 vs hh.2,A6 vb hok,trivial⟩
 rename_i hb0
 have hb:Gk s=true:=by simpa using hb0
 have hwl:w≤(A5 s).length:=by have:=Cv h;omega
 have hsub:Y1 (A5 s).length 1 (fun i=>[vs ((A5 s).getD i default)]) (w:Int) ((A5 s).length:Int) (C6 ((A5 s).drop w)):=by
  have h:=Xt (es:=1) (e:=fun b=>[vs b]) (xs:=A5 s) (l:=(w:Int)) (h:=((A5 s).length:Int)) A7 A7 A7
  rwa [Bv,Ms (by rw [Ge];omega)] at h
 have hq:∀x∈(A5 s).drop w,x.size≤600:=fun x hx=>hp x (A3m hx);have hql:((A5 s).drop w).length≤12:=by rw [Ge];omega
 generalize hQ:(A5 s).drop w=Q at hsub hq hql;refine C9y 0 rfl fun B v fp hF=>?_;refine D3q hF 28 rfl ?_;refine U5 10 1 (fun i=>(fun n=>[vi n]) (([]:List Int).getD i default)) rfl ?_;refine P9 A0 rfl ⟨by omega,by omega,by omega⟩ (C6 Q) hsub (Ah ?_);have hz:∀x∈Q.take 0,U9 x=true:=fun x hx=>by rw [List.take_zero] at hx;cases hx
 refine Fx [] (fun k:Nat=>[(32,.c (vi k))]) (fun k=>[]) (fun k=>[⟨1,Cn ((Q.take k).map Sj)⟩]) (fun k=>k≤Q.length∧(∀x∈Q.take k,U9 x=true)) (fun k=>Q.length-k) fun k hk=>?_;obtain ⟨hk,he⟩:=hk;refine Dv (fun h'=>?_) fun h'=>?_
 ·have h':k<Q.length:=by omega
  have hx:=hq _ (Al (d:=default) h');refine B4 ?_;refine D10 hF (V1 (Q.getD k default) A7) B5 hW rfl (Ah ?_);refine C1 (fun hc=>?_) fun hc=>?_
  ·have hr:U9 (Q.getD k default)=false:=by simpa using hc
   have hok:Nt s w=false:=by
    rw [Nt,Ql,hQ,A3u h' hr];simp
   have hh:=Xm hok;have hq:=Zn hok;refine A46 4 1 (fun i=>(fun n=>[vi n]) (([]:List Int).getD i default)) rfl ?_;refine A46 5 1 (fun i=>(fun b=>[vs b]) (([]:List ByteArray).getD i default)) rfl ?_;exact D4d A0 hF rfl rfl ⟨by (conv=>whnf);rw [hh.1];rfl,by (conv=>whnf);rw [hq];rfl,A6 vs hh.2,A6 vb hok,trivial⟩
  have hr:U9 (Q.getD k default)=true:=by simpa using hc
  have hnext:∀x∈Q.take (k+1),U9 x=true:=fun x hx=>by
   rw [Ep Q k h'] at hx
   rcases Ki.1 hx with hx|hx
   ·exact he x hx
   rw [I3.1 hx];exact hr
  refine B4 ?_;refine B6 A0 rfl (Cn ((Q.take k).map Sj++[Sj (Q.getD k default)])) (Ao rfl) Hd Pn (Em ?_);refine Cc [(1,3)] (k+1) ⟨by omega,hnext⟩ A7 ⟨rfl,trivial⟩ ⟨A6 Cn (T2 _ _ _ h').symm,trivial⟩
 have e:k=Q.length:=by omega
 have hall:Q.take k=Q:=by rw [e,H4]
 rw [hall]
 have hok:Nt s w=true:=by
  rw [Nt,hb,Dc hwl,Ql,hQ,Jc.2 (fun x hx=>he x (by rw [hall];exact hx))];rfl
 have hh:=Ks hok;have hq:=T4 hok;rw [show Du s w=Q.map Sj by rw [hh.1,Gp,hQ],hq,hh.2,hok]
 refine D3p hF 0 rfl ?_;refine Fp (C60 (A5 s) A7 A7) ?_;exact D4e A0 hF 1 rfl rfl rfl ⟨rfl,A1p _ _,rfl,rfl,trivial⟩
def Jg (x:C3):Prop:=(1≤x.kind∧x.kind≤8)∧(x.kind=2→0≤x.a∧x.a≤999∧x.b=0)∧(x.kind=3→1≤x.a∧x.a≤10∧0≤x.b∧x.b≤x.a-1)∧(x.kind=4→0≤x.a∧x.a≤99∧x.b=0)∧
 (x.kind≠2→x.kind≠3→x.kind≠4→x.a=0∧x.b=0)∧x.ax.length≤2∧(x.kind=8→x.ax.length=0)∧(x.ax.length=2→x.ax.getD 0 default≠x.ax.getD 1 default)∧(∀n∈x.ax,0≤n∧n≤7)
instance (x:C3):Decidable (Jg x):=by unfold Jg;infer_instance
def Lj (x:C3):Bool:=decide (Jg x)
def A51 (l:List Int) (k:Nat):Prop:=∀i,i<k→0≤l.getD i default∧l.getD i default≤7
theorem A73 {l:List Int}{k:Nat}(h:A51 l k)(h1:0≤l.getD k default)(h2:l.getD k default≤7):A51 l (k+1):=fun i hi=>by
 by_cases e:i=k
 ·subst e;exact ⟨h1,h2⟩
 exact h i A7
theorem B16 {l:List Int}(h:A51 l l.length):∀n∈l,0≤n∧n≤7:=fun n hn=>by
 obtain ⟨i,hi,e⟩:=S4 hn
 have:=h i hi
 rw [List.getD,Dl hi] at this;rw [←e];exact this
def A52 (x:C3):Prop:=(1≤x.kind∧x.kind≤8)∧(x.kind=2→0≤x.a∧x.a≤999∧x.b=0)∧(x.kind=3→1≤x.a∧x.a≤10∧0≤x.b∧x.b≤x.a-1)∧(x.kind=4→0≤x.a∧x.a≤99∧x.b=0)∧
 (x.kind≠2→x.kind≠3→x.kind≠4→x.a=0∧x.b=0)
theorem Jg.pars {x:C3}(h:Jg x):A52 x:=⟨h.1,h.2.1,h.2.2.1,h.2.2.2.1,h.2.2.2.2.1⟩
theorem U0 (x:C3)(hx:x.w≤16777216):Di 112 [.agg x.c] [.one (vb (Lj x))]:=by
 have hl:x.ax.length≤16777216:=hx;refine C6b 6 A0 false Tryz.func112 rfl Bq fun W=>?_;conv=>whnf
 refine C9l A0 false (J:=Unit) [5,6,7,8,9,10,11,12,13,14,15,16,17,18,19,20,21,22,23,24,25,26,27,28,29,30,31,32,33,34,35,36,37,38,39,40,41,42,43,44,45,46,47,48,49,50,51,52,53,54,55,56,57] (fun _=>[]) (fun _=>[⟨0,[.c (vi x.kind),.c (vi x.a),.c (vi x.b),.c (Cn x.ax)]⟩]) (fun _=>[]) (fun _=>A52 x) ?_ ?_
 ·conv=>whnf
  repeat' (first|(refine Ho ?_;conv=>whnf)|(refine Hp ?_;conv=>whnf)|(refine ⟨fun h=>?_,fun h=>?_⟩<;>conv=>whnf)|(refine Aq (Hm _ _ _) rfl (Ah ?_))|(refine Cp ?_;conv=>whnf)|(refine Aj 19 rfl [0,1,2,3,4,5,6,7,8,9,10,11,12,13,14,15,16,17,18,19,20,21,22,23,24,25,26,27,28,29,30,31] Am (Ah ?_))|fail)
  all_goals first
   |(refine An A0 rfl rfl ⟨A6 vb (Cd fun p=>?_),trivial⟩;have p:=p.pars;unfold A52 at p;obtain ⟨p1,p2,p3,p4,p5⟩:=p;simp only [F4] at * <;>omega)
   |(refine Cc [] () ?_ Bq trivial trivial;refine ⟨?_,?_,?_,?_,?_⟩<;>(intros;simp only [F4] at * <;>omega))
 intro _ hp;have hu:A51 x.ax 0:=fun i h=>absurd h (L4 i);conv=>whnf
 unfold A52 at hp
 repeat' (first|(refine Ho ?_;conv=>whnf)|(refine Hp ?_;conv=>whnf)|(refine ⟨fun h=>?_,fun h=>?_⟩<;>conv=>whnf)|(refine Cp ?_;conv=>whnf)|(refine Aj 19 rfl [0,1,2,3,4,5,6,7,8,9,10,11,12,13,14,15,16,17,18,19,20,21,22,23,24,25,26,27,28,29,30,31] Am (Ah ?_))|fail)
 all_goals try (refine An A0 rfl rfl ⟨A6 vb (Cd fun p=>?_),trivial⟩;obtain ⟨p1,p2,p3,p4,p5,p6,p7,p8,p9⟩:=p;clear hp p1 p2 p3 p4 p5 p9;simp only [F4] at * <;>omega)
 all_goals
  refine Fx [] (fun k:Nat=>[(93,.c (vi k))]) (fun k=>[⟨0,[.c (vi x.kind),.c (vi x.a),.c (vi x.b),.c (Cn x.ax)]⟩]) (fun k=>[]) (fun k=>k≤x.ax.length∧A51 x.ax k) (fun k=>x.ax.length-k) fun k hk=>?_;obtain ⟨hk,he⟩:=hk;refine Dv (fun h'=>?_) fun h'=>?_
  ·have h':k<x.ax.length:=by omega
   refine B4 ?_;refine Fp (Hm (x.ax.getD k default) 0 7) ?_;refine C1 (fun hc=>?_) fun hc=>?_
   ·exact An A0 rfl rfl ⟨A6 vb (Cd fun p=>by have p9:=p.2.2.2.2.2.2.2.2 _ (Al (d:=default) h');clear p hp he;simp only [F4] at * <;>omega),trivial⟩
   have hc:=Go.Sx.Cl.1 (by simpa using hc);refine B4 ?_;refine Cc [] (k+1) ⟨by omega,A73 he hc.1 hc.2⟩ A7 ⟨rfl,trivial⟩ trivial
  have e:k=x.ax.length:=by omega
  refine An A0 rfl rfl ⟨A6 vb (Dc ⟨hp.1,hp.2.1,hp.2.2.1,hp.2.2.2.1,hp.2.2.2.2,?_,?_,?_,B16 (e▸he)⟩),trivial⟩
  all_goals (clear he hp;intros;simp only [F4] at * <;>omega)
theorem C58 {p:Prop}(d:Decidable p)(q:Prop) [Decidable q]:(Decidable.rec (motive:=fun _=>Bool) (fun _=>false) (fun _=>decide q) d=true)↔(p∧q):=by
 cases d<;>simp [*]
theorem Zx (x:C3)(hx:x.w≤16777216):Di 128 [.agg x.c] [.one (vb (Lj x))]:=by
 have hl:x.ax.length≤16777216:=hx;have hw1:1≤x.a→x.a≤10→IntKind.wrap .i64 (x.a-1)=x.a-1:=fun h1 h2=>L0 (by show _∧_;omega)
 refine C6b 20 A0 true Tryz.func128 rfl Bq fun W=>?_;conv=>whnf
 refine C9l A0 true (J:=Bool×Bool) [12,13,14,15,16,17,18,19,20,21,22,23,24,25,26,27,28,29,30,31,32,33,34] (fun j=>[(3,.c (vb j.1)),(4,.c (vb j.2))]) (fun _=>[⟨0,[.c (vi x.kind),.c (vi x.a),.c (vi x.b),.c (Cn x.ax)]⟩]) (fun _=>[]) (fun j=>((j.1=true∧j.2=true∧1≤x.kind∧x.kind≤8)↔A52 x)) ?_ ?_
 ·conv=>whnf
  repeat' (first|(refine Ho ?_;conv=>whnf)|(refine Hp ?_;conv=>whnf)|(refine ⟨fun h=>?_,fun h=>?_⟩<;>conv=>whnf)|(refine Aq (Hg _ _ _) rfl (go A0 true ?_);conv=>whnf)|(refine Cp ?_;conv=>whnf)|(refine Aj 16 rfl [0,1,2,3,4,5,6,7,8,9,10,11,12,13,14,15,16,17,18,19,20,21] Am (go A0 true ?_);conv=>whnf)|fail)
  all_goals
   refine Cc [] (_,_) ?_ Bq ⟨rfl,rfl,trivial⟩ trivial;unfold A52
   try simp only [C58]
   simp only [F4] at * <;>omega
 rintro ⟨a,b⟩ hp
 have hu:A51 x.ax 0∧(2≤0→x.ax.getD 0 default≠x.ax.getD 1 default):=⟨fun i h=>absurd h (L4 i),fun h=>by omega⟩
 conv=>whnf
 repeat' (first|(refine Ho ?_;conv=>whnf)|(refine Hp ?_;conv=>whnf)|(refine ⟨fun h=>?_,fun h=>?_⟩<;>conv=>whnf)|(refine Aq (Hg _ _ _) rfl (go A0 true ?_);conv=>whnf)|(refine Cp ?_;conv=>whnf)|(refine Aj 16 rfl [0,1,2,3,4,5,6,7,8,9,10,11,12,13,14,15,16,17,18,19,20,21] Am (go A0 true ?_);conv=>whnf)|fail)
 all_goals try (refine An A0 rfl rfl ⟨A6 vb (Cd fun p=>?_),trivial⟩;have q:=hp.2 p.pars;obtain ⟨p1,p2,p3,p4,p5,p6,p7,p8,p9⟩:=p;clear hp hu p2 p3 p4 p5 p9;simp only [F4] at * <;>first|omega|simp_all)
 all_goals
  refine W3 A0 true [] (fun k:Nat=>[(5,.c (vi k))]) (fun k=>[⟨0,[.c (vi x.kind),.c (vi x.a),.c (vi x.b),.c (Cn x.ax)]⟩]) (fun k=>[])
   (fun k=>k≤x.ax.length∧(A51 x.ax k∧(2≤k→x.ax.getD 0 default≠x.ax.getD 1 default))) (fun k=>x.ax.length-k) 0 ⟨Fe _,by first|rfl|assumption|simp⟩ ⟨(by first|rfl|simp [Ik,ren2,ren1,ren0]),trivial⟩ V7 trivial ab8 Am (fun k hk=>?_)
  obtain ⟨hk,he⟩:=hk;conv=>whnf
  refine Dv (fun h'=>?_) fun h'=>?_
  ·have h':k<x.ax.length:=by omega
   clear hp hu
   repeat' (first|(refine Ho ?_;conv=>whnf)|(refine Hp ?_;conv=>whnf)|(refine ⟨fun h=>?_,fun h=>?_⟩<;>conv=>whnf)|(refine Aq (Hg _ _ _) rfl (go A0 true ?_);conv=>whnf)|(refine Cp ?_;conv=>whnf)|(refine Aj 16 rfl [0,1,2,3,4,5,6,7,8,9,10,11,12,13,14,15,16,17,18,19,20,21] Am (go A0 true ?_);conv=>whnf)|fail)
   all_goals try (refine An A0 rfl rfl ⟨A6 vb (Cd fun p=>?_),trivial⟩;have p9:=p.2.2.2.2.2.2.2.2 _ (Al (d:=default) h');have p8:=p.2.2.2.2.2.2.2.1;have p6:=p.2.2.2.2.2.1;clear p he;simp only [F4] at * <;>omega)
   all_goals
    refine Cc [] (k+1) ⟨by omega,⟨A73 he.1 (by clear he;simp only [F4] at * <;>omega) (by clear he;simp only [F4] at * <;>omega),by have q:=he.2;clear he;simp only [F4] at * <;>omega⟩⟩ A7 ⟨A6 (fun n=>AV.c (vi n)) (C41 k A7),trivial⟩ trivial
  have e:k=x.ax.length:=by omega
  have hq:A52 x:=hp.1 (by clear hp hu he;simp only [F4] at * <;>first|omega|(refine ⟨?_,?_,?_,?_⟩<;>first|assumption|omega))
  have q:=he.2;refine An A0 rfl rfl ⟨A6 vb (Dc ⟨hq.1,hq.2.1,hq.2.2.1,hq.2.2.2.1,hq.2.2.2.2,?_,?_,?_,B16 (e▸he.1)⟩),trivial⟩
  all_goals (clear he hp hu hq;intros;simp only [F4] at * <;>omega)
end Go.Proofs.YtmhcebdkjgkmlaaGreatDoor
