/- Part 16 of the proof that each of the laws FnConsole returns true for every input. No conditions. -/
import Derived.Test.YtmhcebdkjgkmlaaGreatDoorQ15
import Derived.Test.YtmhcebdkjgkmlaaGreatDoorQ14
import Derived.Lib.IndexBytes
import Derived.Lib.Split

set_option linter.unusedSimpArgs false
set_option linter.unusedVariables false
set_option maxRecDepth 100000
namespace Go.Proofs.YtmhcebdkjgkmlaaGreatDoor
open Go.Sx
def Qc:List UInt8→List UInt8→List (List UInt8)
 |cur,[]=>[cur]
 |cur,b::r=>if b=10 then cur::Qc [] r else Qc (cur++[b]) r
def Bj (s:ByteArray):List ByteArray:=(Qc [] s.data.toList).map fun l=>⟨l.toArray⟩
theorem B1c:∀(r cur:List UInt8),(∀b∈r,b≠10)→Qc cur r=[cur++r]
 | [],cur,_=>by rw [Qc,I4]
 |b::r,cur,h=>by
  rw [Qc,Ab (h b (L3 ..)),B1c r _ (fun x hx=>h x (Db _ hx)),Cr];rfl
theorem C09:∀(r cur:List UInt8) (i:Nat),r[i]? =some 10→(∀k,k<i→r[k]? ≠some 10)→Qc cur r=(cur++r.take i)::Qc [] (r.drop (i+1))
 | [],cur,i,h,_=>by simp at h
 |b::r,cur,0,h,_=>by
  have e:b=10:=by simpa using h
  rw [Qc,Ak e]
  simp
 |b::r,cur,i+1,h,hn=>by
  have e:b≠10:=fun e=>hn 0 (Nat.succ_pos i) (by rw [e];rfl);rw [Qc,Ab e,C09 r (cur++[b]) i (by simpa using h) (fun k hk=>by simpa using hn (k+1) A7),Cr];rfl
theorem C4t:∀(n:Nat) (l:List UInt8),l.length≤n→Lib.splitK [10] 0 (Lib.count l [10]) l=Qc [] l:=by
 intro n
 induction n with
 |zero=>
  intro l hl;obtain rfl:l=[]:=List.length_eq_zero_iff.1 A7;rfl
 |succ n ih=>
  intro l hl;have hge:=Lib.index_ge l [10]
  by_cases hm:Lib.index l [10]= -1
  ·have h1:=Lib.index_one l 10
   rw [hm] at h1;have h2:=Lib.indexByte_none h1.symm
   rw [Lib.count_miss hm,B1c l [] (fun b hb e=>by
    subst e;obtain ⟨k,hk,he⟩:=A9r.1 hb
    exact h2 k (by rw [Dl hk,he]))]
   rfl
  obtain ⟨i,hi⟩:∃i:Nat,Lib.index l [10]=i:=⟨(Lib.index l [10]).toNat,by omega⟩;have h1:=Lib.index_one l 10;rw [hi] at h1;obtain ⟨h2,h3⟩:=Lib.indexByte_some h1.symm;have hlen:i<l.length:=(Cx.1 h2).1;rw [Lib.count_hit Ey hi,C09 l [] i h2 h3,A0l 1];unfold Lib.splitK;rw [Ab (by rw [Qt];exact hm),hi,←ih (l.drop (i+1)) (by rw [Ge];omega)]
  simp
theorem A86 (s:ByteArray):Lib.splitB ⟨#[10]⟩ 0 (Lib.countB s ⟨#[10]⟩) s=Bj s:=by
 have h:=Lib.splitB_data ⟨#[10]⟩ 0 (Lib.countB s ⟨#[10]⟩) s;rw [show (⟨#[10]⟩:ByteArray).data.toList=[10] from rfl,show Lib.countB s ⟨#[10]⟩=Lib.count s.data.toList [10] from rfl,C4t _ _ (Ds _)] at h
 rw [Bj,←h,List.map_map];exact (List.map_id' _).symm.trans (List.map_congr_left fun x _=>by apply Tg;simp)
theorem A2o:∀(r cur:List UInt8),∀x∈Qc cur r,x.length≤cur.length+r.length
 | [],cur,x,hx=>by
  rw [Qc,I3] at hx;rw [hx];exact Ut _ _
 |b::r,cur,x,hx=>by
  rw [Qc] at hx
  split at hx
  ·rcases Ch.1 hx with rfl|hx
   ·exact Ut _ _
   have:=A2o r [] x hx
   simp only [H3,Fb] at *;omega
  have:=A2o r (cur++[b]) x hx
  simp only [D3,Fb,H3] at *;omega
theorem A6p:∀(r cur:List UInt8),(Qc cur r).length≤r.length+1
 | [],cur=>by rw [Qc];exact Ds _
 |b::r,cur=>by
  rw [Qc]
  split
  ·have:=A6p r []
   simp only [Fb];omega
  have:=A6p r (cur++[b])
  simp only [Fb];omega
theorem C3c (s:ByteArray):∀x∈Bj s,x.size≤s.size:=fun x hx=>by
 obtain ⟨l,hl,rfl⟩:=Fm.1 hx;have h1:=A2o s.data.toList [] l hl;have h2:s.data.toList.length=s.size:=Mr;rw [bsz,Gq];simp only [H3] at h1;omega
theorem A6o (s:ByteArray):(Bj s).length≤s.size+1:=by
 have h1:=A6p s.data.toList [];have h2:s.data.toList.length=s.size:=Mr;rw [Bj,Jd];omega
theorem Rg:∀(l cur:List UInt8),∀x∈Lib.fieldsGo cur l,x≠[]
 | [],cur,x,hx=>by
  rw [Pr] at hx
  split at hx
  ·cases hx
  rename_i h
  rw [I3.1 hx];exact fun e=>h (by rw [e];rfl)
 |b::l,cur,x,hx=>by
  rw [Oc] at hx
  split at hx
  ·split at hx
   ·exact Rg l [] x hx
   rename_i h
   rcases Ch.1 hx with rfl|hx
   ·exact fun e=>h (by rw [e];rfl)
   exact Rg l [] x hx
  exact Rg l (cur++[b]) x hx
theorem B18 (s:ByteArray):∀x∈A5 s,1≤x.size:=fun x hx=>by
 unfold A5 at hx
 split at hx
 ·obtain ⟨l,hl,rfl⟩:=Fm.1 hx
  have:=List.length_pos_iff.2 (Rg _ _ l hl)
  rw [bsz,Gq];omega
 cases hx
def Ir (s:ByteArray):ByteArray:=(A5 s).getD 0 default
variable {s : ByteArray}
theorem Wb (h:F0 s=true):Gk s=true∧Ir s=(⟨#[110,111,100,101]⟩:ByteArray):=by
 obtain ⟨h1,h2,h3,h4⟩:=Bn h;refine ⟨Dc h1,?_⟩;rw [Yf h3] at h4;have r1:=Cj (A5 s) 2;have r2:=Cj (A5 s) 3;have hp:A5 s≠[]:=fun e=>by rw [e] at h2;exact absurd h2 Bq
 have e:=T1 (by simp [C1r]) hp (fun x hx=>by
  rcases Ch.1 hx with rfl|hx
  ·show (32:UInt8)∉_;decide
  rcases Ch.1 hx with rfl|hx
  ·exact A4b _
  rcases Ch.1 hx with rfl|hx
  ·exact Ke r1.1
  rcases Ch.1 hx with rfl|hx
  ·exact Ke r2.1
  obtain ⟨n,hn,rfl⟩:=Fm.1 hx
  exact Ke (Ro hn).1) (T3 s) h4
 rw [Ir,←e];rfl
theorem Ub (h:I5 s=true):Gk s=true∧Ir s=(⟨#[112,117,116]⟩:ByteArray):=by
 obtain ⟨h1,h2,h3,h4⟩:=Bn h;refine ⟨Dc h1,?_⟩;rw [Vx ⟨h3,rfl,rfl⟩] at h4;have r1:=Cj (A5 s) 1;have r2:=Cj (A5 s) 2;have r3:=Cj (A5 s) 3;have hp:A5 s≠[]:=fun e=>by rw [e] at h2;cases h2
 have e:=T1 Ey hp (fun x hx=>by
  simp only [Ch,Ph,T9] at hx
  rcases hx with rfl|rfl|rfl|rfl
  ·show (32:UInt8)∉_;decide
  ·exact Ke r1.1
  ·exact Ke r2.1
  exact Ke r3.1) (T3 s) h4
 rw [Ir,←e];rfl
theorem Nd (h:Fs s=true):Gk s=true∧∃k:Nat,k<7∧Ir s=Kt ((k:Int)+1):=by
 obtain ⟨k,e⟩:=A9g.1 h;obtain ⟨h1,h2,_⟩:=List.find?_range_eq_some.1 e;have hk:=Fz.1 h2;have hP:=Bn h1;refine ⟨Dc hP.1,k,hk,?_⟩;rw [Ir,←U7 hk hP,W7]
 split<;>rfl
theorem Sh:∀{k:Nat},k<7→Kt ((k:Int)+1)≠(⟨#[102,97,105,114]⟩:ByteArray)∧Kt ((k:Int)+1)≠(⟨#[110,111,100,101]⟩:ByteArray)∧Kt ((k:Int)+1)≠(⟨#[112,117,116]⟩:ByteArray)
 | 0,_=>by refine ⟨?_,?_,?_⟩<;>decide
 | 1,_=>by refine ⟨?_,?_,?_⟩<;>decide
 | 2,_=>by refine ⟨?_,?_,?_⟩<;>decide
 | 3,_=>by refine ⟨?_,?_,?_⟩<;>decide
 | 4,_=>by refine ⟨?_,?_,?_⟩<;>decide
 | 5,_=>by refine ⟨?_,?_,?_⟩<;>decide
 | 6,_=>by refine ⟨?_,?_,?_⟩<;>decide
 |k+7,h=>by omega
def R3 (l:ByteArray):Prop:=Gk l=true∧(A5 l).length=2∧Ir l=(⟨#[102,97,105,114]⟩:ByteArray)∧U9 ((A5 l).getD 1 default)=true∧Sj ((A5 l).getD 1 default)≤3000
instance (l:ByteArray):Decidable (R3 l):=by unfold R3;infer_instance
def Mt (s:C7) (l:ByteArray):Bool:=
 if F0 l=true then decide (s.az.ak.length<8) else if I5 l=true then decide (s.au.length<20) else if Fs l=true then decide (s.ae.length<200) else decide (R3 l)
def V8 (s:C7) (l:ByteArray):C7:=
 if F0 l=true then ⟨⟨s.az.ak++[Gl l],s.az.aq,s.az.cap⟩,s.au,s.ae,s.bq⟩
 else if I5 l=true then ⟨s.az,s.au++[Ld l],s.ae,s.bq⟩
 else if Fs l=true then ⟨s.az,s.au,s.ae++[Gm l],s.bq⟩
 else ⟨s.az,s.au,s.ae,Sj ((A5 l).getD 1 default)⟩
variable {l : ByteArray}
theorem B6x (h:F0 l=true):I5 l=false∧Fs l=false∧¬ R3 l:=by
 have h1:=(Wb h).2;refine ⟨X0.2 fun c=>?_,X0.2 fun c=>?_,fun c=>?_⟩
 ·have:=(Ub c).2
  rw [h1] at this;exact absurd this Bq
 ·obtain ⟨_,k,hk,this⟩:=Nd c
  exact (Sh hk).2.1 (this.symm.trans h1)
 have:=c.2.2.1
 rw [h1] at this;exact absurd this Bq
theorem C6y (h:I5 l=true):Fs l=false∧¬ R3 l:=by
 have h1:=(Ub h).2;refine ⟨X0.2 fun c=>?_,fun c=>?_⟩
 ·obtain ⟨_,k,hk,this⟩:=Nd c
  exact (Sh hk).2.2 (this.symm.trans h1)
 have:=c.2.2.1
 rw [h1] at this;exact absurd this Bq
theorem C72 (h:Fs l=true):¬ R3 l:=fun c=>by
 obtain ⟨_,k,hk,this⟩:=Nd h;exact (Sh hk).1 (this.symm.trans c.2.2.1)
theorem C2t {s:C7}(h:Mt s l=true):Gk l=true:=by
 unfold Mt at h
 split at h
 ·rename_i c;exact (Wb c).1
 split at h
 ·rename_i c;exact (Ub c).1
 split at h
 ·rename_i c;exact (Nd c).1
 exact (Bn h).1
def Lh (l:ByteArray):Prop:=Gk l=true∧((A5 l).length=0∨C4 (Ir l) 0=35)
instance (l:ByteArray):Decidable (Lh l):=by unfold Lh;infer_instance
def A5x (l:ByteArray):Prop:=Gk l=true∧(A5 l).length=3∧Ir l=(⟨#[103,114,97,112,104]⟩:ByteArray)∧U9 ((A5 l).getD 1 default)=true∧U9 ((A5 l).getD 2 default)=true
instance (l:ByteArray):Decidable (A5x l):=by unfold A5x;infer_instance
abbrev St:=Bool×C7
def Ia (t:St) (l:ByteArray):Bool:=if Lh l then true else if t.1=true then Mt t.2 l else decide (A5x l)
def Nv (t:St) (l:ByteArray):St:=
 if Lh l then t else if t.1=true then (true,V8 t.2 l)
 else (true,⟨⟨t.2.az.ak,Sj ((A5 l).getD 1 default),Sj ((A5 l).getD 2 default)⟩,t.2.au,t.2.ae,t.2.bq⟩)
def st0:St:=(false,⟨⟨[],0,0⟩,[],[],0⟩)
def P2 (L:List ByteArray) (k:Nat):St:=(L.take k).foldl Nv st0
variable {L : List ByteArray} {k : Nat}
theorem Jb (h:k<L.length):P2 L (k+1)=Nv (P2 L k) (L.getD k default):=by
 rw [P2,Ep L k h,A3l];rfl
def S5 (L:List ByteArray) (k:Nat):Prop:=∀j,j<k→Ia (P2 L j) (L.getD j default)=true
theorem K4 (h:S5 L k)(hk:Ia (P2 L k) (L.getD k default)=true):S5 L (k+1):=fun j hj=>by
 by_cases e:j=k
 ·rw [e];exact hk
 exact h j A7
def C5l (L:List ByteArray):Option Nat:=(List.range L.length).find? fun k=>!Ia (P2 L k) (L.getD k default)
def B9 (x:ByteArray):C7×Int:=
 if 12000<x.size then (default,-1) else
 match C5l (Bj x) with
 |some k=>(default,(k:Int)+1)
 |none=>let t:=P2 (Bj x) (Bj x).length
  if t.1=true∧F2 t.2.az=true then (t.2,0) else (default,((Bj x).length:Int)+1)
variable {x : ByteArray}
theorem Wc (h:12000<x.size):B9 x=(default,-1):=Ak h
theorem Dr (h:¬ 12000<x.size)(hk:k<(Bj x).length)(hg:S5 (Bj x) k)(hb:Ia (P2 (Bj x) k) ((Bj x).getD k default)=false):B9 x=(default,(k:Int)+1):=by
 have e:C5l (Bj x)=some k:=List.find?_range_eq_some.2 ⟨by rw [hb];rfl,Fz.2 hk,fun j hj=>by rw [hg j hj];rfl⟩
 rw [B9,Ab h,e]
theorem A6d (hk:k=L.length)(hg:S5 L k):C5l L=none:=
 List.find?_range_eq_none.2 fun j hj=>by rw [hg j A7];rfl
theorem Oi (h:¬ 12000<x.size)(hk:k=(Bj x).length)(hg:S5 (Bj x) k)(hb:¬ ((P2 (Bj x) k).1=true∧F2 (P2 (Bj x) k).2.az=true)):B9 x=(default,((Bj x).length:Int)+1):=by
 rw [B9,Ab h,A6d hk hg];subst hk;exact Ab hb
theorem Wd (h:¬ 12000<x.size)(hk:k=(Bj x).length)(hg:S5 (Bj x) k)(hb:(P2 (Bj x) k).1=true∧F2 (P2 (Bj x) k).2.az=true):B9 x=((P2 (Bj x) k).2,0):=by
 rw [B9,Ab h,A6d hk hg];subst hk;exact Ak hb
def A0s (s:C7):Prop:=s.az.ak.length≤8∧(∀x∈s.az.ak,x.w≤12)∧s.au.length≤20∧s.ae.length≤200
theorem B0h (s:ByteArray):(Gl s).w≤12:=by
 unfold Gl
 split
 ·exact Px s 4
 exact Fe _
theorem D1v {s:C7}(h:A0s s)(hb:Mt s l=true):A0s (V8 s l):=by
 obtain ⟨h1,h2,h3,h4⟩:=h;unfold Mt at hb;unfold V8
 split at hb
 ·rename_i c
  rw [Ak c]
  have:=Bn hb
  refine ⟨?_,fun x hx=>?_,h3,h4⟩
  ·show (s.az.ak++[Gl l]).length≤8
   rw [D3,Lx];omega
  rcases Ki.1 hx with hx|hx
  ·exact h2 x hx
  rw [I3.1 hx];exact B0h l
 rename_i c
 rw [Ab c]
 split at hb
 ·rename_i c
  rw [Ak c]
  have:=Bn hb
  refine ⟨h1,h2,?_,h4⟩
  show (s.au++[Ld l]).length≤20
  rw [D3,Lx];omega
 rename_i c
 rw [Ab c]
 split at hb
 ·rename_i c
  rw [Ak c]
  have:=Bn hb
  refine ⟨h1,h2,h3,?_⟩
  show (s.ae++[Gm l]).length≤200
  rw [D3,Lx];omega
 rename_i c
 rw [Ab c];exact ⟨h1,h2,h3,h4⟩
theorem A18 {t:St}(h:A0s t.2)(hb:Ia t l=true):A0s (Nv t l).2:=by
 unfold Ia at hb;unfold Nv
 split at hb
 ·rename_i c;rw [Ak c];exact h
 rename_i c
 rw [Ab c]
 split at hb
 ·rename_i c
  rw [Ak c];exact D1v h hb
 rename_i c
 rw [Ab c];exact h
theorem B2k:∀(k:Nat),k≤L.length→S5 L k→A0s (P2 L k).2
 | 0,_,_=>by
  show A0s st0.2
  exact ⟨Fe _,fun x hx=>(Ph hx).elim,Fe _,Fe _⟩
 |k+1,hk,hg=>by
  rw [Jb A7];exact A18 (B2k k A7 fun j hj=>hg j A7) (hg k (Rz k))
theorem D1c {xs:List C3}(h:∀x∈xs,x.w≤12):(xs.map C3.w).sum≤12 * xs.length:=by
 induction xs with
 |nil=>exact Ds _
 |cons x r ih=>
  have h1:=h x (L3 ..);have h2:=ih fun y hy=>h y (Db _ hy);rw [I1,Ux,Fb];omega
theorem A0s.w {s:C7}(h:A0s s):s.az.w≤104∧s.w≤324:=by
 obtain ⟨h1,h2,h3,h4⟩:=h
 have:=D1c h2
 have hg:s.az.w≤104:=by
  show s.az.ak.length+(s.az.ak.map C3.w).sum≤104
  omega
 refine ⟨hg,?_⟩
 show s.az.w+s.au.length+s.ae.length≤324
 omega
theorem D2o (s:ByteArray)(hs:s.size≤1048576):E3 Tryz.prog X8 79 [.one (vs s),.one (vs (⟨#[10]⟩:ByteArray))] [.one (C6 (Bj s))]:=by
 refine ⟨⟨_,Tryz.func79,by decide,rfl⟩,fun w hw vals hl hv=>?_⟩
 match vals,hl with
 | [v,v2],_=>
  have h0:v= .string s:=Ud (A:=fun _=>False) (hv 0 _ rfl);have h1:v2= .string ⟨#[10]⟩:=Ud (A:=fun _=>False) (hv 1 _ rfl);subst h0 h1;have hlen:=A6o s;obtain ⟨m,hm⟩:=hw.2.2.2.2;refine (Any.strings_Split {B3w with} B3w.i9 s ⟨#[10]⟩ m w A7 hm Bq).mono ?_
  rintro e w' ⟨rfl,rfl⟩
  rw [A86];have hn:Lib.countB s ⟨#[10]⟩+1=(Bj s).length:=by rw [←A86,Lib.splitB_all ⟨#[10]⟩ Bq 0 _ s rfl]
  rw [hn];refine ⟨Jh w _,[_],fun _=>[w.heap.size],rfl,rfl,fun i y hi=>?_,fun i hi=>⟨by simp,fun b hb=>by rw [I3.1 hb];exact Ds _⟩,fun i j hi hj hne=>by simp at hi hj;omega⟩
  have hsz:(((Bj s).map Value.string).toArray).size=(Bj s).length:=by rw [Gq,Jd]
  match i,hi with
  | 0,hi=>
   simp only [Ha,Ex] at hi;subst hi;have heq1:∀o:Obj,(w.alloc o).heap[w.heap.size]? =some o:=fun o=>Array.getElem?_push_size
   have hr:∀ty:TypeId,Bw (w.alloc (.cells ((Bj s).map Value.string).toArray ty)) (.sl (Bj s).length 1 fun i=>[vs ((Bj s).getD i default)]) (.slice (some ⟨w.heap.size,0 * 1,none⟩) (Bj s).length (Bj s).length) (w.heap.size::(List.range ((Bj s).length * 1)).flatMap fun _=>[]):=
    fun ty=> .sl (Bj s).length 1 _ w.heap.size 0 (Bj s).length ty _ (fun _=>[]) (Ds _) (by unfold maxLen;omega) (heq1 _) (by rw [S0,Nat.mul_one];exact Nat.le_of_eq hsz.symm) (fun i hi=>rfl) (fun i j c hi hj=>by
     match j,hj with
     | 0,hj=>
      simp only [Ha,Ex] at hj;subst hj
      have e:(((Bj s).map Value.string).toArray).getD ((0+i) * 1+0) undef= .string ((Bj s).getD i default):=by
       simp [List.getD,hi]
      rw [e];exact .val _ rfl
     |j+1,hj=>simp at hj)
   have hf:(List.range ((Bj s).length * 1)).flatMap (fun _=>([]:List Nat))=[]:=by simp
   simp only [hf] at hr;exact hr _
  |i+1,hi=>simp at hi
structure D1t where
 i:Nat
 b:Nat
 out:List ByteArray
def B45 (s:ByteArray) (j:D1t):Prop:=j.i≤s.size+1∧j.out.length≤j.i∧
 (j.i≤s.size→j.b≤j.i∧Qc [] s.data.toList=j.out.map (·.data.toList)++Qc (s.extract j.b j.i).data.toList (s.data.toList.drop j.i))∧(¬ j.i≤s.size→j.out=Bj s)
theorem C3e (s:ByteArray):B45 s ⟨0,0,[]⟩:=⟨Fe _,Ds _,fun _=>⟨Ds _,by
 rw [L7 s 0 0 (Fe _)];rfl⟩,fun h=>(h (Fe _)).elim⟩
theorem toList_inj:∀{a b:List ByteArray},a.map (·.data.toList)=b.map (·.data.toList)→a=b
 | [],[],_=>rfl
 | [],_::_,h=>by simp at h
 |_::_,[],h=>by simp at h
 |x::a,y::b,h=>by
  simp only [I1,Nq] at h;rw [toList_inj h.2,show x=y from Tg (A0n.1 h.1)]
variable {s : ByteArray} {j : D1t}
theorem C53 (h:B45 s j)(hi:j.i=s.size):B45 s ⟨j.i+1,j.i+1,j.out++[s.extract j.b j.i]⟩:=by
 obtain ⟨h1,h2,h3,_⟩:=h;refine ⟨by show j.i+1≤_;omega,by simp only [D3,Lx];omega,fun h=>by have h:j.i+1≤s.size:=h;omega,fun _=>?_⟩
 obtain ⟨_,e⟩:=h3 A7;have hl:s.data.toList.length=s.size:=Mr;rw [List.drop_of_length_le A7,Qc] at e
 apply toList_inj
 rw [Qu,List.map_singleton,←e,Bj,List.map_map];exact (List.map_id' _).symm
theorem C54 (h:B45 s j)(hi:j.i<s.size)(hb:C4 s j.i=10):B45 s ⟨j.i+1,j.i+1,j.out++[s.extract j.b j.i]⟩:=by
 obtain ⟨h1,h2,h3,_⟩:=h;refine ⟨by show j.i+1≤_;omega,by simp only [D3,Lx];omega,fun _=>⟨Ds _,?_⟩,fun h=>absurd (show j.i+1≤s.size by omega) h⟩
 obtain ⟨_,e⟩:=h3 A7;rw [Tq hi,Qc,Ak hb] at e;have hz:(s.extract (j.i+1) (j.i+1)).data.toList=[]:=by rw [L7 s _ _ A7];simp
 show _=(j.out++[s.extract j.b j.i]).map (·.data.toList)++Qc (s.extract (j.i+1) (j.i+1)).data.toList _
 rw [e,hz,Qu,Cr];rfl
theorem C3d (h:B45 s j)(hi:j.i<s.size)(hb:C4 s j.i≠10):B45 s ⟨j.i+1,j.b,j.out⟩:=by
 obtain ⟨h1,h2,h3,_⟩:=h;refine ⟨by show j.i+1≤_;omega,by show j.out.length≤j.i+1;omega,fun _=>⟨?_,?_⟩,fun h=>absurd (show j.i+1≤s.size by omega) h⟩
 ·have:=(h3 A7).1;show j.b≤j.i+1;omega
 obtain ⟨hb',e⟩:=h3 A7;rw [Tq hi,Qc,Ab hb,L7 s _ _ A7,←A8q hi hb',←L7 s _ _ A7] at e;exact e
theorem D09 (s:ByteArray)(hs:s.size≤1048576):Di 84 [.one (vs s)] [.one (C6 (Bj s))]:=by
 refine E7 Tryz.func84 fun W=>?_;refine Eu 0 (C6 []) rfl (Cf rfl V7) ?_;refine zlW [6] (fun j:D1t=>[(5,.c (vi j.i)),(4,.c (vi j.b))]) (fun j=>[]) (fun j=>[⟨0,C6 j.out⟩]) (fun j=>B45 s j) (fun j=>s.size+1-j.i) (⟨0,0,[]⟩) (C3e s) fun j hj=>?_;have hj1:=hj.1;have hj2:=hj.2.1;refine Dv (fun h=>?_) fun h=>?_
 ·have h:j.i≤s.size:=by omega
  refine B4 ?_;have hb:=(hj.2.2.1 h).1;refine Lf (fun c=>?_) fun c=>?_
  ·have c:j.i=s.size:=by omega
   refine As ?_;refine As ?_;refine A5s A0 rfl rfl rfl rfl rfl rfl rfl ⟨by omega,by omega,by omega⟩ (Ah ?_);refine B6 A0 rfl (C6 (j.out++[s.extract j.b j.i])) (Ao rfl) Hd A7 (Em ?_);refine Cc [(0,2)] (⟨j.i+1,j.i+1,j.out++[s.extract j.b j.i]⟩) (C53 hj c) (by show s.size+1-(j.i+1)<_;omega) ⟨rfl,rfl,trivial⟩ ⟨rfl,trivial⟩
  have hlt:j.i<s.size:=by omega
  refine As ?_;refine Lf (fun e=>?_) fun e=>?_
  ·have e:C4 s j.i=10:=UInt8.toNat_inj.1 (by show _=10;exact Int.ofNat.inj e)
   refine A5s A0 rfl rfl rfl rfl rfl rfl rfl ⟨by omega,by omega,by omega⟩ (Ah ?_);refine B6 A0 rfl (C6 (j.out++[s.extract j.b j.i])) (Ao rfl) Hd A7 (Em ?_);refine Cc [(0,2)] (⟨j.i+1,j.i+1,j.out++[s.extract j.b j.i]⟩) (C54 hj hlt e) (by show s.size+1-(j.i+1)<_;omega) ⟨rfl,rfl,trivial⟩ ⟨rfl,trivial⟩
  have e:C4 s j.i≠10:=fun c=>e (by show ((C4 s j.i).toNat:Int)=_;rw [c];rfl)
  refine B4 ?_;refine Cc [] (⟨j.i+1,j.b,j.out⟩) (C3d hj hlt e) (by show s.size+1-(j.i+1)<_;omega) ⟨rfl,rfl,trivial⟩ ⟨rfl,trivial⟩
 exact An A0 rfl rfl ⟨by exact A6 C6 (hj.2.2.2 A7),trivial⟩
end Go.Proofs.YtmhcebdkjgkmlaaGreatDoor
