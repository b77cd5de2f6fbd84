/- Part 27 of the proof that each of the laws FnScriptsBack returns true for every input. No conditions. -/
import Derived.Test.YtmhcebdkjgkmlaaGreatDoorR24
import Derived.Test.YtmhcebdkjgkmlaaGreatDoorR22
import Derived.Test.YtmhcebdkjgkmlaaGreatDoorR19
import Derived.Lib.IndexBytes
import Derived.Lib.Split

set_option linter.unusedSimpArgs false
set_option linter.unusedVariables false
set_option maxRecDepth 100000
namespace Go.Proofs.YtmhcebdkjgkmlaaGreatDoor
open Go.Sx
def Mi (w:ByteArray):Nat→Int
 | 0=>0
 |k+1=>if C5 ((k:Int)+1)=w then (k:Int)+1 else Mi w k
theorem Yp {w:ByteArray}:∀(n:Nat),Mi w n≠0→∃j,j<n∧Mi w n=(j:Int)+1∧C5 ((j:Int)+1)=w
 | 0,h=>absurd rfl h
 |n+1,h=>by
  rw [Mi] at h ⊢
  by_cases c:C5 ((n:Int)+1)=w
  ·rw [Ah c]
   exact ⟨n,by omega,rfl,c⟩
  rw [Ab c] at h ⊢;obtain ⟨j,h1,h2,h3⟩:=Yp n h;exact ⟨j,by omega,h2,h3⟩
def D08 (w:ByteArray):Nat:=if w=(⟨#[105,110]⟩:ByteArray) then 0 else if w=(⟨#[97,100,100]⟩:ByteArray) then 1 else if w=(⟨#[107,101,101,112]⟩:ByteArray) then 2 else if w=(⟨#[109,111,118,101]⟩:ByteArray) then 3 else if w=(⟨#[109,105,110]⟩:ByteArray) then 4 else if w=(⟨#[110,101,119]⟩:ByteArray) then 5 else if w=(⟨#[98,97,99,107]⟩:ByteArray) then 6 else 7
theorem A24:∀{k:Nat},k<8→D08 (C5 ((k:Int)+1))=k
 | 0,_=>by decide
 | 1,_=>by decide
 | 2,_=>by decide
 | 3,_=>by decide
 | 4,_=>by decide
 | 5,_=>by decide
 | 6,_=>by decide
 | 7,_=>by decide
 |k+8,h=>by omega
theorem A26 (w:ByteArray)(n:Nat):0≤Mi w n∧Mi w n≤n:=by
 induction n with
 |zero=>exact ⟨T8 _,T8 _⟩
 |succ n ih=>
  rw [Mi]
  split<;>omega
theorem B4q {w:ByteArray}{k:Nat}(hk:k<8)(h:C5 ((k:Int)+1)=w):Mi w 8=(k:Int)+1:=by
 have hne:∀n,k<n→n≤8→Mi w n≠0:=fun n h1 h2=>by
  induction n with
  |zero=>omega
  |succ n ih=>
   rw [Mi]
   by_cases c:C5 ((n:Int)+1)=w
   ·rw [Ah c];omega
   rw [Ab c]
   by_cases e:k=n
   ·exact absurd (e▸h) c
   exact ih A7 A7
 obtain ⟨j,h1,h2,h3⟩:=Yp 8 (hne 8 hk (Bu _));have e1:=A24 h1;have e2:=A24 hk;rw [h3] at e1;rw [h] at e2;rw [h2,←e1,e2]
def Om (s:ByteArray):Ba:=⟨Mi ((A4 s).getD 1 default) 8,Dq (A4 s) 2,Dq (A4 s) 3,Gg (A4 s) 4⟩
def Gx (s:ByteArray):Prop:=Fv s∧4≤(A4 s).length∧I6 (Om s)∧Be (Om s)=Cf (A4 s)
instance (s:ByteArray):Decidable (Gx s):=by unfold Gx;infer_instance
def G3 (s:ByteArray):Ba:=if Gx s then Om s else default
def Dw (s:ByteArray):Bool:=decide (Gx s)
variable {s : ByteArray}
theorem Jk (h:¬ Gx s):G3 s=default∧Dw s=false:=⟨Ab h,Cx h⟩
theorem A3e (h:Gx s):G3 s=Om s∧Dw s=true:=⟨Ah h,D7 h⟩
theorem A6k:∀(l:List Int) (q:List ByteArray),q≠[]→Rm (Cf q) l=Cf (q++l.map Gf)
 | [],q,_=>by rw [Z9,Gw];rfl
 |n::l,q,h=>by
  have e:Rm (Cf q) (n::l)=Rm (Cf (q++[Gf n])) l:=by
   rw [A52 q (Gf n) h];rfl
  rw [e,A6k l (q++[Gf n]) Ef,Ci];rfl
theorem C2q (a s:ByteArray):∀(l:List Int),a++Rm s l=Rm (a++s) l:=fun l=>by
 induction l generalizing s with
 |nil=>rfl
 |cons n l ih=>
  show a++Rm (s++(⟨#[32]⟩:ByteArray)++Gf n) l=Rm (a++s++(⟨#[32]⟩:ByteArray)++Gf n) l
  rw [ih];simp only [ByteArray.append_assoc]
def Qj (x:Ba):List ByteArray:=(⟨#[110,111,100,101]⟩:ByteArray)::C5 x.kind::Gf x.a::Gf x.b::x.ax.map Gf
variable {x : Ba}
theorem Lu (h:I6 x):Be x=Cf (Qj x):=by
 rw [Be,Ah (show Li x=true from D7 h),Qk,C2q]
 have e:(⟨#[110,111,100,101,32]⟩:ByteArray)++(C5 x.kind++(⟨#[32]⟩:ByteArray)++Gf x.a++(⟨#[32]⟩:ByteArray)++Gf x.b)=Cf [(⟨#[110,111,100,101]⟩:ByteArray),C5 x.kind,Gf x.a,Gf x.b]:=by
  apply Qx
  apply Ul.1
  simp [Cf,Uq,Lib.join_one,Wp]
 rw [e,A6k _ _ Ef];rfl
theorem B45 (h:I6 x):Be x≠(⟨#[]⟩:ByteArray):=by
 intro e;rw [Be,Ah (show Li x=true from D7 h)] at e
 have:=A6 ByteArray.size e
 simp only [H4,Xl,Gh,Ep,Hi] at this;omega
theorem B2g (h:¬ I6 x):Be x=(⟨#[]⟩:ByteArray):=by
 rw [Be,Ab (by rw [Li,Cx h];decide)]
theorem A25 (k:Int):noB (C5 k):=by
 by_cases h:1≤k∧k≤8
 ·have:k=1∨k=2∨k=3∨k=4∨k=5∨k=6∨k=7∨k=8:=by omega
  rcases this with rfl|rfl|rfl|rfl|rfl|rfl|rfl|rfl<;>(show (32:UInt8)∉_;decide)
 rw [C5,Ab h];show (32:UInt8)∉_;decide
variable {p : List ByteArray}
theorem Rl {w:Nat}{n:Int}(h:n∈Gg p w):0≤n∧n≤1000000000:=by
 obtain ⟨b,_,rfl⟩:=Ea.1 h;exact B0u b
theorem A88 (h:Gx s):Ql (A4 s) 2=true:=by
 obtain ⟨h1,h2,h3,h4⟩:=h;rw [Lu h3] at h4;have r1:=Cm (A4 s) 2;have r2:=Cm (A4 s) 3;have hp:A4 s≠[]:=fun e=>by rw [e] at h2;exact absurd h2 Bk
 have e:=Sr (by simp [Qj]) hp (fun x hx=>by
  rcases C7.1 hx with rfl|hx
  ·show (32:UInt8)∉_;decide
  rcases C7.1 hx with rfl|hx
  ·exact A25 _
  rcases C7.1 hx with rfl|hx
  ·exact Kh r1.1
  rcases C7.1 hx with rfl|hx
  ·exact Kh r2.1
  obtain ⟨n,hn,rfl⟩:=Ea.1 hx
  exact Kh (Rl hn).1) (Sv s) h4
 rw [←e];simp only [Qj,Ql,Wi,Zd,Wg,Cj];refine ⟨Jv r1,Jv r2,Ja.2 fun x hx=>?_⟩;obtain ⟨n,hn,rfl⟩:=Ea.1 hx;exact Jv (Rl hn)
theorem C2l {w:Nat}:∀n∈Gg p w,Js .i64 n:=fun n hn=>by
 have:=Rl hn
 show _∧_
 omega
theorem Py (s:ByteArray)(w:Nat):(Gg (A4 s) w).length≤12:=by
 have:=H9 s
 rw [Hs];omega
theorem B0v (s:ByteArray)(k:Int)(hk:0≤k∧k≤8):(⟨k,Dq (A4 s) 2,Dq (A4 s) 3,Gg (A4 s) 4⟩:Ba).ok:=by
 have r1:=Cm (A4 s) 2;have r2:=Cm (A4 s) 3;have h4:=Py s 4;refine ⟨?_,?_,?_,?_,C2l⟩
 ·show _∧_;dsimp only;omega
 ·show _∧_;dsimp only;omega
 ·show _∧_;dsimp only;omega
 show (Gg (A4 s) 4).length≤maxLen;rw [maxLen];omega
theorem U0 {k:Nat}(hk:k<8)(hkn:C5 ((k:Int)+1)=(A4 s).getD 1 default):Om s=⟨(k:Int)+1,Dq (A4 s) 2,Dq (A4 s) 3,Gg (A4 s) 4⟩:=by
 rw [Om,B4q hk hkn]
theorem A87 (h:Gx s):∃j:Nat,j<8∧C5 ((j:Int)+1)=(A4 s).getD 1 default:=by
 have h1:=h.2.2.1.1
 obtain ⟨j,hj,_,hn⟩:=Yp (w:=(A4 s).getD 1 default) 8 (fun e=>by
  have h1:1≤Mi ((A4 s).getD 1 default) 8:=h1.1
  omega)
 exact ⟨j,hj,hn⟩
theorem A1k {w:ByteArray}{k:Nat}(h:∀j:Nat,j<k→C5 ((j:Int)+1)≠w)(hk:C5 ((k:Int)+1)≠w):∀j:Nat,j<k+1→C5 ((j:Int)+1)≠w:=fun j hj=>by
 by_cases e:j=k
 ·rw [e];exact hk
 exact h j A7
theorem B2z (s:ByteArray)(hs:s.size≤1048576):Df 148 [.one (vs s)] [.agg (G3 s).c,.one (vb (Dw s))]:=by
 have hp:=G9 s;have hl:=H9 s;refine Dy Tryz.func148 fun W=>?_
 repeat' (first|(refine Gy ?_;conv=>whnf)|(refine Gz ?_;conv=>whnf)|(refine ⟨fun h=>?_,fun h=>?_⟩<;>conv=>whnf)|(refine Ao (Rr s hs) rfl (Ag ?_))|(refine Ao (Rq (A4 s) 2 hp hl Bk) rfl (I7 ?_);conv=>whnf)|(refine Ao (Rq (A4 s) 3 hp hl Bk) rfl (I7 ?_);conv=>whnf)|(refine D6 ?_;conv=>whnf)|(refine Ae 8 rfl [0,2,3,4,1,5] Ak (Ag ?_))|(refine Ae 13 rfl [0,1,2,3,4,5,6,7,8] Ak (Ag ?_))|fail)
 ·obtain ⟨hv,hb⟩:=Jk (s:=s) (fun c=>by rw [Mj c.1] at h;exact absurd h Bk)
  rw [hv,hb];exact Af A0 rfl rfl ⟨⟨rfl,rfl,rfl,.inr ⟨rfl,rfl,_,_,rfl⟩,trivial⟩,rfl,trivial⟩
 ·obtain ⟨hv,hb⟩:=Jk (s:=s) (fun c=>by have:=Bp h;have:=c.2.1;omega)
  rw [hv,hb];exact Af A0 rfl rfl ⟨⟨rfl,rfl,rfl,.inr ⟨rfl,rfl,_,_,rfl⟩,trivial⟩,rfl,trivial⟩
 rename_i g1
 have hP:Fv s:=Bp (show Gk s=true by simpa using g1)
 have h4:4≤(A4 s).length:=by have:=Cy h;omega
 refine Fs [] (fun k:Nat=>[(7,.c (vi ((k:Int)+1)))]) (fun k=>[⟨0,[.c (vi 0),.c (vi 0),.c (vi 0),.v (.slice none 0 0)]⟩,⟨1,[.c (vi (Mi ((A4 s).getD 1 default) k)),.c (vi (Dq (A4 s) 2)),.c (vi (Dq (A4 s) 3)),.v (.slice none 0 0)]⟩]) (fun k=>[]) (fun k=>k≤8) (fun k=>8-k) fun k hk=>?_;refine C2 (fun hk=>?_) fun hk=>?_
 ·have hk:k<8:=by have:=Bp hk;omega
  have hr:=A26 ((A4 s).getD 1 default) k
  repeat' (first|(refine Gy ?_;conv=>whnf)|(refine Gz ?_;conv=>whnf)|(refine ⟨fun h=>?_,fun h=>?_⟩<;>conv=>whnf)|(refine Ao (A0x ((k:Int)+1)) rfl (I7 ?_);conv=>whnf)|(refine D6 ?_;conv=>whnf)|(refine Ae 8 rfl [0,2,3,4,1,5] Ak (Ag ?_))|(refine Ae 13 rfl [0,1,2,3,4,5,6,7,8] Ak (Ag ?_))|fail)
  ·have e:Mi ((A4 s).getD 1 default) (k+1)=(k:Int)+1:=by rw [Mi,Ah (show C5 ((k:Int)+1)=(A4 s).getD 1 default from Lq h)]
   refine A58 [] (k+1) A7 A7 ⟨rfl,trivial⟩ trivial (by rw [e];repeat' (first|exact trivial|exact rfl|refine ⟨?_,?_⟩)) Ak ab8 Ak
  have e:Mi ((A4 s).getD 1 default) (k+1)=Mi ((A4 s).getD 1 default) k:=by rw [Mi,Ab (fun d=>by have d:C5 ((k:Int)+1)=(A4 s).getD (Int.toNat 1) default:=d;rw [d,Fm] at h;exact absurd h Bk)]
  refine A58 [] (k+1) A7 A7 ⟨rfl,trivial⟩ trivial (by rw [e];repeat' (first|exact trivial|exact rfl|refine ⟨?_,?_⟩)) Ak ab8 Ak
 have hk:k=8:=by have:=Cy hk;omega
 rw [hk];refine Xh 1 3 1 (fun i=>(fun n=>[vi n]) (([]:List Int).getD i default)) rfl rfl ?_;have hnl:(Gg (A4 s) 4).length=(A4 s).length-4:=Hs _ _;have hr:=A26 ((A4 s).getD 1 default) 8;refine Fs [] (fun k:Nat=>[(8,.c (vi ((k:Int)+4)))]) (fun k=>[⟨0,[.c (vi 0),.c (vi 0),.c (vi 0),.v (.slice none 0 0)]⟩,⟨1,[.c (vi (Mi ((A4 s).getD 1 default) 8)),.c (vi (Dq (A4 s) 2)),.c (vi (Dq (A4 s) 3)),.own 2]⟩]) (fun k=>[⟨2,De ((Gg (A4 s) 4).take k)⟩]) (fun k=>k≤(Gg (A4 s) 4).length) (fun k=>(Gg (A4 s) 4).length-k) fun k hk=>?_;refine C2 (fun h'=>?_) fun h'=>?_
 ·have h':k<(Gg (A4 s) 4).length:=by have:=Bp h';omega
  have hr:=Cm (A4 s) (k+4)
  have hg:Dq (A4 s) (k+4)=(Gg (A4 s) 4).getD k default:=by
   rw [Dq,Ah A7,Gg];simp only [B3d,Ec,T7];rw [Z8 4 k,Dh (show k+4<(A4 s).length by omega)]
   rfl
  repeat' (first|(refine Gy ?_;conv=>whnf)|(refine Gz ?_;conv=>whnf)|(refine ⟨fun h=>?_,fun h=>?_⟩<;>conv=>whnf)|(refine Ao (Rq (A4 s) (k+4) hp hl A7) rfl (I7 ?_);conv=>whnf)|(refine D6 ?_;conv=>whnf)|(refine Ae 8 rfl [0,2,3,4,1,5] Ak (Ag ?_))|(refine Ae 13 rfl [0,1,2,3,4,5,6,7,8] Ak (Ag ?_))|fail)
  rw [hg];refine Bg A0 rfl (De ((Gg (A4 s) 4).take k++[(Gg (A4 s) 4).getD k default])) (An rfl) Ij P4 (F1 ?_);refine Co [(2,4)] (k+1) A7 A7 ⟨rfl,trivial⟩ ⟨A6 De (Ee _ _ h').symm,trivial⟩
 have h':k=(Gg (A4 s) 4).length:=by have:=Cy h';omega
 have ox:(Om s).ok:=B0v s _ hr;have hx:(Om s).w≤1048576:=by have:=Py s 4;show (Gg (A4 s) 4).length≤1048576;omega
 rw [h',H5]
 repeat' (first|(refine Gy ?_;conv=>whnf)|(refine Gz ?_;conv=>whnf)|(refine ⟨fun h=>?_,fun h=>?_⟩<;>conv=>whnf)|(refine Ao (A0z (Om s) ox hx) rfl (I7 ?_);conv=>whnf)|(refine Ao (A7k (A4 s) hp hl) rfl (I7 ?_);conv=>whnf)|(refine D6 ?_;conv=>whnf)|(refine Ae 8 rfl [0,2,3,4,1,5] Ak (Ag ?_))|(refine Ae 13 rfl [0,1,2,3,4,5,6,7,8] Ak (Ag ?_))|fail)
 ·obtain ⟨hv,hb⟩:=Jk (s:=s) (fun c=>B45 c.2.2.1 (Lq h))
  rw [hv,hb];exact Af A0 rfl rfl ⟨⟨rfl,rfl,rfl,.inr ⟨rfl,rfl,_,_,rfl⟩,trivial⟩,rfl,trivial⟩
 ·obtain ⟨hv,hb⟩:=Jk (s:=s) (fun c=>by rw [c.2.2.2,Fm] at h;exact absurd h Bk)
  rw [hv,hb];exact Af A0 rfl rfl ⟨⟨rfl,rfl,rfl,.inr ⟨rfl,rfl,_,_,rfl⟩,trivial⟩,rfl,trivial⟩
 rename_i g3
 have hN:I6 (Om s):=by
  by_cases c:I6 (Om s)
  ·exact c
  exfalso
  rw [B2g c,Fm] at g3;exact absurd g3 Bk
 have hj:Be (Om s)=Cf (A4 s):=Lq (by simpa using h);obtain ⟨hv,hb⟩:=A3e (s:=s) ⟨hP,h4,hN,hj⟩;rw [hv,hb];exact Af A0 rfl rfl ⟨⟨rfl,rfl,rfl,rfl,trivial⟩,rfl,trivial⟩
def Nk:List UInt8→List UInt8→List (List UInt8)
 |cur,[]=>[cur]
 |cur,b::r=>if b=10 then cur::Nk [] r else Nk (cur++[b]) r
def Bh (s:ByteArray):List ByteArray:=(Nk [] s.data.toList).map fun l=>⟨l.toArray⟩
theorem A9z:∀(r cur:List UInt8),(∀b∈r,b≠10)→Nk cur r=[cur++r]
 | [],cur,_=>by rw [Nk,Gw]
 |b::r,cur,h=>by
  rw [Nk,Ab (h b (Hq ..)),A9z r _ (fun x hx=>h x (Cq _ hx)),Ci];rfl
theorem B9d:∀(r cur:List UInt8) (i:Nat),r[i]? =some 10→(∀k,k<i→r[k]? ≠some 10)→Nk cur r=(cur++r.take i)::Nk [] (r.drop (i+1))
 | [],cur,i,h,_=>by simp at h
 |b::r,cur,0,h,_=>by
  have e:b=10:=by simpa using h
  rw [Nk,Ah e]
  simp
 |b::r,cur,i+1,h,hn=>by
  have e:b≠10:=fun e=>hn 0 (Nat.succ_pos i) (by rw [e];rfl);rw [Nk,Ab e,B9d r (cur++[b]) i (by simpa using h) (fun k hk=>by simpa using hn (k+1) A7),Ci];rfl
theorem C28:∀(n:Nat) (l:List UInt8),l.length≤n→Lib.splitK [10] 0 (Lib.count l [10]) l=Nk [] l:=by
 intro n
 induction n with
 |zero=>
  intro l hl;obtain rfl:l=[]:=List.length_eq_zero_iff.1 A7;rfl
 |succ n ih=>
  intro l hl;have hge:=Lib.index_ge l [10]
  by_cases hm:Lib.index l [10]= -1
  ·have h1:=Lib.index_one l 10
   rw [hm] at h1;have h2:=Lib.indexByte_none h1.symm
   rw [Lib.count_miss hm,A9z l [] (fun b hb e=>by
    subst e;obtain ⟨k,hk,he⟩:=A8c.1 hb
    exact h2 k (by rw [Dh hk,he]))]
   rfl
  obtain ⟨i,hi⟩:∃i:Nat,Lib.index l [10]=i:=⟨(Lib.index l [10]).toNat,by omega⟩;have h1:=Lib.index_one l 10;rw [hi] at h1;obtain ⟨h2,h3⟩:=Lib.indexByte_some h1.symm;have hlen:i<l.length:=(Cu.1 h2).1;rw [Lib.count_hit Ef hi,B9d l [] i h2 h3,Z8 1];unfold Lib.splitK;rw [Ab (by rw [Rv];exact hm),hi,←ih (l.drop (i+1)) (by rw [Gm];omega)]
  simp
theorem A7q (s:ByteArray):Lib.splitB ⟨#[10]⟩ 0 (Lib.countB s ⟨#[10]⟩) s=Bh s:=by
 have h:=Lib.splitB_data ⟨#[10]⟩ 0 (Lib.countB s ⟨#[10]⟩) s;rw [show (⟨#[10]⟩:ByteArray).data.toList=[10] from rfl,show Lib.countB s ⟨#[10]⟩=Lib.count s.data.toList [10] from rfl,C28 _ _ (Bu _)] at h
 rw [Bh,←h,We];exact (List.map_id' _).symm.trans (A8g fun x _=>by apply Qx;simp)
theorem A1c:∀(r cur:List UInt8),∀x∈Nk cur r,x.length≤cur.length+r.length
 | [],cur,x,hx=>by
  rw [Nk,Hh] at hx;rw [hx];exact Uk _ _
 |b::r,cur,x,hx=>by
  rw [Nk] at hx
  split at hx
  ·rcases C7.1 hx with rfl|hx
   ·exact Uk _ _
   have:=A1c r [] x hx
   simp only [Hi,Ep] at *;omega
  have:=A1c r (cur++[b]) x hx
  simp only [Dn,Ep,Hi] at *;omega
theorem A42:∀(r cur:List UInt8),(Nk cur r).length≤r.length+1
 | [],cur=>by rw [Nk];exact Bu _
 |b::r,cur=>by
  rw [Nk]
  split
  ·have:=A42 r []
   simp only [Ep];omega
  have:=A42 r (cur++[b])
  simp only [Ep];omega
theorem C1n (s:ByteArray):∀x∈Bh s,x.size≤s.size:=fun x hx=>by
 obtain ⟨l,hl,rfl⟩:=Ea.1 hx;have h1:=A1c s.data.toList [] l hl;have h2:s.data.toList.length=s.size:=Nr;rw [Xl,Gh];simp only [Hi] at h1;omega
theorem A41 (s:ByteArray):(Bh s).length≤s.size+1:=by
 have h1:=A42 s.data.toList [];have h2:s.data.toList.length=s.size:=Nr;rw [Bh,Oy];omega
theorem Rg:∀(l cur:List UInt8),∀x∈Lib.fieldsGo cur l,x≠[]
 | [],cur,x,hx=>by
  rw [N0] at hx
  split at hx
  ·cases hx
  rename_i h
  rw [Hh.1 hx];exact fun e=>h (by rw [e];rfl)
 |b::l,cur,x,hx=>by
  rw [K5] at hx
  split at hx
  ·split at hx
   ·exact Rg l [] x hx
   rename_i h
   rcases C7.1 hx with rfl|hx
   ·exact fun e=>h (by rw [e];rfl)
   exact Rg l [] x hx
  exact Rg l (cur++[b]) x hx
theorem B0p (s:ByteArray):∀x∈A4 s,1≤x.size:=fun x hx=>by
 unfold A4 at hx
 split at hx
 ·obtain ⟨l,hl,rfl⟩:=Ea.1 hx
  have:=List.length_pos_iff.2 (Rg _ _ l hl)
  rw [Xl,Gh];omega
 cases hx
def H2 (s:ByteArray):ByteArray:=(A4 s).getD 0 default
variable {s : ByteArray}
theorem Qo (h:Dw s=true):Gk s=true∧H2 s=(⟨#[110,111,100,101]⟩:ByteArray):=by
 obtain ⟨h1,h2,h3,h4⟩:=Bp h;refine ⟨D7 h1,?_⟩;rw [Lu h3] at h4;have r1:=Cm (A4 s) 2;have r2:=Cm (A4 s) 3;have hp:A4 s≠[]:=fun e=>by rw [e] at h2;exact absurd h2 Bk
 have e:=Sr (by simp [Qj]) hp (fun x hx=>by
  rcases C7.1 hx with rfl|hx
  ·show (32:UInt8)∉_;decide
  rcases C7.1 hx with rfl|hx
  ·exact A25 _
  rcases C7.1 hx with rfl|hx
  ·exact Kh r1.1
  rcases C7.1 hx with rfl|hx
  ·exact Kh r2.1
  obtain ⟨n,hn,rfl⟩:=Ea.1 hx
  exact Kh (Rl hn).1) (Sv s) h4
 rw [H2,←e];rfl
theorem Px (h:Gp s=true):Gk s=true∧H2 s=(⟨#[112,117,116]⟩:ByteArray):=by
 obtain ⟨h1,h2,h3,h4⟩:=Bp h;refine ⟨D7 h1,?_⟩;rw [Kr ⟨h3,rfl,rfl⟩] at h4;have r1:=Cm (A4 s) 1;have r2:=Cm (A4 s) 2;have r3:=Cm (A4 s) 3;have hp:A4 s≠[]:=fun e=>by rw [e] at h2;cases h2
 have e:=Sr Ef hp (fun x hx=>by
  simp only [C7,K0,Ld] at hx
  rcases hx with rfl|rfl|rfl|rfl
  ·show (32:UInt8)∉_;decide
  ·exact Kh r1.1
  ·exact Kh r2.1
  exact Kh r3.1) (Sv s) h4
 rw [H2,←e];rfl
theorem Kv (h:Eo s=true):Gk s=true∧∃k:Nat,k<7∧H2 s=Gt ((k:Int)+1):=by
 obtain ⟨k,e⟩:=A73.1 h;obtain ⟨h1,h2,_⟩:=List.find?_range_eq_some.1 e;have hk:=Fk.1 h2;have hP:=Bp h1;refine ⟨D7 hP.1,k,hk,?_⟩;rw [H2,←Pv hk hP,Jt]
 split<;>rfl
theorem S9:∀{k:Nat},k<7→Gt ((k:Int)+1)≠(⟨#[102,97,105,114]⟩:ByteArray)∧Gt ((k:Int)+1)≠(⟨#[110,111,100,101]⟩:ByteArray)∧Gt ((k:Int)+1)≠(⟨#[112,117,116]⟩:ByteArray)
 | 0,_=>by refine ⟨?_,?_,?_⟩<;>decide
 | 1,_=>by refine ⟨?_,?_,?_⟩<;>decide
 | 2,_=>by refine ⟨?_,?_,?_⟩<;>decide
 | 3,_=>by refine ⟨?_,?_,?_⟩<;>decide
 | 4,_=>by refine ⟨?_,?_,?_⟩<;>decide
 | 5,_=>by refine ⟨?_,?_,?_⟩<;>decide
 | 6,_=>by refine ⟨?_,?_,?_⟩<;>decide
 |k+7,h=>by omega
def Q3 (l:ByteArray):Prop:=Gk l=true∧(A4 l).length=2∧H2 l=(⟨#[102,97,105,114]⟩:ByteArray)∧Ty ((A4 l).getD 1 default)=true∧Pw ((A4 l).getD 1 default)≤3000
instance (l:ByteArray):Decidable (Q3 l):=by unfold Q3;infer_instance
def Ji (s:B5) (l:ByteArray):Bool:=
 if Dw l=true then decide (s.az.ay.length<8) else if Gp l=true then decide (s.ap.length<20) else if Eo l=true then decide (s.an.length<200) else decide (Q3 l)
def Ns (s:B5) (l:ByteArray):B5:=
 if Dw l=true then ⟨⟨s.az.ay++[G3 l],s.az.aq,s.az.cap⟩,s.ap,s.an,s.aa⟩
 else if Gp l=true then ⟨s.az,s.ap++[Kj l],s.an,s.aa⟩
 else if Eo l=true then ⟨s.az,s.ap,s.an++[G4 l],s.aa⟩
 else ⟨s.az,s.ap,s.an,Pw ((A4 l).getD 1 default)⟩
variable {l : ByteArray}
theorem Vr (h:Dw l=true):Gp l=false∧Eo l=false∧¬ Q3 l:=by
 have h1:=(Qo h).2;refine ⟨Wh.2 fun c=>?_,Wh.2 fun c=>?_,fun c=>?_⟩
 ·have:=(Px c).2
  rw [h1] at this;exact absurd this Bk
 ·obtain ⟨_,k,hk,this⟩:=Kv c
  exact (S9 hk).2.1 (this.symm.trans h1)
 have:=c.2.2.1
 rw [h1] at this;exact absurd this Bk
theorem B17 (h:Gp l=true):Eo l=false∧¬ Q3 l:=by
 have h1:=(Px h).2;refine ⟨Wh.2 fun c=>?_,fun c=>?_⟩
 ·obtain ⟨_,k,hk,this⟩:=Kv c
  exact (S9 hk).2.2 (this.symm.trans h1)
 have:=c.2.2.1
 rw [h1] at this;exact absurd this Bk
theorem B5e (h:Eo l=true):¬ Q3 l:=fun c=>by
 obtain ⟨_,k,hk,this⟩:=Kv h;exact (S9 hk).1 (this.symm.trans c.2.2.1)
theorem C01 {s:B5}(h:Ji s l=true):Gk l=true:=by
 unfold Ji at h
 split at h
 ·rename_i c;exact (Qo c).1
 split at h
 ·rename_i c;exact (Px c).1
 split at h
 ·rename_i c;exact (Kv c).1
 exact (Bp h).1
def Gb (l:ByteArray):Prop:=Gk l=true∧((A4 l).length=0∨C3 (H2 l) 0=35)
instance (l:ByteArray):Decidable (Gb l):=by unfold Gb;infer_instance
def A2k (l:ByteArray):Prop:=Gk l=true∧(A4 l).length=3∧H2 l=(⟨#[103,114,97,112,104]⟩:ByteArray)∧Ty ((A4 l).getD 1 default)=true∧Ty ((A4 l).getD 2 default)=true
instance (l:ByteArray):Decidable (A2k l):=by unfold A2k;infer_instance
abbrev St:=Bool×B5
def Fp (t:St) (l:ByteArray):Bool:=if Gb l then true else if t.1=true then Ji t.2 l else decide (A2k l)
def J9 (t:St) (l:ByteArray):St:=
 if Gb l then t else if t.1=true then (true,Ns t.2 l)
 else (true,⟨⟨t.2.az.ay,Pw ((A4 l).getD 1 default),Pw ((A4 l).getD 2 default)⟩,t.2.ap,t.2.an,t.2.aa⟩)
def st0:St:=(false,⟨⟨[],0,0⟩,[],[],0⟩)
def Nl (L:List ByteArray) (k:Nat):St:=(L.take k).foldl J9 st0
variable {L : List ByteArray} {k : Nat}
theorem J8 (h:k<L.length):Nl L (k+1)=J9 (Nl L k) (L.getD k default):=by
 rw [Nl,Ee L k h,A8d];rfl
def Rz (L:List ByteArray) (k:Nat):Prop:=∀j,j<k→Fp (Nl L j) (L.getD j default)=true
theorem K6 (h:Rz L k)(hk:Fp (Nl L k) (L.getD k default)=true):Rz L (k+1):=fun j hj=>by
 by_cases e:j=k
 ·rw [e];exact hk
 exact h j A7
def C37 (L:List ByteArray):Option Nat:=(List.range L.length).find? fun k=>!Fp (Nl L k) (L.getD k default)
def Ct (x:ByteArray):B5×Int:=
 if 12000<x.size then (default,-1) else
 match C37 (Bh x) with
 |some k=>(default,(k:Int)+1)
 |none=>let t:=Nl (Bh x) (Bh x).length
  if t.1=true∧Eh t.2.az=true then (t.2,0) else (default,((Bh x).length:Int)+1)
variable {x : ByteArray}
theorem Vx (h:12000<x.size):Ct x=(default,-1):=Ah h
theorem Dr (h:¬ 12000<x.size)(hk:k<(Bh x).length)(hg:Rz (Bh x) k)(hb:Fp (Nl (Bh x) k) ((Bh x).getD k default)=false):Ct x=(default,(k:Int)+1):=by
 have e:C37 (Bh x)=some k:=List.find?_range_eq_some.2 ⟨by rw [hb];rfl,Fk.2 hk,fun j hj=>by rw [hg j hj];rfl⟩
 rw [Ct,Ab h,e]
theorem A4t (hk:k=L.length)(hg:Rz L k):C37 L=none:=
 List.find?_range_eq_none.2 fun j hj=>by rw [hg j A7];rfl
theorem Oc (h:¬ 12000<x.size)(hk:k=(Bh x).length)(hg:Rz (Bh x) k)(hb:¬ ((Nl (Bh x) k).1=true∧Eh (Nl (Bh x) k).2.az=true)):Ct x=(default,((Bh x).length:Int)+1):=by
 rw [Ct,Ab h,A4t hk hg];subst hk;exact Ab hb
theorem Qp (h:¬ 12000<x.size)(hk:k=(Bh x).length)(hg:Rz (Bh x) k)(hb:(Nl (Bh x) k).1=true∧Eh (Nl (Bh x) k).2.az=true):Ct x=((Nl (Bh x) k).2,0):=by
 rw [Ct,Ab h,A4t hk hg];subst hk;exact Ah hb
def Zf (s:B5):Prop:=s.az.ay.length≤8∧(∀x∈s.az.ay,x.w≤12)∧s.ap.length≤20∧s.an.length≤200
theorem A86 (s:ByteArray):(G3 s).w≤12:=by
 unfold G3
 split
 ·exact Py s 4
 exact Ff _
theorem D0t {s:B5}(h:Zf s)(hb:Ji s l=true):Zf (Ns s l):=by
 obtain ⟨h1,h2,h3,h4⟩:=h;unfold Ji at hb;unfold Ns
 split at hb
 ·rename_i c
  rw [Ah c]
  have:=Bp hb
  refine ⟨?_,fun x hx=>?_,h3,h4⟩
  ·show (s.az.ay++[G3 l]).length≤8
   rw [Dn,Jb];omega
  rcases Hg.1 hx with hx|hx
  ·exact h2 x hx
  rw [Hh.1 hx];exact A86 l
 rename_i c
 rw [Ab c]
 split at hb
 ·rename_i c
  rw [Ah c]
  have:=Bp hb
  refine ⟨h1,h2,?_,h4⟩
  show (s.ap++[Kj l]).length≤20
  rw [Dn,Jb];omega
 rename_i c
 rw [Ab c]
 split at hb
 ·rename_i c
  rw [Ah c]
  have:=Bp hb
  refine ⟨h1,h2,h3,?_⟩
  show (s.an++[G4 l]).length≤200
  rw [Dn,Jb];omega
 rename_i c
 rw [Ab c];exact ⟨h1,h2,h3,h4⟩
theorem A00 {t:St}(h:Zf t.2)(hb:Fp t l=true):Zf (J9 t l).2:=by
 unfold Fp at hb;unfold J9
 split at hb
 ·rename_i c;rw [Ah c];exact h
 rename_i c
 rw [Ab c]
 split at hb
 ·rename_i c
  rw [Ah c];exact D0t h hb
 rename_i c
 rw [Ab c];exact h
theorem B03:∀(k:Nat),k≤L.length→Rz L k→Zf (Nl L k).2
 | 0,_,_=>by
  show Zf st0.2
  exact ⟨Ff _,fun x hx=>(K0 hx).elim,Ff _,Ff _⟩
 |k+1,hk,hg=>by
  rw [J8 A7];exact A00 (B03 k A7 fun j hj=>hg j A7) (hg k (Ru k))
theorem C98 {xs:List Ba}(h:∀x∈xs,x.w≤12):(xs.map Ba.w).sum≤12 * xs.length:=by
 induction xs with
 |nil=>exact Bu _
 |cons x r ih=>
  have h1:=h x (Hq ..);have h2:=ih fun y hy=>h y (Cq _ hy);rw [I8,List.sum_cons,Ep];omega
theorem Zf.w {s:B5}(h:Zf s):s.az.w≤104∧s.w≤324:=by
 obtain ⟨h1,h2,h3,h4⟩:=h
 have:=C98 h2
 have hg:s.az.w≤104:=by
  show s.az.ay.length+(s.az.ay.map Ba.w).sum≤104
  omega
 refine ⟨hg,?_⟩
 show s.az.w+s.ap.length+s.an.length≤324
 omega
end Go.Proofs.YtmhcebdkjgkmlaaGreatDoor
