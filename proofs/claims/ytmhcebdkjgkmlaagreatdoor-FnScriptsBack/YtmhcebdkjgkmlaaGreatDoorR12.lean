/- Part 12 of the proof that each of the laws FnScriptsBack returns true for every input. No conditions. -/
import Derived.Test.YtmhcebdkjgkmlaaGreatDoorR7

set_option linter.unusedSimpArgs false
set_option linter.unusedVariables false
set_option maxRecDepth 100000
namespace Go.Proofs.YtmhcebdkjgkmlaaGreatDoor
open Go.Sx
theorem Ou (n lo hi:Int):Df 98 [.one (vi n),.one (vi lo),.one (vi hi)] [.one (vi (E5 n lo hi))]:=by
 refine Dy Tryz.func98 fun W=>?_
 repeat' (first|(refine Gy ?_;conv=>whnf)|(refine Gz ?_;conv=>whnf)|(refine ⟨fun h=>?_,fun h=>?_⟩<;>conv=>whnf)|(refine Af A0 rfl rfl ⟨?_,trivial⟩;conv=>whnf)|(refine Ew ?_;conv=>whnf)|fail)
 all_goals (refine A6 vi ?_;simp only [Nq,T1] at *;unfold E5;repeat' split)<;>first|contradiction|omega
theorem Vh (n lo hi:Int):Df 103 [.one (vi n),.one (vi lo),.one (vi hi)] [.one (vi (E5 n lo hi))]:=by
 refine Dy Tryz.func103 fun W=>?_
 repeat' (first|(refine Gy ?_;conv=>whnf)|(refine Gz ?_;conv=>whnf)|(refine ⟨fun h=>?_,fun h=>?_⟩<;>conv=>whnf)|(refine Af A0 rfl rfl ⟨?_,trivial⟩;conv=>whnf)|(refine Ew ?_;conv=>whnf)|fail)
 all_goals (refine A6 vi ?_;simp only [Nq,T1] at *;unfold E5;repeat' split)<;>first|contradiction|omega
theorem B2x (x:A3):Df 97 [.agg x.c] [.one (Ch (R2 (E5 x.az.aq 0 4).toNat))]:=by
 have hb:=Hn x.az.aq 0 4 Bk;obtain ⟨n,hn⟩:∃n:Nat,E5 x.az.aq 0 4=n:=⟨(E5 x.az.aq 0 4).toNat,by omega⟩;have h4:n≤4:=by omega
 refine Dy Tryz.func97 fun W=>?_;refine Fh (Ou x.az.aq 0 4) ?_;rw [hn];refine Fi 1 (Ch []) rfl Dx ?_;refine Fs [9] (fun k:Nat=>[(5,.c (vi k))]) (fun k=>[]) (fun k=>[⟨1,Ch (pA k)⟩]) (fun k=>k≤n) (fun k=>n-k) fun k hk=>?_;refine E3 (fun h=>?_) fun h=>?_
 ·have h:k<n:=by omega
  have hl:=A6o k;refine Bg A0 rfl (Ch (pA k++pW k)) (C6z rfl rfl rfl rfl) Ij A7 (F1 ?_);refine Co [(1,3)] (k+1) A7 A7 ⟨rfl,trivial⟩ ⟨A6 Ch (B2i k).symm,trivial⟩
 have e:n=k:=by omega
 subst e;have hl:=A6o n;refine Fs [] (fun k:Nat=>[(6,.c (vi k))]) (fun k=>[]) (fun k=>[⟨1,Ch (pA n++pC n k)⟩]) (fun k=>k≤n) (fun k=>n-k) fun k hk=>?_;refine E3 (fun h=>?_) fun h=>?_
 ·have h:k<n:=by omega
  have hc:=A6p n k h4
  refine Vq A0 false [] (fun j:Nat=>[(7,.c (vi j))]) (fun _=>[]) (fun j=>[⟨1,Ch (pA n++(pC n k++pB k j))⟩])
   (fun j=>j≤n) (fun j=>n-j) 0 (Ff _) ⟨rfl,trivial⟩ trivial ⟨(A6 (fun l=>Mu _ _ (pA n++l)) (Gw _)).symm,trivial⟩ trivial Ak (fun j hj=>?_)
  conv=>whnf
  refine E3 (fun h'=>?_) fun h'=>?_
  ·have h':j<n:=by omega
   have hd:=B73 k j;have hs:=B2j k j;refine Xi (fun hq=>?_) fun hq=>?_
   ·refine B6 ?_
    refine Bg A0 rfl (Ch (pA n++(pC n k++pB k j)++[⟨4,k,j⟩,⟨5,k,j⟩])) (C0d rfl rfl) Ij (by simp only [Dn];omega) (F1 ?_);refine Co [(1,3)] (j+1) A7 A7 ⟨rfl,trivial⟩ ⟨?_,trivial⟩;exact A6 Ch (by rw [hs,pK,Ab hq];simp only [Ci])
   refine B6 ?_;refine Co [] (j+1) A7 A7 ⟨rfl,trivial⟩ ⟨?_,trivial⟩;exact A6 Ch (by rw [hs,pK,Ah hq,Gw])
  have e:n=j:=by omega
  refine B6 ?_;refine Co [] (k+1) A7 A7 ⟨rfl,trivial⟩ ⟨A6 Ch (by rw [←e,B2k]),trivial⟩
 have e:k=n:=by omega
 subst e;have hc:=A6p k k h4
 refine Vq A0 false [] (fun j:Nat=>[(8,.c (vi j))]) (fun _=>[]) (fun j=>[⟨1,Ch (pA k++pC k k++pE j)⟩])
  (fun j=>j≤4) (fun j=>4-j) 0 (Ff _) ⟨rfl,trivial⟩ trivial ⟨(A6 (fun l=>Mu _ _ l) (Gw _)).symm,trivial⟩ trivial Ak (fun j hj=>?_)
 conv=>whnf
 refine E3 (fun h'=>?_) fun h'=>?_
 ·have h':j<4:=by omega
  have hd:=B74 j;refine B6 ?_;refine Bg A0 rfl (Ch (pA k++pC k k++pE j++[⟨6,j,0⟩])) (An rfl) Ij (by simp only [Dn];omega) (F1 ?_);refine Co [(1,3)] (j+1) A7 A7 ⟨rfl,trivial⟩ ⟨?_,trivial⟩;exact A6 Ch (by rw [B91];simp only [Ci])
 refine Af A0 rfl rfl ⟨?_,trivial⟩;have e:j=4:=by omega
 subst e;exact A6 Ch (by rw [R2,Cp])
theorem A0b (x:A3):Df 162 [.agg x.c] [.one (Ch (R2 (E5 x.az.aq 0 4).toNat))]:=by
 have hb:=Hn x.az.aq 0 4 Bk;obtain ⟨n,hn⟩:∃n:Nat,E5 x.az.aq 0 4=n:=⟨(E5 x.az.aq 0 4).toNat,by omega⟩;have h4:n≤4:=by omega
 refine Dy Tryz.func162 fun W=>?_;refine Fh (Vh x.az.aq 0 4) ?_;rw [hn];refine A85 4 3 (fun i=>Cs.c (([]:List Cs).getD i default)) rfl ?_;refine Fs [9] (fun k:Nat=>[(5,.c (vi k))]) (fun k=>[]) (fun k=>[⟨1,Ch (pA k)⟩]) (fun k=>k≤n) (fun k=>n-k) fun k hk=>?_;refine E3 (fun h=>?_) fun h=>?_
 ·have h:k<n:=by omega
  have hl:=A6o k;refine Fi 2 (De [1,3,2,7]) rfl (C1d rfl rfl rfl rfl) ?_
  refine Vq A0 false [7] (fun j:Nat=>[(22,.c (vi j))]) (fun _=>[]) (fun j=>[⟨2,De [1,3,2,7]⟩,⟨1,Ch (pA k++(pW k).take j)⟩])
   (fun j=>j≤4) (fun j=>4-j) 0 (Ff _) ⟨rfl,trivial⟩ trivial ⟨rfl,(A6 (fun l=>Mu _ _ l) (Gw _)).symm,trivial⟩ trivial Ak (fun j hj=>?_)
  conv=>whnf
  refine E3 (fun h'=>?_) fun h'=>?_
  ·have h':j<4:=by omega
   have hd:((pW k).take j).length≤j:=Ng _ _;refine ⟨by exact ⟨by omega,by show (j:Int)<4;omega⟩,?_⟩
   conv=>whnf
   refine B6 ?_;refine Bg A0 rfl (Ch (pA k++(pW k).take j++[⟨([1,3,2,7]:List Int).getD j default,k,0⟩])) (An rfl) Ij (by simp only [Dn];omega) (F1 ?_);refine Co [(1,4)] (j+1) A7 A7 ⟨rfl,trivial⟩ ⟨rfl,?_,trivial⟩;exact A6 Ch (by rw [C9k k j h',Ci])
  have e:j=4:=by omega
  subst e;refine B6 ?_;refine Co [] (k+1) A7 A7 ⟨rfl,trivial⟩ ⟨A6 Ch (B2i k).symm,trivial⟩
 have e:n=k:=by omega
 subst e;have hl:=A6o n;refine Fs [] (fun k:Nat=>[(8,.c (vi k))]) (fun k=>[]) (fun k=>[⟨1,Ch (pA n++pC n k)⟩]) (fun k=>k≤n) (fun k=>n-k) fun k hk=>?_;refine E3 (fun h=>?_) fun h=>?_
 ·have h:k<n:=by omega
  have hc:=A6p n k h4
  refine Vq A0 false [] (fun j:Nat=>[(9,.c (vi j))]) (fun _=>[]) (fun j=>[⟨1,Ch (pA n++(pC n k++pB k j))⟩])
   (fun j=>j≤n) (fun j=>n-j) 0 (Ff _) ⟨rfl,trivial⟩ trivial ⟨(A6 (fun l=>Mu _ _ (pA n++l)) (Gw _)).symm,trivial⟩ trivial Ak (fun j hj=>?_)
  conv=>whnf
  refine E3 (fun h'=>?_) fun h'=>?_
  ·have h':j<n:=by omega
   have hd:=B73 k j;have hs:=B2j k j;refine Xi (fun hq=>?_) fun hq=>?_
   ·refine B6 ?_
    refine Bg A0 rfl (Ch (pA n++(pC n k++pB k j)++[⟨4,k,j⟩,⟨5,k,j⟩])) (C0d rfl rfl) Ij (by simp only [Dn];omega) (F1 ?_);refine Co [(1,3)] (j+1) A7 A7 ⟨rfl,trivial⟩ ⟨?_,trivial⟩;exact A6 Ch (by rw [hs,pK,Ab hq];simp only [Ci])
   refine B6 ?_;refine Co [] (j+1) A7 A7 ⟨rfl,trivial⟩ ⟨?_,trivial⟩;exact A6 Ch (by rw [hs,pK,Ah hq,Gw])
  have e:n=j:=by omega
  refine B6 ?_;refine Co [] (k+1) A7 A7 ⟨rfl,trivial⟩ ⟨A6 Ch (by rw [←e,B2k]),trivial⟩
 have e:k=n:=by omega
 subst e;have hc:=A6p k k h4
 refine Vq A0 false [] (fun j:Nat=>[(10,.c (vi j))]) (fun _=>[]) (fun j=>[⟨1,Ch (pA k++pC k k++pE j)⟩])
  (fun j=>j≤4) (fun j=>4-j) 0 (Ff _) ⟨rfl,trivial⟩ trivial ⟨(A6 (fun l=>Mu _ _ l) (Gw _)).symm,trivial⟩ trivial Ak (fun j hj=>?_)
 conv=>whnf
 refine E3 (fun h'=>?_) fun h'=>?_
 ·have h':j<4:=by omega
  have hd:=B74 j;refine B6 ?_;refine Bg A0 rfl (Ch (pA k++pC k k++pE j++[⟨6,j,0⟩])) (An rfl) Ij (by simp only [Dn];omega) (F1 ?_);refine Co [(1,3)] (j+1) A7 A7 ⟨rfl,trivial⟩ ⟨?_,trivial⟩;exact A6 Ch (by rw [B91];simp only [Ci])
 refine Af A0 rfl rfl ⟨?_,trivial⟩;have e:j=4:=by omega
 subst e;exact A6 Ch (by rw [R2,Cp])
structure Ig where
 a:Option Addr
 n:Nat
 c:Nat
 b:Nat→Nat
 hb:∀i,b i≤255
 hn:n≤16777216
abbrev Ig.v (d:Ig):Value:= .slice d.a d.n d.c
abbrev Ig.cell (d:Ig):Ad:= .sl d.n 1 fun i=>[.val (.int .u8 (d.b i))]
abbrev Ig.pins (d:Ig):List (Ad×Value):=[(d.cell,d.v)]
abbrev Ig.cur (d:Ig) (i h:Int):List Ad:=[.val d.v,vi i,vi h]
abbrev HT:World→Prop:=fun _=>True
theorem Zl (d:Ig)(i h:Int)(hi:0≤i∧i≤d.n):MtR HT 153 d.pins (d.cur i h) [] (fun r:Int×Int×Int=>(0≤r.1∧r.1≤d.n)∧0≤r.2.2∧r.2.2≤255) (fun r=>d.cur r.1 r.2.1) (fun r=>[.one (vi r.2.2)]):=by
 have hn:=d.hn;refine C41 A0 true Tryz.func153 rfl Bk fun B b hH hp=>?_;conv=>whnf
 first|(refine Ae 2 rfl [0,1,2,3,4,5,6,7,8,9,10,11,12] Ak (go A0 true ?_);conv=>whnf)|(refine Ae 3 rfl [0,1,2,3,4,5,6,7,8,9] Ak (go A0 true ?_);conv=>whnf)|(refine Ae 4 rfl [0,1,2,3,4,5,6,7,8,9,10,11,12,13,14] Ak (go A0 true ?_);conv=>whnf)
 refine D2o rfl rfl rfl rfl Bk (fun r=>go A0 true ?_);conv=>whnf
 refine D2o rfl rfl rfl rfl Bk (fun r2=>go A0 true ?_);conv=>whnf
 refine D3b rfl rfl rfl rfl (fun r3=>go A0 true ?_);conv=>whnf
 refine D0u rfl rfl rfl rfl Bk Bk (fun x0 h0 h1=>go A0 true ?_);conv=>whnf
 first|(refine Ae 2 rfl [0,1,2,3,4,5,6,7,8,9,10,11,12] Ak (go A0 true ?_);conv=>whnf)|(refine Ae 3 rfl [0,1,2,3,4,5,6,7,8,9] Ak (go A0 true ?_);conv=>whnf)|(refine Ae 4 rfl [0,1,2,3,4,5,6,7,8,9,10,11,12,13,14] Ak (go A0 true ?_);conv=>whnf)
 refine E3 (fun hlt=>?_) fun hlt=>?_
 ·first|(refine Ae 2 rfl [0,1,2,3,4,5,6,7,8,9,10,11,12] Ak (go A0 true ?_);conv=>whnf)|(refine Ae 3 rfl [0,1,2,3,4,5,6,7,8,9] Ak (go A0 true ?_);conv=>whnf)|(refine Ae 4 rfl [0,1,2,3,4,5,6,7,8,9,10,11,12,13,14] Ak (go A0 true ?_);conv=>whnf)
  refine D17 A0 hp 0 rfl rfl rfl rfl rfl rfl rfl rfl rfl (⟨hi.1,hlt⟩) (go A0 true ?_);conv=>whnf
  refine D0u rfl rfl rfl rfl Bk Bk (fun x1 g0 g1=>go A0 true ?_);conv=>whnf
  exact Ke A0 (i+1,_,x1) ⟨⟨by omega,by show i+1≤_;omega⟩,g0,g1⟩ rfl rfl rfl rfl ⟨⟨A0p _ _,by show Ad.val _=_;rw [show IntKind.i64.wrap (i+1)=i+1 by rw [IntKind.wrap_i64];omega],rfl,trivial⟩,rfl,trivial⟩
 exact Ke A0 (i,_,x0) ⟨hi,h0,h1⟩ rfl rfl rfl rfl I1
theorem D0c {i:Int}(h: -9223372036854775808≤i∧i≤9223372036854775807):IntKind.i64.wrap i=i:=by rw [IntKind.wrap_i64];omega
theorem B66 (d:Ig):B1b Tryz.prog 74 d.pins [.one (.val d.v)] (fun _:Int=>True) (fun h=>d.cur 0 h):=by
 have hn:=d.hn;refine C4z A0 true Tryz.func74 rfl Bk fun W hp=>?_;conv=>whnf
 refine Vq A0 true [] (fun j:Nat×Int=>[(3,.c (vi j.2)),(4,.c (vi j.1))]) (fun j=>[]) (fun j=>[]) (fun j=>(j.1:Int)≤d.n) (fun j=>d.n-j.1) ((0,_)) (A8h _) ⟨(by first|rfl|simp [I4,ren2,ren1,ren0]),(by first|rfl|simp [I4,ren2,ren1,ren0]),trivial⟩ trivial trivial ab8 Ak (fun j hj=>?_);conv=>whnf
 refine E3 (fun h=>?_) fun h=>?_
 ·refine A21 C0s ?_
  conv=>whnf
  refine A21 C0s ?_;conv=>whnf
  refine E3 (fun h2=>?_) fun h2=>?_
  ·refine D17 A0 hp 0 rfl rfl rfl rfl rfl rfl rfl rfl rfl (⟨by omega,h⟩) (go A0 true ?_)
   conv=>whnf
   refine D0u rfl rfl rfl rfl Bk Bk (fun r r0 r1=>go A0 true ?_);conv=>whnf
   refine Co [] ((j.1+1,r)) ((by show ((j.1+1:Nat):Int)≤_;omega)) (by show d.n-(j.1+1)<_;omega) ⟨rfl,(by show AV.c (vi _)=AV.c (vi _);rw [D0c A7];rfl),trivial⟩ trivial
  exact D1j A0 j.2 trivial rfl rfl rfl I1
 repeat' (first|(refine Gy ?_;conv=>whnf)|(refine Gz ?_;conv=>whnf)|(refine ⟨fun h=>?_,fun h=>?_⟩<;>conv=>whnf)|(refine Ew ?_;conv=>whnf)|fail)
 exact D1j A0 j.2 trivial rfl rfl rfl I1
theorem D3 (d:Ig)(i h n:Int)(hi:0≤i∧i≤d.n)(hn:n≤1099511627776):MtR HT 94 d.pins (d.cur i h) [.one (vi n)] (fun r:Int×Int×Int=>(0≤r.1∧r.1≤d.n)∧0≤r.2.2∧(n≤0→r.2.2=0)∧(0<n→r.2.2<n)) (fun r=>d.cur r.1 r.2.1) (fun r=>[.one (vi r.2.2)]):=by
 have hdn:=d.hn;refine zeP Tryz.func94 fun B b hH hp=>?_;refine E3 (fun h0=>?_) fun h0=>?_
 ·exact Ke A0 (i,h,0) ⟨hi,T8 _,fun _=>rfl,fun h=>by omega⟩ rfl rfl rfl rfl I1
 refine E3 (fun h1=>?_) fun h1=>?_
 ·refine Ix (Zl d i h hi) hH hp fun r hr=>?_
  refine B6 ?_;exact Ke A0 (r.1,r.2.1,r.2.2.tmod n) ⟨hr.1,A2g _ hr.2.1,fun h=>by omega,fun h=>Wj _ h⟩ rfl rfl rfl rfl I1
 refine Ix (Zl d i h hi) hH hp fun r hr=>?_;refine Ix (Zl d r.1 r.2.1 hr.1) hH hp fun r2 hr2=>?_;refine Ix (Zl d r2.1 r2.2.1 hr2.1) hH hp fun r3 hr3=>?_;refine Ix (Zl d r3.1 r3.2.1 hr3.1) hH hp fun r4 hr4=>?_;refine B6 ?_;exact Ke A0 (r4.1,r4.2.1,(r.2.2 * 16777216+r2.2.2 * 65536+r3.2.2 * 256+r4.2.2).tmod n) ⟨hr4.1,A2g _ A7,fun h=>by omega,fun h=>Wj _ h⟩ rfl rfl rfl rfl I1
theorem My (d:Ig)(i h n:Int)(hi:0≤i∧i≤d.n)(hn:n≤1099511627776):MtR HT 76 d.pins (d.cur i h) [.one (vi n)] (fun r:Int×Int×Bool=>0≤r.1∧r.1≤d.n) (fun r=>d.cur r.1 r.2.1) (fun r=>[.one (vb r.2.2)]):=by
 refine zeP Tryz.func76 fun B b hH hp=>?_;refine Ix (D3 d i h n hi hn) hH hp fun r hr=>?_;exact Ke A0 (r.1,r.2.1,_) hr.1 rfl rfl rfl rfl I1
theorem M8 (d:Ig)(i h:Int)(xs:List Int)(hi:0≤i∧i≤d.n)(hx:0<xs.length∧xs.length≤16777216):MtR HT 138 d.pins (d.cur i h) [.one (De xs)] (fun r:Int×Int×Nat=>(0≤r.1∧r.1≤d.n)∧r.2.2<xs.length) (fun r=>d.cur r.1 r.2.1) (fun r=>[.one (vi (xs.getD r.2.2 0))]):=by
 refine zeP Tryz.func138 fun B b hH hp=>?_;refine Ix (D3 d i h xs.length hi A7) hH hp fun r hr=>?_;refine B6 ?_;exact Ke A0 (r.1,r.2.1,r.2.2.toNat) ⟨hr.1,by have:=hr.2.2.2 A7;show r.2.2.toNat<_;omega⟩ rfl rfl rfl rfl I1
structure JPk where
 k:Nat
 i:Int
 h:Int
 xs:List Cs
def D0r (ins:List A9):Prop:=ins.length≤5∧∀r∈ins,r.op=0∧r.af.turn=0∧(0≤r.af.am∧r.af.am≤3)∧(0≤r.key∧r.key≤11)∧(0≤r.val∧r.val≤39)
theorem C17 {xs:List A9}{e k v:Int}(h:∀r∈xs,r.op=0∧r.af.turn=0∧(0≤r.af.am∧r.af.am≤3)∧(0≤r.key∧r.key≤11)∧(0≤r.val∧r.val≤39))(he:0≤e∧e≤3)(hk:0≤k∧k≤11)(hv:0≤v∧v≤39):
  ∀r∈xs++[(⟨0,⟨e,0⟩,k,v⟩:A9)],r.op=0∧r.af.turn=0∧(0≤r.af.am∧r.af.am≤3)∧(0≤r.key∧r.key≤11)∧(0≤r.val∧r.val≤39):=fun r hr=>by
 rcases Hg.1 hr with hr|hr
 ·exact h r hr
 rw [Hh.1 hr];exact ⟨rfl,rfl,he,hk,hv⟩
structure JIn where
 k:Nat
 i:Int
 h:Int
 e:Int
 xs:List A9
theorem C1k (d:Ig)(i h:Int)(hi:0≤i∧i≤d.n):MtR HT 136 d.pins (d.cur i h) [] (fun r:Int×Int×List A9=>(0≤r.1∧r.1≤d.n)∧D0r r.2.2) (fun r=>d.cur r.1 r.2.1) (fun r=>[.one (Aa r.2.2)]):=by
 refine zeP Tryz.func136 fun B b hH hp=>?_;refine Fi 1 (Aa []) rfl (Cc rfl Td) ?_;refine zlW [6] (fun j:JIn=>[(4,.c (vi j.e)),(5,.c (vi j.k))]) (fun j=>[⟨0,[.c (.val d.v),.c (vi j.i),.c (vi j.h)]⟩]) (fun j=>[⟨1,Aa j.xs⟩]) (fun j=>(0≤j.i∧j.i≤d.n)∧j.k≤5∧j.xs.length=j.k∧(0≤j.e∧j.e≤2)∧∀r∈j.xs,r.op=0∧r.af.turn=0∧(0≤r.af.am∧r.af.am≤3)∧(0≤r.key∧r.key≤11)∧(0≤r.val∧r.val≤39)) (fun j=>5-j.k) (⟨0,i,h,0,[]⟩) (⟨hi,Ff _,rfl,⟨T8 _,(by decide:(0:Int)≤2)⟩,fun r hr=>(K0 hr).elim⟩) fun j hj=>?_;obtain ⟨hi,hk,hx,he,hA⟩:=hj;refine Ix (D3 d j.i j.h 6 hi Bk) hH hp fun r hr=>?_;refine E3 (fun hlt=>?_) fun hlt=>?_
 ·have hlt2:r.2.2<6:=hr.2.2.2 A7
  refine Ix (D3 d r.1 r.2.1 2 hr.1 Bk) hH hp fun r2 hr2=>?_;have hr2b:r2.2.2<2:=hr2.2.2.2 A7;refine B6 ?_;refine Fh (Ou (j.e+r2.2.2) 0 2) ?_;have hB:=Hn (j.e+r2.2.2) 0 2 Bk;refine Ix (D3 d r2.1 r2.2.1 12 hr2.1 Bk) hH hp fun r3 hr3=>?_;refine Ix (D3 d r3.1 r3.2.1 40 hr3.1 Bk) hH hp fun r4 hr4=>?_;have hk3:=hr3.2.2.2 A7;have hv4:=hr4.2.2.2 A7;refine Bg A0 rfl (Aa (j.xs++[⟨0,⟨E5 (j.e+r2.2.2) 0 2,0⟩,r3.2.2,r4.2.2⟩])) (An rfl) Ij A7 (F1 ?_);refine Co [(1,3)] (⟨j.k+1,r4.1,r4.2.1,E5 (j.e+r2.2.2) 0 2,j.xs++[⟨0,⟨E5 (j.e+r2.2.2) 0 2,0⟩,r3.2.2,r4.2.2⟩]⟩) (⟨hr4.1,by show j.k+1≤5;omega,by simp [hx],hB,C17 hA ⟨hB.1,by omega⟩ ⟨hr3.2.1,by omega⟩ ⟨hr4.2.1,by omega⟩⟩) (by show 5-(j.k+1)<_;omega) ⟨rfl,rfl,trivial⟩ ⟨rfl,trivial⟩
 exact Iy (r.1,r.2.1,j.xs) ⟨hr.1,by show j.xs.length≤5;omega,hA⟩
theorem A0g (xs:List Int)(k:Nat)(h:∀x∈xs,Js .i64 x):Js .i64 (xs.getD k 0):=Zy (p:=fun w=>Js .i64 w) xs k 0 h ⟨by decide,by decide⟩
theorem B4m {n:Int}(h: -9223372036854775808≤n)(h':n≤9223372036854775807):Js .i64 n:=⟨h,h'⟩
theorem B3y (d:Ig)(i h:Int)(hi:0≤i∧i≤d.n):MtR HT 219 d.pins (d.cur i h) [] (fun r:Int×Int×Iq=>(0≤r.1∧r.1≤d.n)∧r.2.2.ok) (fun r=>d.cur r.1 r.2.1) (fun r=>[.agg r.2.2.c]):=by
 refine zeP Tryz.func219 fun B b hH hp=>?_;refine Ix (D3 d i h 4 hi Bk) hH hp fun r hr=>?_;refine Ix (D3 d r.1 r.2.1 5 hr.1 Bk) hH hp fun r2 hr2=>?_;exact Ke A0 (r2.1,r2.2.1,⟨r.2.2,r2.2.2⟩) ⟨hr2.1,B4m (by show _≤r.2.2;omega) (by show r.2.2≤_;omega),B4m (by show _≤r2.2.2;omega) (by show r2.2.2≤_;omega)⟩ rfl rfl rfl rfl I1
theorem B3w (d:Ig)(i h:Int)(hi:0≤i∧i≤d.n):MtR HT 168 d.pins (d.cur i h) [] (fun r:Int×Int×Iq=>(0≤r.1∧r.1≤d.n)∧r.2.2.ok) (fun r=>d.cur r.1 r.2.1) (fun r=>[.agg r.2.2.c]):=by
 refine zeP Tryz.func168 fun B b hH hp=>?_;refine Ix (B3y d i h hi) hH hp fun r hr=>?_;refine Ix (D3 d r.1 r.2.1 10 hr.1 Bk) hH hp fun r2 hr2=>?_;refine C2 (fun c0=>?_) fun c0=>?_
 ·refine Mg 3 (De [-1,3,4,9223372036854775807]) rfl (Cc rfl Td) ?_
  refine Ix (M8 d r2.1 r2.2.1 [-1,3,4,9223372036854775807] hr2.1 Bk) hH hp fun r3 hr3=>?_;exact Ke A0 (r3.1,r3.2.1,⟨[-1,3,4,9223372036854775807].getD r3.2.2 0,r.2.2.turn⟩) ⟨hr3.1,A0g _ _ (by intro x hx;simp only [C7,K0,Ld] at hx;show _∧_;omega),hr.2.2⟩ rfl rfl rfl rfl I1
 refine C2 (fun c1=>?_) fun c1=>?_
 ·refine Mg 3 (De [-1,5,6,7,-9223372036854775808]) rfl (Cc rfl Td) ?_
  refine Ix (M8 d r2.1 r2.2.1 [-1,5,6,7,-9223372036854775808] hr2.1 Bk) hH hp fun r3 hr3=>?_;exact Ke A0 (r3.1,r3.2.1,⟨r.2.2.am,[-1,5,6,7,-9223372036854775808].getD r3.2.2 0⟩) ⟨hr3.1,hr.2.1,A0g _ _ (by intro x hx;simp only [C7,K0,Ld] at hx;show _∧_;omega)⟩ rfl rfl rfl rfl I1
 exact Iy (r2.1,r2.2.1,r.2.2) ⟨hr2.1,hr.2⟩
theorem C1m (d:Ig)(i h:Int)(hi:0≤i∧i≤d.n):MtR HT 167 d.pins (d.cur i h) [] (fun r:Int×Int×A9=>(0≤r.1∧r.1≤d.n)∧r.2.2.ok) (fun r=>d.cur r.1 r.2.1) (fun r=>[.agg r.2.2.c]):=by
 refine zeP Tryz.func167 fun B b hH hp=>?_;refine Ix (D3 d i h 5 hi Bk) hH hp fun r hr=>?_;refine Ix (B3y d r.1 r.2.1 hr.1) hH hp fun s hs=>?_;refine Ix (D3 d s.1 s.2.1 12 hs.1 Bk) hH hp fun r2 hr2=>?_;refine Ix (D3 d r2.1 r2.2.1 40 hr2.1 Bk) hH hp fun r3 hr3=>?_;exact Ke A0 (r3.1,r3.2.1,⟨r.2.2,s.2.2,r2.2.2,r3.2.2⟩) ⟨hr3.1,B4m (by show _≤r.2.2;omega) (by show r.2.2≤_;omega),hs.2,B4m (by show _≤r2.2.2;omega) (by show r2.2.2≤_;omega),B4m (by show _≤r3.2.2;omega) (by show r3.2.2≤_;omega)⟩ rfl rfl rfl rfl I1
theorem Zk (d:Ig)(i h:Int)(hi:0≤i∧i≤d.n):MtR HT 111 d.pins (d.cur i h) [] (fun r:Int×Int×A9=>(0≤r.1∧r.1≤d.n)∧r.2.2.ok) (fun r=>d.cur r.1 r.2.1) (fun r=>[.agg r.2.2.c]):=by
 refine zeP Tryz.func111 fun B b hH hp=>?_;refine Ix (C1m d i h hi) hH hp fun r hr=>?_;refine Ix (D3 d r.1 r.2.1 12 hr.1 Bk) hH hp fun r2 hr2=>?_;refine C2 (fun c0=>?_) fun c0=>?_
 ·refine Mg 3 (De [-1,7,8]) rfl (Cc rfl Td) ?_
  refine Ix (M8 d r2.1 r2.2.1 [-1,7,8] hr2.1 Bk) hH hp fun r3 hr3=>?_;exact Ke A0 (r3.1,r3.2.1,⟨[-1,7,8].getD r3.2.2 0,r.2.2.af,r.2.2.key,r.2.2.val⟩) ⟨hr3.1,A0g _ _ (by intro x hx;simp only [C7,K0,Ld] at hx;show _∧_;omega),hr.2.2⟩ rfl rfl rfl rfl I1
 refine C2 (fun c1=>?_) fun c1=>?_
 ·refine Ix (B3w d r2.1 r2.2.1 hr2.1) hH hp fun r3 hr3=>?_
  exact Iy (r3.1,r3.2.1,⟨r.2.2.op,r3.2.2,r.2.2.key,r.2.2.val⟩) ⟨hr3.1,hr.2.1,hr3.2,hr.2.2.2⟩
 refine C2 (fun c2=>?_) fun c2=>?_
 ·refine Mg 3 (De [-1,99,100,-9223372036854775808]) rfl (Cc rfl Td) ?_
  refine Ix (M8 d r2.1 r2.2.1 [-1,99,100,-9223372036854775808] hr2.1 Bk) hH hp fun r3 hr3=>?_;exact Ke A0 (r3.1,r3.2.1,⟨r.2.2.op,r.2.2.af,[-1,99,100,-9223372036854775808].getD r3.2.2 0,r.2.2.val⟩) ⟨hr3.1,hr.2.1,hr.2.2.1,A0g _ _ (by intro x hx;simp only [C7,K0,Ld] at hx;show _∧_;omega),hr.2.2.2.2⟩ rfl rfl rfl rfl I1
 refine C2 (fun c3=>?_) fun c3=>?_
 ·refine Mg 3 (De [-1,999,1000,9223372036854775807]) rfl (Cc rfl Td) ?_
  refine Ix (M8 d r2.1 r2.2.1 [-1,999,1000,9223372036854775807] hr2.1 Bk) hH hp fun r3 hr3=>?_;exact Ke A0 (r3.1,r3.2.1,⟨r.2.2.op,r.2.2.af,r.2.2.key,[-1,999,1000,9223372036854775807].getD r3.2.2 0⟩) ⟨hr3.1,hr.2.1,hr.2.2.1,hr.2.2.2.1,A0g _ _ (by intro x hx;simp only [C7,K0,Ld] at hx;show _∧_;omega)⟩ rfl rfl rfl rfl I1
 exact Iy (r2.1,r2.2.1,r.2.2) ⟨hr2.1,hr.2⟩
end Go.Proofs.YtmhcebdkjgkmlaaGreatDoor
