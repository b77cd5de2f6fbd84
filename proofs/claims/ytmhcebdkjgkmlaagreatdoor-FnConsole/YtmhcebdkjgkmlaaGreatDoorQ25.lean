/- Part 25 of the proof that each of the laws FnConsole returns true for every input. No conditions. -/
import Derived.Test.YtmhcebdkjgkmlaaGreatDoorQ23

set_option linter.unusedSimpArgs false
set_option linter.unusedVariables false
set_option maxRecDepth 100000
namespace Go.Proofs.YtmhcebdkjgkmlaaGreatDoor
open Go.Sx
theorem A7y {g:B0}{op:Int}(h:E4 op 0 (g.ak.length-1)=true):Qj g op=(Ac g op,true):=Ak h
theorem B13 {g:B0}{op:Int}(h:E4 op 0 (g.ak.length-1)=false):Qj g op=(⟨0,0,0,[]⟩,false):=Ab (by rw [h];decide)
theorem B94 {k:Int}{l:List Ad}{x:Ad}(h:¬ (k=5∨k=6∨k=8)):Cz k l x=(l,true):=A25 (fun p=>h (.inl p)) (fun p=>h (.inr (.inr p))) (fun p=>h (.inr (.inl p)))
set_option maxHeartbeats 4000000 in
theorem C0h (g:B0)(cs:List Ad)(r:Aa)(hg:g.w≤16777216)(hl:cs.length≤16000000):Di 239 [.agg g.c,.one (Ai cs),.agg r.c] [.one (Ai (H2 g cs r).1),.one (A9 (H2 g cs r).2.1),.one (vb (H2 g cs r).2.2)]:=by
 refine E7 Tryz.func239 fun W=>?_;refine B6 A0 rfl (Ai cs) (Bs) (fun _=>Gi cs) A7 (Ah ?_);refine Gf (Ul g r.op hg) ?_
 cases h3:E4 r.op 0 (g.ak.length-1)
 ·have h4:=Go.Sx.Gd.1 h3
  rw [B13 h3];refine As ?_;refine Oq 4 (A9 []) rfl C0 ?_;rw [Xw (fun p=>h4 ⟨p.2.1.1.1,by have:=p.2.2;omega⟩)];exact D4
 have h4:=Go.Sx.Cl.1 h3;rw [A7y h3];have hk:r.op.toNat<g.ak.length:=by omega
 obtain ⟨hnw,hol⟩:=A5p hg hk;refine As ?_;refine Aq (Mn g A7) rfl (Gu ?_);refine C1 (fun h1=>?_) fun h1=>?_
 ·have h1:F2 g=false:=by simpa using h1
  refine As ?_;refine Oq 4 (A9 []) rfl C0 ?_;rw [Xw (fun p=>absurd p.1 (Cv h1))];exact D4
 have h1:Gw g:=Bn (show F2 g=true by simpa using h1)
 refine As ?_;refine Aq (Jq r) rfl (Gu ?_);refine C1 (fun h2=>?_) fun h2=>?_
 ·have h2:Fh r=false:=by simpa using h2
  refine As ?_;refine Oq 4 (A9 []) rfl C0 ?_;rw [Xw (fun p=>absurd p.2.1 (Cv h2))];exact D4
 have h2:H5 r:=Bn (show Fh r=true by simpa using h2)
 have hP:Pc g r:=⟨h1,h2,by omega⟩;refine As ?_;refine Fp (B7v (Ac g r.op) r.key r.val hnw) ?_;refine C1 (fun h5=>?_) fun h5=>?_
 ·have h5:(Bd (Ac g r.op) r.key r.val).2.2=false:=by simpa using h5
  refine As ?_;refine Y0 (fun h8=>?_) fun h8=>?_
  ·have h8:(Ac g r.op).kind≠8:=h8
   refine As ?_;refine Oq 4 (A9 []) rfl C0 ?_;rw [B2m hP h5 h8];exact D4
  have h8:(Ac g r.op).kind=8:=h8;refine As ?_;have hnb:¬ ((Bd (Ac g r.op) r.key r.val).2.2=false∧(Ac g r.op).kind≠8):=(fun p=>p.2 h8);refine Fp (Yu (Ac g r.op).kind) ?_;refine C1 (fun hr=>?_) fun hr=>?_
  ·have hr:(Ac g r.op).kind=5∨(Ac g r.op).kind=6∨(Ac g r.op).kind=8:=Bn hr
   refine Gf (A81 (Ac g r.op).kind cs (Fu r) hl) ?_;refine C1 (fun h6=>?_) fun h6=>?_
   ·have h6:(Cz (Ac g r.op).kind cs (Fu r)).2=false:=by simpa using h6
    refine As ?_;refine Oq 4 (A9 []) rfl C0 ?_;rw [Un hP hnb h6];exact D4
   have h6:(Cz (Ac g r.op).kind cs (Fu r)).2=true:=by simpa using h6
   refine As ?_;have h7:(Ac g r.op).kind≠7:=by omega
   refine Lf (fun h7'=>?_) fun h7'=>?_
   ·exact absurd h7' h7
   refine Eu 4 (A9 []) rfl C0 ?_;refine Fx [25] (fun k:Nat=>[(21,.c (vi k))]) (fun k=>[⟨6,[.c (vi (Ac g r.op).kind),.c (vi (Ac g r.op).a),.c (vi (Ac g r.op).b),.own 5]⟩,⟨8,[.c (vi (r.af).ab),.c (vi (r.af).turn)]⟩]) (fun k=>[⟨5,Cn (Ac g r.op).ax⟩,⟨4,A9 (emL g r (r.af) k)⟩,⟨7,Ai (Cz (Ac g r.op).kind cs (Fu r)).1⟩]) (fun k=>k≤(Ac g r.op).ax.length) (fun k=>(Ac g r.op).ax.length-k) fun k hk=>?_;conv=>whnf
   refine Dv (fun h=>?_) fun h=>?_
   ·have h:k<(Ac g r.op).ax.length:=by omega
    have hem:=Vp (g:=g) (r:=r) (s:=r.af) (k:=k)
    first|(refine Aj 23 rfl [0,1,2,3,4,5,6,7,8,9,10,11,12] Am (Ah ?_))
    refine B4 ?_;refine B6 A0 rfl (A9 (emL g r (r.af) k++[Ss r (r.af) (Bd (Ac g r.op) r.key r.val).1 (Bd (Ac g r.op) r.key r.val).2.1 ((Ac g r.op).ax.getD k default)])) (Ao rfl) Hd A7 (Em ?_);refine Cc [(4,10)] (k+1) A7 A7 ⟨rfl,trivial⟩ ⟨rfl,A6 A9 (Rd h).symm,rfl,trivial⟩
   refine As ?_;rw [Nl hP hnb h6,A00 h7,Vo A7];exact D4
  exact absurd (.inr (.inr h8)) (Cv hr)
 have h5:(Bd (Ac g r.op) r.key r.val).2.2=true:=by simpa using h5
 refine As ?_;have hnb:¬ ((Bd (Ac g r.op) r.key r.val).2.2=false∧(Ac g r.op).kind≠8):=(fun p=>by rw [p.1] at h5;cases h5);refine Fp (Yu (Ac g r.op).kind) ?_;refine C1 (fun hr=>?_) fun hr=>?_
 ·have hr:(Ac g r.op).kind=5∨(Ac g r.op).kind=6∨(Ac g r.op).kind=8:=Bn hr
  refine Gf (A81 (Ac g r.op).kind cs (Fu r) hl) ?_;refine C1 (fun h6=>?_) fun h6=>?_
  ·have h6:(Cz (Ac g r.op).kind cs (Fu r)).2=false:=by simpa using h6
   refine As ?_;refine Oq 4 (A9 []) rfl C0 ?_;rw [Un hP hnb h6];exact D4
  have h6:(Cz (Ac g r.op).kind cs (Fu r)).2=true:=by simpa using h6
  refine As ?_;have h7:(Ac g r.op).kind≠7:=by omega
  refine Lf (fun h7'=>?_) fun h7'=>?_
  ·exact absurd h7' h7
  refine Eu 4 (A9 []) rfl C0 ?_;refine Fx [25] (fun k:Nat=>[(21,.c (vi k))]) (fun k=>[⟨6,[.c (vi (Ac g r.op).kind),.c (vi (Ac g r.op).a),.c (vi (Ac g r.op).b),.own 5]⟩,⟨8,[.c (vi (r.af).ab),.c (vi (r.af).turn)]⟩]) (fun k=>[⟨5,Cn (Ac g r.op).ax⟩,⟨4,A9 (emL g r (r.af) k)⟩,⟨7,Ai (Cz (Ac g r.op).kind cs (Fu r)).1⟩]) (fun k=>k≤(Ac g r.op).ax.length) (fun k=>(Ac g r.op).ax.length-k) fun k hk=>?_;conv=>whnf
  refine Dv (fun h=>?_) fun h=>?_
  ·have h:k<(Ac g r.op).ax.length:=by omega
   have hem:=Vp (g:=g) (r:=r) (s:=r.af) (k:=k)
   first|(refine Aj 23 rfl [0,1,2,3,4,5,6,7,8,9,10,11,12] Am (Ah ?_))
   refine B4 ?_;refine B6 A0 rfl (A9 (emL g r (r.af) k++[Ss r (r.af) (Bd (Ac g r.op) r.key r.val).1 (Bd (Ac g r.op) r.key r.val).2.1 ((Ac g r.op).ax.getD k default)])) (Ao rfl) Hd A7 (Em ?_);refine Cc [(4,10)] (k+1) A7 A7 ⟨rfl,trivial⟩ ⟨rfl,A6 A9 (Rd h).symm,rfl,trivial⟩
  refine As ?_;rw [Nl hP hnb h6,A00 h7,Vo A7];exact D4
 have hr:¬ ((Ac g r.op).kind=5∨(Ac g r.op).kind=6∨(Ac g r.op).kind=8):=Cv hr;have e6:=B94 (l:=cs) (x:=Fu r) hr;have h6:(Cz (Ac g r.op).kind cs (Fu r)).2=true:=by rw [e6]
 have e61:(Cz (Ac g r.op).kind cs (Fu r)).1=cs:=by rw [e6]
 refine As ?_;refine Lf (fun h7=>?_) fun h7=>?_
 ·have h7:(Ac g r.op).kind=7:=h7
  refine Fp (A15 r.af) ?_;refine C1 (fun hnt=>?_) fun hnt=>?_
  ·have hnt:(Br r.af).2=false:=by simpa using hnt
   refine As ?_;refine Oq 4 (A9 []) rfl C0 ?_;rw [Nl hP hnb h6,A6r h7 hnt,e61];exact D4
  have hnt:(Br r.af).2=true:=by simpa using hnt
  refine As ?_;refine Eu 4 (A9 []) rfl C0 ?_;refine Fx [25] (fun k:Nat=>[(21,.c (vi k))]) (fun k=>[⟨6,[.c (vi (Ac g r.op).kind),.c (vi (Ac g r.op).a),.c (vi (Ac g r.op).b),.own 5]⟩,⟨7,[.c (vi ((Br r.af).1).ab),.c (vi ((Br r.af).1).turn)]⟩]) (fun k=>[⟨5,Cn (Ac g r.op).ax⟩,⟨4,A9 (emL g r ((Br r.af).1) k)⟩,⟨3,Ai cs⟩]) (fun k=>k≤(Ac g r.op).ax.length) (fun k=>(Ac g r.op).ax.length-k) fun k hk=>?_;conv=>whnf
  refine Dv (fun h=>?_) fun h=>?_
  ·have h:k<(Ac g r.op).ax.length:=by omega
   have hem:=Vp (g:=g) (r:=r) (s:=(Br r.af).1) (k:=k)
   first|(refine Aj 23 rfl [0,1,2,3,4,5,6,7,8,9,10,11,12] Am (Ah ?_))
   refine B4 ?_;refine B6 A0 rfl (A9 (emL g r ((Br r.af).1) k++[Ss r ((Br r.af).1) (Bd (Ac g r.op) r.key r.val).1 (Bd (Ac g r.op) r.key r.val).2.1 ((Ac g r.op).ax.getD k default)])) (Ao rfl) Hd A7 (Em ?_);refine Cc [(4,10)] (k+1) A7 A7 ⟨rfl,trivial⟩ ⟨rfl,A6 A9 (Rd h).symm,rfl,trivial⟩
  refine As ?_;rw [Nl hP hnb h6,B24 h7 hnt,e61,Vo A7];exact D4
 have h7:(Ac g r.op).kind≠7:=h7;refine As ?_;refine Eu 4 (A9 []) rfl C0 ?_;refine Fx [25] (fun k:Nat=>[(21,.c (vi k))]) (fun k=>[⟨6,[.c (vi (Ac g r.op).kind),.c (vi (Ac g r.op).a),.c (vi (Ac g r.op).b),.own 5]⟩,⟨7,[.c (vi (r.af).ab),.c (vi (r.af).turn)]⟩]) (fun k=>[⟨5,Cn (Ac g r.op).ax⟩,⟨4,A9 (emL g r (r.af) k)⟩,⟨3,Ai cs⟩]) (fun k=>k≤(Ac g r.op).ax.length) (fun k=>(Ac g r.op).ax.length-k) fun k hk=>?_;conv=>whnf
 refine Dv (fun h=>?_) fun h=>?_
 ·have h:k<(Ac g r.op).ax.length:=by omega
  have hem:=Vp (g:=g) (r:=r) (s:=r.af) (k:=k)
  first|(refine Aj 23 rfl [0,1,2,3,4,5,6,7,8,9,10,11,12] Am (Ah ?_))
  refine B4 ?_;refine B6 A0 rfl (A9 (emL g r (r.af) k++[Ss r (r.af) (Bd (Ac g r.op) r.key r.val).1 (Bd (Ac g r.op) r.key r.val).2.1 ((Ac g r.op).ax.getD k default)])) (Ao rfl) Hd A7 (Em ?_);refine Cc [(4,9)] (k+1) A7 A7 ⟨rfl,trivial⟩ ⟨rfl,A6 A9 (Rd h).symm,rfl,trivial⟩
 refine As ?_;rw [Nl hP hnb h6,A00 h7,e61,Vo A7];exact D4
theorem C0d (g:B0)(r:Aa)(hg:g.w≤16777216):Di 240 [.agg g.c,.agg r.c] [.one (vb (ao g r))]:=by
 refine E7 Tryz.func240 fun W=>?_;refine Gf (Ul g r.op hg) ?_;refine Fp (A15 r.af) ?_
 cases h3:E4 r.op 0 (g.ak.length-1)
 ·have h4:=Go.Sx.Gd.1 h3
  rw [B13 h3];refine As ?_;rw [Nz (fun p=>h4 ⟨p.2.1.1.1,by have:=p.2.2;omega⟩)];exact D4
 have h4:=Go.Sx.Cl.1 h3;rw [A7y h3];have hk:r.op.toNat<g.ak.length:=by omega
 obtain ⟨hnw,hol⟩:=A5p hg hk;refine As ?_;refine Aq (Mn g A7) rfl (Gu ?_);refine C1 (fun h1=>?_) fun h1=>?_
 ·have h1:Gw g:=Bn h1
  refine As ?_;refine Aq (Jq r) rfl (Gu ?_);refine C1 (fun h2=>?_) fun h2=>?_
  ·have h2:H5 r:=Bn h2
   have hP:Pc g r:=⟨h1,h2,by omega⟩;rw [B07 hP];refine As ?_;refine C1 (fun h7=>?_) fun h7=>?_
   ·have h7:((Ac g r.op).kind==7)=true:=h7
    rw [h7];refine As ?_;refine C1 (fun h8=>?_) fun h8=>?_
    ·have h8:decide (((Ac g r.op).ax.length:Int)>0)=true:=h8
     rw [h8];refine As ?_;exact D4
    have h8:decide (((Ac g r.op).ax.length:Int)>0)=false:=h8;rw [h8];refine As ?_;exact D4
   have h7:((Ac g r.op).kind==7)=false:=h7;rw [h7];refine As ?_;exact D4
  refine As ?_;rw [Nz (fun p=>absurd p.2.1 (Cv h2))];exact D4
 refine As ?_;rw [Nz (fun p=>absurd p.1 (Cv h1))];exact D4
theorem P1 (n lo hi:Int):Di 98 [.one (vi n),.one (vi lo),.one (vi hi)] [.one (vi (Cs n lo hi))]:=by
 refine E7 Tryz.func98 fun W=>?_
 repeat' (first|(refine Ho ?_;conv=>whnf)|(refine Hp ?_;conv=>whnf)|(refine ⟨fun h=>?_,fun h=>?_⟩<;>conv=>whnf)|(refine An A0 rfl rfl ⟨?_,trivial⟩;conv=>whnf)|(refine Gn ?_;conv=>whnf)|fail)
 all_goals (refine A6 vi ?_;simp only [Np,Ta] at *;unfold Cs;repeat' split)<;>first|contradiction|omega
theorem Vs (n lo hi:Int):Di 103 [.one (vi n),.one (vi lo),.one (vi hi)] [.one (vi (Cs n lo hi))]:=by
 refine E7 Tryz.func103 fun W=>?_
 repeat' (first|(refine Ho ?_;conv=>whnf)|(refine Hp ?_;conv=>whnf)|(refine ⟨fun h=>?_,fun h=>?_⟩<;>conv=>whnf)|(refine An A0 rfl rfl ⟨?_,trivial⟩;conv=>whnf)|(refine Gn ?_;conv=>whnf)|fail)
 all_goals (refine A6 vi ?_;simp only [Np,Ta] at *;unfold Cs;repeat' split)<;>first|contradiction|omega
theorem B4j (x:A3):Di 97 [.agg x.c] [.one (D7 (Qy (Cs x.az.aq 0 4).toNat))]:=by
 have hb:=G2 x.az.aq 0 4 Bq;obtain ⟨n,hn⟩:∃n:Nat,Cs x.az.aq 0 4=n:=⟨(Cs x.az.aq 0 4).toNat,by omega⟩;have h4:n≤4:=by omega
 refine E7 Tryz.func97 fun W=>?_;refine Fp (P1 x.az.aq 0 4) ?_;rw [hn];refine Eu 1 (D7 []) rfl C0 ?_;refine Fx [9] (fun k:Nat=>[(5,.c (vi k))]) (fun k=>[]) (fun k=>[⟨1,D7 (pA k)⟩]) (fun k=>k≤n) (fun k=>n-k) fun k hk=>?_;refine Dv (fun h=>?_) fun h=>?_
 ·have h:k<n:=by omega
  have hl:=A78 k;refine B6 A0 rfl (D7 (pA k++pW k)) (C8b rfl rfl rfl rfl) Hd A7 (Em ?_);refine Cc [(1,3)] (k+1) A7 A7 ⟨rfl,trivial⟩ ⟨A6 D7 (B34 k).symm,trivial⟩
 have e:n=k:=by omega
 subst e;have hl:=A78 n;refine Fx [] (fun k:Nat=>[(6,.c (vi k))]) (fun k=>[]) (fun k=>[⟨1,D7 (pA n++pC n k)⟩]) (fun k=>k≤n) (fun k=>n-k) fun k hk=>?_;refine Dv (fun h=>?_) fun h=>?_
 ·have h:k<n:=by omega
  have hc:=A79 n k h4
  refine W3 A0 false [] (fun j:Nat=>[(7,.c (vi j))]) (fun _=>[]) (fun j=>[⟨1,D7 (pA n++(pC n k++pB k j))⟩])
   (fun j=>j≤n) (fun j=>n-j) 0 (Fe _) ⟨rfl,trivial⟩ trivial ⟨(A6 (fun l=>Mx _ _ (pA n++l)) (I4 _)).symm,trivial⟩ trivial Am (fun j hj=>?_)
  conv=>whnf
  refine Dv (fun h'=>?_) fun h'=>?_
  ·have h':j<n:=by omega
   have hd:=B91 k j;have hs:=B35 k j;refine Y0 (fun hq=>?_) fun hq=>?_
   ·refine B4 ?_
    refine B6 A0 rfl (D7 (pA n++(pC n k++pB k j)++[⟨4,k,j⟩,⟨5,k,j⟩])) (C17 rfl rfl) Hd (by simp only [D3];omega) (Em ?_);refine Cc [(1,3)] (j+1) A7 A7 ⟨rfl,trivial⟩ ⟨?_,trivial⟩;exact A6 D7 (by rw [hs,pK,Ab hq];simp only [Cr])
   refine B4 ?_;refine Cc [] (j+1) A7 A7 ⟨rfl,trivial⟩ ⟨?_,trivial⟩;exact A6 D7 (by rw [hs,pK,Ak hq,I4])
  have e:n=j:=by omega
  refine B4 ?_;refine Cc [] (k+1) A7 A7 ⟨rfl,trivial⟩ ⟨A6 D7 (by rw [←e,B36]),trivial⟩
 have e:k=n:=by omega
 subst e;have hc:=A79 k k h4
 refine W3 A0 false [] (fun j:Nat=>[(8,.c (vi j))]) (fun _=>[]) (fun j=>[⟨1,D7 (pA k++pC k k++pE j)⟩])
  (fun j=>j≤4) (fun j=>4-j) 0 (Fe _) ⟨rfl,trivial⟩ trivial ⟨(A6 (fun l=>Mx _ _ l) (I4 _)).symm,trivial⟩ trivial Am (fun j hj=>?_)
 conv=>whnf
 refine Dv (fun h'=>?_) fun h'=>?_
 ·have h':j<4:=by omega
  have hd:=B92 j;refine B4 ?_;refine B6 A0 rfl (D7 (pA k++pC k k++pE j++[⟨6,j,0⟩])) (Ao rfl) Hd (by simp only [D3];omega) (Em ?_);refine Cc [(1,3)] (j+1) A7 A7 ⟨rfl,trivial⟩ ⟨?_,trivial⟩;exact A6 D7 (by rw [C1v];simp only [Cr])
 refine An A0 rfl rfl ⟨?_,trivial⟩;have e:j=4:=by omega
 subst e;exact A6 D7 (by rw [Qy,Bv])
theorem A1b (x:A3):Di 162 [.agg x.c] [.one (D7 (Qy (Cs x.az.aq 0 4).toNat))]:=by
 have hb:=G2 x.az.aq 0 4 Bq;obtain ⟨n,hn⟩:∃n:Nat,Cs x.az.aq 0 4=n:=⟨(Cs x.az.aq 0 4).toNat,by omega⟩;have h4:n≤4:=by omega
 refine E7 Tryz.func162 fun W=>?_;refine Fp (Vs x.az.aq 0 4) ?_;rw [hn];refine U5 4 3 (fun i=>Do.c (([]:List Do).getD i default)) rfl ?_;refine Fx [9] (fun k:Nat=>[(5,.c (vi k))]) (fun k=>[]) (fun k=>[⟨1,D7 (pA k)⟩]) (fun k=>k≤n) (fun k=>n-k) fun k hk=>?_;refine Dv (fun h=>?_) fun h=>?_
 ·have h:k<n:=by omega
  have hl:=A78 k;refine Eu 2 (Cn [1,3,2,7]) rfl (C23 rfl rfl rfl rfl) ?_
  refine W3 A0 false [7] (fun j:Nat=>[(22,.c (vi j))]) (fun _=>[]) (fun j=>[⟨2,Cn [1,3,2,7]⟩,⟨1,D7 (pA k++(pW k).take j)⟩])
   (fun j=>j≤4) (fun j=>4-j) 0 (Fe _) ⟨rfl,trivial⟩ trivial ⟨rfl,(A6 (fun l=>Mx _ _ l) (I4 _)).symm,trivial⟩ trivial Am (fun j hj=>?_)
  conv=>whnf
  refine Dv (fun h'=>?_) fun h'=>?_
  ·have h':j<4:=by omega
   have hd:((pW k).take j).length≤j:=Ly _ _;refine ⟨by exact ⟨by omega,by show (j:Int)<4;omega⟩,?_⟩
   conv=>whnf
   refine B4 ?_;refine B6 A0 rfl (D7 (pA k++(pW k).take j++[⟨([1,3,2,7]:List Int).getD j default,k,0⟩])) (Ao rfl) Hd (by simp only [D3];omega) (Em ?_);refine Cc [(1,4)] (j+1) A7 A7 ⟨rfl,trivial⟩ ⟨rfl,?_,trivial⟩;exact A6 D7 (by rw [D0s k j h',Cr])
  have e:j=4:=by omega
  subst e;refine B4 ?_;refine Cc [] (k+1) A7 A7 ⟨rfl,trivial⟩ ⟨A6 D7 (B34 k).symm,trivial⟩
 have e:n=k:=by omega
 subst e;have hl:=A78 n;refine Fx [] (fun k:Nat=>[(8,.c (vi k))]) (fun k=>[]) (fun k=>[⟨1,D7 (pA n++pC n k)⟩]) (fun k=>k≤n) (fun k=>n-k) fun k hk=>?_;refine Dv (fun h=>?_) fun h=>?_
 ·have h:k<n:=by omega
  have hc:=A79 n k h4
  refine W3 A0 false [] (fun j:Nat=>[(9,.c (vi j))]) (fun _=>[]) (fun j=>[⟨1,D7 (pA n++(pC n k++pB k j))⟩])
   (fun j=>j≤n) (fun j=>n-j) 0 (Fe _) ⟨rfl,trivial⟩ trivial ⟨(A6 (fun l=>Mx _ _ (pA n++l)) (I4 _)).symm,trivial⟩ trivial Am (fun j hj=>?_)
  conv=>whnf
  refine Dv (fun h'=>?_) fun h'=>?_
  ·have h':j<n:=by omega
   have hd:=B91 k j;have hs:=B35 k j;refine Y0 (fun hq=>?_) fun hq=>?_
   ·refine B4 ?_
    refine B6 A0 rfl (D7 (pA n++(pC n k++pB k j)++[⟨4,k,j⟩,⟨5,k,j⟩])) (C17 rfl rfl) Hd (by simp only [D3];omega) (Em ?_);refine Cc [(1,3)] (j+1) A7 A7 ⟨rfl,trivial⟩ ⟨?_,trivial⟩;exact A6 D7 (by rw [hs,pK,Ab hq];simp only [Cr])
   refine B4 ?_;refine Cc [] (j+1) A7 A7 ⟨rfl,trivial⟩ ⟨?_,trivial⟩;exact A6 D7 (by rw [hs,pK,Ak hq,I4])
  have e:n=j:=by omega
  refine B4 ?_;refine Cc [] (k+1) A7 A7 ⟨rfl,trivial⟩ ⟨A6 D7 (by rw [←e,B36]),trivial⟩
 have e:k=n:=by omega
 subst e;have hc:=A79 k k h4
 refine W3 A0 false [] (fun j:Nat=>[(10,.c (vi j))]) (fun _=>[]) (fun j=>[⟨1,D7 (pA k++pC k k++pE j)⟩])
  (fun j=>j≤4) (fun j=>4-j) 0 (Fe _) ⟨rfl,trivial⟩ trivial ⟨(A6 (fun l=>Mx _ _ l) (I4 _)).symm,trivial⟩ trivial Am (fun j hj=>?_)
 conv=>whnf
 refine Dv (fun h'=>?_) fun h'=>?_
 ·have h':j<4:=by omega
  have hd:=B92 j;refine B4 ?_;refine B6 A0 rfl (D7 (pA k++pC k k++pE j++[⟨6,j,0⟩])) (Ao rfl) Hd (by simp only [D3];omega) (Em ?_);refine Cc [(1,3)] (j+1) A7 A7 ⟨rfl,trivial⟩ ⟨?_,trivial⟩;exact A6 D7 (by rw [C1v];simp only [Cr])
 refine An A0 rfl rfl ⟨?_,trivial⟩;have e:j=4:=by omega
 subst e;exact A6 D7 (by rw [Qy,Bv])
end Go.Proofs.YtmhcebdkjgkmlaaGreatDoor
