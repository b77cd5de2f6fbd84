/- Part 33 of the proof that each of the laws FnScriptsBack returns true for every input. No conditions. -/
import Derived.Test.YtmhcebdkjgkmlaaGreatDoorR32

set_option linter.unusedSimpArgs false
set_option linter.unusedVariables false
set_option maxRecDepth 100000
namespace Go.Proofs.YtmhcebdkjgkmlaaGreatDoor
open Go.Sx
theorem B25 {α:Type} [Inhabited α] (f:α→Nat):∀(l:List α) (j:Nat) (x:α),j<l.length→((l.set j x).map f).sum+f (l.getD j default)=(l.map f).sum+f x
 | [],_,_,h=>absurd h (Le _)
 |y::r,0,x,_=>by simp;omega
 |y::r,j+1,x,h=>by
  have:=B25 f r j x (by simpa using h)
  simp only [List.set_cons_succ,I8,List.sum_cons,List.getD_cons_succ];omega
variable {c : A3} {w : Aj}
theorem N9 {j:Int}(h:0≤j∧j<c.aq.length):(Bf c j w).w+(A8 c j).w=c.w+w.w:=by
 have:=B25 Aj.w c.aq j.toNat w A7
 simp only [Bf,A3.w,wS,K1,A8];omega
theorem A7c {k:Int}{l:D8}(h:0≤k∧k<c.ak.length):(Ds c k l).w+(Bd c k).w=c.w+l.w:=by
 have:=B25 D8.w c.ak k.toNat l A7
 simp only [Ds,A3.w,wS,K1,Bd];omega
theorem A0v {e:Int}{t:I9}:(Gu c e t).w=c.w:=by simp only [Gu,A3.w,K1]
theorem C7p {g:Ax}:(Nc g w).1.w≤w.w+2:=by
 unfold Nc
 split
 ·rename_i h
  have h1:=B8s (g:=g) (cs:=w.cells) (r:=w.al.getD 0 default);have h2:=B59 (g:=g) (cs:=w.cells) (r:=w.al.getD 0 default);have h3:=h.2.2.2;have h4:(if ae g (w.al.getD 0 default)=true then w.ao.set (w.al.getD 0 default).af.am.toNat true else w.ao).length=w.ao.length:=by split<;>simp
  simp only [Pa,Aj.w,Gm,h4];omega
 simp
theorem B6f {g:Ax}:(Hu g w).1.w≤w.w:=by
 unfold Hu
 split
 ·rename_i h
  have:=h.2.2.2.2
  simp only [Q6,Aj.w,Dn,Jb,Gm];omega
 simp
theorem B8g {e:Int}:(Ky w e).w=w.w:=by
 unfold Ky J0
 split
 ·simp only [Aj.w,K1]
 rfl
theorem B78 {r:A9}:(Jx w r).w=w.w+1:=by
 unfold Jx Q8 J0 kept
 split
 ·simp only [Aj.w,K1,Dn,Jb];omega
 simp only [Aj.w,Dn,Jb];omega
theorem B8u {p:Cs}:(At c p).1.w≤c.w+4:=by
 have work:∀w,(Fy c w).1.w≤c.w+4:=fun w=>by
  unfold Fy
  split
  ·rename_i h
   have h1:=N9 (w:=(Nc c.az (A8 c w)).1) h.2;have h2:=C7p (g:=c.az) (w:=A8 c w)
   simp only
   omega
  simp
 have input:∀w,(Ey c w).1.w≤c.w+4:=fun w=>by
  unfold Ey
  split
  ·rename_i h
   have h1:=N9 (w:=(Hu c.az (A8 c w)).1) h.2;have h2:=B6f (g:=c.az) (w:=A8 c w)
   simp only
   omega
  simp
 have move:∀w,(D4 c w).1.w≤c.w+4:=fun w=>by
  unfold D4
  split
  ·rename_i h
   obtain ⟨hW,hs⟩:=h;have hu:(El (A8 c w)).w+1=(A8 c w).w:=by simp only [El,Aj.w,Gm];omega
   split
   ·have h1:=N9 (w:=kept (El (A8 c w)) (B2 c w)) hW.2
    have h2:(kept (El (A8 c w)) (B2 c w)).w=(El (A8 c w)).w+1:=by simp only [kept,Aj.w,Dn,Jb];omega
    simp only
    omega
   split
   ·have hb:0≤w∧w<c.az.aq:=by have:=hW.1.1.2.1;exact ⟨hW.2.1,by have:=hW.2.2;omega⟩
    have h1:=A7c (l:=(Da (Bd c (Ap c w (Az c w))) (B2 c w)).1) (Qf hW.1 hb (B0i hW hs)).1;have h2:=N9 (c:=Ds c (Ap c w (Az c w)) (Da (Bd c (Ap c w (Az c w))) (B2 c w)).1) (w:=Ky (El (A8 c w)) (B2 c w).af.am) hW.2
    have h3:(Da (Bd c (Ap c w (Az c w))) (B2 c w)).1.w≤(Bd c (Ap c w (Az c w))).w+1:=by
     unfold Da
     split
     ·simp [D8.w]
     simp
    have h4:(A8 (Ds c (Ap c w (Az c w)) (Da (Bd c (Ap c w (Az c w))) (B2 c w)).1) w).w=(A8 c w).w:=rfl;rw [B8g] at h2
    simp only
    omega
   simp
  simp
 have take:∀f t,(Ek c f t).1.w≤c.w+4:=fun f t=>by
  unfold Ek
  split
  ·rename_i h
   obtain ⟨hL,hk⟩:=h;have ht:0≤t∧t<c.aq.length:=by have:=hL.1.1.2.1;have:=hL.2.2.2;omega
   have h1:=A7c (l:=(Bq (Bd c (Ap c f t))).1) (Qf hL.1 hL.2.2.1 hL.2.2.2).1;have h2:=N9 (c:=Ds c (Ap c f t) (Bq (Bd c (Ap c f t))).1) (w:=Jx (A8 c t) (Bq (Bd c (Ap c f t))).2.1) ht
   have h3:(Bq (Bd c (Ap c f t))).1.w≤(Bd c (Ap c f t)).w:=by
    unfold Bq
    split
    ·simp [D8.w]
    simp
   have h4:(A8 (Ds c (Ap c f t) (Bq (Bd c (Ap c f t))).1) t).w=(A8 c t).w:=rfl;rw [B78] at h2
   simp only
   omega
  simp
 have credit:∀f t,(F5 c f t).1.w≤c.w+4:=fun f t=>by
  unfold F5
  split
  ·rename_i hL
   have h1:=A7c (l:=(Eg (Bd c (Ap c f t))).1) (Qf hL.1 hL.2.2.1 hL.2.2.2).1
   have h3:(Eg (Bd c (Ap c f t))).1.w=(Bd c (Ap c f t)).w:=by
    unfold Eg
    split<;>simp [D8.w]
   simp only
   omega
  simp
 have tok:∀e,(Dc c e).1.w≤c.w+4:=fun e=>by
  unfold Dc
  split
  ·rename_i hT
   obtain ⟨hC,he,hD,hP⟩:=hT;have hTP:Uz c.az.aq (A5 c e):=hC.2.2.2.1 _ (Am (d:=default) (show e.toNat<c.ar.length by have:=hC.1.2.2.2;omega))
   have hn1:=hC.1.1.2.1;have hwl:=hC.1.2.1;have hat:0≤(A5 c e).aj∧(A5 c e).aj<c.aq.length:=by have:=hTP.1;omega
   have hwh:(Kf (A8 c (A5 c e).aj) e).w=(A8 c (A5 c e).aj).w:=by simp only [Kf,Aj.w,K1]
   simp only
   split
   ·have h1:=N9 (c:=Gu c e ⟨true,(c.aq.length:Int)-1,0,false,(A8 c (A5 c e).aj).ao.getD e.toNat default⟩) (w:=Kf (A8 c (A5 c e).aj) e) hat
    rw [A0v,hwh] at h1;have h2:(A8 (Gu c e ⟨true,(c.aq.length:Int)-1,0,false,(A8 c (A5 c e).aj).ao.getD e.toNat default⟩) (A5 c e).aj).w=(A8 c (A5 c e).aj).w:=rfl
    simp only
    omega
   split
   ·split
    ·have h1:=N9 (c:=Gu c e ⟨(A5 c e).bj,(A5 c e).aj-1,(A5 c e).sum+(A8 c (A5 c e).aj).ai.getD e.toNat default,(A5 c e).ah||(A8 c (A5 c e).aj).ah.getD e.toNat default,(A5 c e).ae||(A8 c (A5 c e).aj).ao.getD e.toNat default⟩) (w:=Kf (A8 c (A5 c e).aj) e) hat
     rw [A0v,hwh] at h1;have h2:(A8 (Gu c e ⟨(A5 c e).bj,(A5 c e).aj-1,(A5 c e).sum+(A8 c (A5 c e).aj).ai.getD e.toNat default,(A5 c e).ah||(A8 c (A5 c e).aj).ah.getD e.toNat default,(A5 c e).ae||(A8 c (A5 c e).aj).ao.getD e.toNat default⟩) (A5 c e).aj).w=(A8 c (A5 c e).aj).w:=rfl
     simp only
     omega
    simp
   rename_i hg ha
   have hA:(A5 c e).aj=0:=by have:=hTP.1;omega
   unfold Ll
   split
   ·have h1:=N9 (c:=Gu c e ⟨false,(A5 c e).aj,(A5 c e).sum,(A5 c e).ah,(A5 c e).ae⟩) (j:=0) (w:=Jq (A8 c (A5 c e).aj) ⟨e,(A5 c e).ae||(A8 c (A5 c e).aj).ao.getD e.toNat default⟩) (by have:(Gu c e ⟨false,(A5 c e).aj,(A5 c e).sum,(A5 c e).ah,(A5 c e).ae⟩).aq.length=c.aq.length:=rfl;omega)
    rw [A0v] at h1;have h2:(A8 (Gu c e ⟨false,(A5 c e).aj,(A5 c e).sum,(A5 c e).ah,(A5 c e).ae⟩) 0).w=(A8 c (A5 c e).aj).w:=by rw [hA];rfl
    have h3:(Jq (A8 c (A5 c e).aj) ⟨e,(A5 c e).ae||(A8 c (A5 c e).aj).ao.getD e.toNat default⟩).w=(A8 c (A5 c e).aj).w+1:=by simp only [Jq,Aj.w,Dn,Jb];omega
    have h4:∀(x:A3) l,(A3y x l).w=x.w+l.length:=fun x l=>by simp only [A3y,A3.w,Dn];omega
    rw [h4]
    have h5:(Qi e ((A5 c e).ae||(A8 c (A5 c e).aj).ao.getD e.toNat default) ((Gu c e ⟨false,(A5 c e).aj,(A5 c e).sum,(A5 c e).ah,(A5 c e).ae⟩).aq.length-1)).length≤3:=by
     have:(Gu c e ⟨false,(A5 c e).aj,(A5 c e).sum,(A5 c e).ah,(A5 c e).ae⟩).aq.length=c.aq.length:=rfl
     rw [this];simp only [Qi,Oy,Wc];omega
    omega
   rw [A0v];omega
  simp
 have hear:∀w,(Fj c w).1.w≤c.w+4:=fun w=>by
  unfold Fj
  split
  ·rename_i hn
   obtain ⟨m1,m2⟩:=B0j hn.1 hn.2;have hN:=hn.1.2.2.2.2 _ m1;have hw:0≤w∧w<c.aq.length:=by have:=hn.1.1.2.1;have:=hN.1;omega
   have h0:(Vf c w).w≤c.w:=by
    have:=List.length_eraseIdx_le c.au (P6 c w)
    simp only [Vf,A3.w];omega
   split
   ·simp only;omega
   have h1:=N9 (c:=Vf c w) (w:=Jq (A8 c w) ⟨(Gd c w).am,(Gd c w).ae⟩) hw;have h2:(A8 (Vf c w) w).w=(A8 c w).w:=rfl;have h3:(Jq (A8 c w) ⟨(Gd c w).am,(Gd c w).ae⟩).w=(A8 c w).w+1:=by simp only [Jq,Aj.w,Dn,Jb];omega
   simp only
   omega
  simp
 unfold At
 split
 ·exact work _
 split
 ·exact input _
 split
 ·exact move _
 split
 ·exact take _ _
 split
 ·exact credit _ _
 split
 ·exact tok _
 split
 ·exact hear _
 simp
theorem B1t (h:B1 c):Nj c:=fun l hl=>by
 obtain ⟨i,hi,rfl⟩:=Po hl
 have:=(h.2.2.1 i hi).1.1
 have e:c.ak.getD i default=c.ak[i]:=by simp [List.getD,hi]
 rw [e] at this;simp only [A4e] at this;omega
variable {c : A3}
theorem B0r {p:Cs}(h:¬ B1 c):At c p=(c,false):=by
 unfold At
 repeat' split
 ·unfold Fy;rw [Ab (fun q=>h q.1)]
 ·unfold Ey;rw [Ab (fun q=>h q.1)]
 ·unfold D4;rw [Ab (fun q=>h q.1.1)]
 ·unfold Ek;rw [Ab (fun q=>h q.1.1)]
 ·unfold F5;rw [Ab (fun q=>h q.1)]
 ·exact Ua (fun q=>h q.1)
 ·unfold Fj;rw [Ab (fun q=>h q.1)]
 rfl
theorem Mc {d:A3}(h:d.ak=c.ak)(hg:Nj c):Nj d:=fun l hl=>hg l (h▸hl)
theorem A3v (c:A3)(e:Int):(Dc c e).1.ak=c.ak:=by
 unfold Dc
 dsimp only
 repeat' split
 all_goals first
  |rfl
  |(unfold Ll;split<;>rfl)
theorem C14 {p:Cs}(hg:Nj c):Nj (At c p).1:=by
 by_cases h:B1 c
 ·unfold At
  split
  ·unfold Fy;split<;>exact Mc rfl hg
  split
  ·unfold Ey;split<;>exact Mc rfl hg
  split
  ·unfold D4
   split
   ·rename_i hM
    split
    ·exact Mc rfl hg
    rename_i hne
    split
    ·refine Mc ?_ (B1t (A6a hM.1 hM.2 hne))
     rfl
    exact hg
   exact hg
  split
  ·unfold Ek
   split
   ·rename_i hT
    refine Mc ?_ (B1t (A7t hT.1));rfl
   exact hg
  split
  ·exact B1t (Xz h)
  split
  ·exact Mc (A3v c p.a) hg
  split
  ·unfold Fj
   split
   ·split<;>exact Mc rfl hg
   exact hg
  exact hg
 rw [B0r h];exact hg
variable {l : List Cs}
theorem A1w {k:Nat}(hk:k<l.length):B0 c (l.take (k+1))=Jy (B0 c (l.take k)) (l.getD k default):=by
 unfold B0
 have:l.take (k+1)=l.take k++[l.getD k default]:=by
  rw [B3c hk]
  simp [List.getD,hk]
 rw [this,A8d];rfl
theorem C9w (l:List Cs):∀s:A3×List Bool,(l.foldl Jy s).1.w≤s.1.w+4 * l.length:=by
 induction l with
 |nil=>intro s;simp
 |cons p r ih=>
  intro s;have h1:=ih (Jy s p);have h2:=B8u (c:=s.1) (p:=p);simp only [List.foldl_cons,Ep];have e:(Jy s p).1=(At s.1 p).1:=rfl;rw [e] at h1;omega
theorem Yy:(B0 c l).1.w≤c.w+4 * l.length:=C9w l (c,[])
theorem C2z (l:List Cs):∀s:A3×List Bool,Nj s.1→Nj (l.foldl Jy s).1:=by
 induction l with
 |nil=>intro s h;exact h
 |cons p r ih=>intro s h;exact ih (Jy s p) (C14 h)
theorem A67 (h:Nj c):Nj (B0 c l).1:=C2z l (c,[]) h
theorem C20 (l:List Cs):∀s:A3×List Bool,(l.foldl Jy s).2.length=s.2.length+l.length:=by
 induction l with
 |nil=>intro s;simp
 |cons p r ih=>
  intro s;have h1:=ih (Jy s p);simp only [List.foldl_cons,Ep];rw [h1];simp only [Jy,Dn,Ep,Hi];omega
theorem W5:(B0 c l).2.length=l.length:=by
 have:=C20 l (c,[])
 simpa [B0] using this
theorem C6l (c:A3):Iv c≤4:=by
 have:=Hn c.az.aq 0 4 Bk
 unfold Iv;omega
theorem Zg (c:A3):(R2 (Iv c)).length≤44:=by
 have h:=C6l c;have e:Iv c=0∨Iv c=1∨Iv c=2∨Iv c=3∨Iv c=4:=by omega
 rcases e with e|e|e|e|e<;>rw [e]<;>decide
theorem B98:(Ck c).1.w≤c.w+176:=by
 have h1:=Yy (c:=c) (l:=R2 (Iv c));have h2:=Zg c
 show (B0 c (R2 (Iv c))).1.w≤_
 omega
theorem C2x (h:Nj c):Nj (Ck c).1:=A67 h
def Pg (c:A3):Nat→A3
 | 0=>c
 |k+1=>(Ck (Pg c k)).1
theorem D0j (c:A3)(k:Nat):(Pg c k).w≤c.w+176 * k:=by
 induction k with
 |zero=>simp [Pg]
 |succ k ih=>
  have:=B98 (c:=Pg c k)
  simp only [Pg];omega
theorem C8n (h:Nj c)(k:Nat):Nj (Pg c k):=by
 induction k with
 |zero=>exact h
 |succ k ih=>exact C2x ih
theorem B0b (c:A3)(k:Nat):Pg (Ck c).1 k=Pg c (k+1):=by
 induction k with
 |zero=>rfl
 |succ k ih=>simp only [Pg] at ih ⊢;rw [ih]
theorem A47 (k:Nat):∀(n:Nat) (c:A3),k≤n→(∀i,i<k→(Ck (Pg c i)).2≠0)→H0 n c=((H0 (n-k) (Pg c k)).1,(H0 (n-k) (Pg c k)).2+k):=by
 induction k with
 |zero=>intro n c _ _;simp [Pg]
 |succ k ih=>
  intro n c hk h;obtain ⟨m,rfl⟩:∃m,n=m+1:=⟨n-1,by omega⟩;have h0:(Ck c).2≠0:=h 0 A7;have h1:=ih m (Ck c).1 A7 (fun i hi=>by rw [B0b];exact h (i+1) A7);rw [B0b] at h1;rw [H0,Ab h0,h1,show m+1-(k+1)=m-k by omega]
  rfl
theorem Zs {n k:Nat}(hk:k<n)(h:∀i,i<k→(Ck (Pg c i)).2≠0)(h0:(Ck (Pg c k)).2=0):H0 n c=(Pg c (k+1),k+1):=by
 rw [A47 k n c A7 h];obtain ⟨m,hm⟩:∃m,n-k=m+1:=⟨n-k-1,by omega⟩;rw [hm,H0,Ah h0];simp only [Pg]
 congr 1
 omega
theorem Zr {n:Nat}(h:∀i,i<n→(Ck (Pg c i)).2≠0):H0 n c=(Pg c n,n):=by
 rw [A47 n n c (Bu _) h,Nat.sub_self]
 simp [H0]
theorem C1z (n:Nat):∀c:A3,(H0 n c).1.w≤c.w+176 * n:=by
 induction n with
 |zero=>intro c;exact Bu _
 |succ n ih=>
  intro c;have h1:=B98 (c:=c);rw [H0]
  split
  ·show (Ck c).1.w≤_
   omega
  have h2:=ih (Ck c).1
  show (H0 n (Ck c).1).1.w≤_
  omega
end Go.Proofs.YtmhcebdkjgkmlaaGreatDoor
