/- Part 27 of the proof that each of the laws FnConsole returns true for every input. No conditions. -/
import Derived.Test.YtmhcebdkjgkmlaaGreatDoorQ26
import Derived.Test.YtmhcebdkjgkmlaaGreatDoorQ24

set_option linter.unusedSimpArgs false
set_option linter.unusedVariables false
set_option maxRecDepth 100000
namespace Go.Proofs.YtmhcebdkjgkmlaaGreatDoor
open Go.Sx
theorem B4u {α:Type} [Inhabited α] (f:α→Nat):∀(l:List α) (j:Nat) (x:α),j<l.length→((l.set j x).map f).sum+f (l.getD j default)=(l.map f).sum+f x
 | [],_,_,h=>absurd h (L4 _)
 |y::r,0,x,_=>by simp;omega
 |y::r,j+1,x,h=>by
  have:=B4u f r j x (by simpa using h)
  simp only [List.set_cons_succ,I1,Ux,List.getD_cons_succ];omega
variable {c : A3} {w : Ae}
theorem Nj {j:Int}(h:0≤j∧j<c.aq.length):(Be c j w).w+(A8 c j).w=c.w+w.w:=by
 have:=B4u Ae.w c.aq j.toNat w A7
 simp only [Be,A3.w,wS,K0,A8];omega
theorem A8s {k:Int}{l:D5}(h:0≤k∧k<c.ay.length):(Dd c k l).w+(Bg c k).w=c.w+l.w:=by
 have:=B4u D5.w c.ay k.toNat l A7
 simp only [Dd,A3.w,wS,K0,Bg];omega
theorem A12 {e:Int}{t:Gg}:(G5 c e t).w=c.w:=by simp only [G5,A3.w,K0]
theorem C82 {g:B0}:(Me g w).1.w≤w.w+2:=by
 unfold Me
 split
 ·rename_i h
  have h1:=C0m (g:=g) (cs:=w.cells) (r:=w.ar.getD 0 default);have h2:=B74 (g:=g) (cs:=w.cells) (r:=w.ar.getD 0 default);have h3:=h.2.2.2;have h4:(if ao g (w.ar.getD 0 default)=true then w.ai.set (w.ar.getD 0 default).af.ab.toNat true else w.ai).length=w.ai.length:=by split<;>simp
  simp only [Pb,Ae.w,Ge,h4];omega
 simp
theorem B78 {g:B0}:(H9 g w).1.w≤w.w:=by
 unfold H9
 split
 ·rename_i h
  have:=h.2.2.2.2
  simp only [Q7,Ae.w,D3,Lx,Ge];omega
 simp
theorem C0a {e:Int}:(Jz w e).w=w.w:=by
 unfold Jz Iv
 split
 ·simp only [Ae.w,K0]
 rfl
theorem B95 {r:Aa}:(Im w r).w=w.w+1:=by
 unfold Im Q9 Iv kept
 split
 ·simp only [Ae.w,K0,D3,Lx];omega
 simp only [Ae.w,D3,Lx];omega
theorem C0p {p:Do}:(Ap c p).1.w≤c.w+4:=by
 have work:∀w,(Fy c w).1.w≤c.w+4:=fun w=>by
  unfold Fy
  split
  ·rename_i h
   have h1:=Nj (w:=(Me c.az (A8 c w)).1) h.2;have h2:=C82 (g:=c.az) (w:=A8 c w)
   simp only
   omega
  simp
 have input:∀w,(Ez c w).1.w≤c.w+4:=fun w=>by
  unfold Ez
  split
  ·rename_i h
   have h1:=Nj (w:=(H9 c.az (A8 c w)).1) h.2;have h2:=B78 (g:=c.az) (w:=A8 c w)
   simp only
   omega
  simp
 have move:∀w,(Ck c w).1.w≤c.w+4:=fun w=>by
  unfold Ck
  split
  ·rename_i h
   obtain ⟨hW,hs⟩:=h;have hu:(Ew (A8 c w)).w+1=(A8 c w).w:=by simp only [Ew,Ae.w,Ge];omega
   split
   ·have h1:=Nj (w:=kept (Ew (A8 c w)) (B2 c w)) hW.2
    have h2:(kept (Ew (A8 c w)) (B2 c w)).w=(Ew (A8 c w)).w+1:=by simp only [kept,Ae.w,D3,Lx];omega
    simp only
    omega
   split
   ·have hb:0≤w∧w<c.az.aq:=by have:=hW.1.1.2.1;exact ⟨hW.2.1,by have:=hW.2.2;omega⟩
    have h1:=A8s (l:=(D8 (Bg c (Ar c w (B1 c w))) (B2 c w)).1) (Qf hW.1 hb (B10 hW hs)).1;have h2:=Nj (c:=Dd c (Ar c w (B1 c w)) (D8 (Bg c (Ar c w (B1 c w))) (B2 c w)).1) (w:=Jz (Ew (A8 c w)) (B2 c w).af.ab) hW.2
    have h3:(D8 (Bg c (Ar c w (B1 c w))) (B2 c w)).1.w≤(Bg c (Ar c w (B1 c w))).w+1:=by
     unfold D8
     split
     ·simp [D5.w]
     simp
    have h4:(A8 (Dd c (Ar c w (B1 c w)) (D8 (Bg c (Ar c w (B1 c w))) (B2 c w)).1) w).w=(A8 c w).w:=rfl;rw [C0a] at h2
    simp only
    omega
   simp
  simp
 have take:∀f t,(E9 c f t).1.w≤c.w+4:=fun f t=>by
  unfold E9
  split
  ·rename_i h
   obtain ⟨hL,hk⟩:=h;have ht:0≤t∧t<c.aq.length:=by have:=hL.1.1.2.1;have:=hL.2.2.2;omega
   have h1:=A8s (l:=(Bp (Bg c (Ar c f t))).1) (Qf hL.1 hL.2.2.1 hL.2.2.2).1;have h2:=Nj (c:=Dd c (Ar c f t) (Bp (Bg c (Ar c f t))).1) (w:=Im (A8 c t) (Bp (Bg c (Ar c f t))).2.1) ht
   have h3:(Bp (Bg c (Ar c f t))).1.w≤(Bg c (Ar c f t)).w:=by
    unfold Bp
    split
    ·simp [D5.w]
    simp
   have h4:(A8 (Dd c (Ar c f t) (Bp (Bg c (Ar c f t))).1) t).w=(A8 c t).w:=rfl;rw [B95] at h2
   simp only
   omega
  simp
 have credit:∀f t,(F6 c f t).1.w≤c.w+4:=fun f t=>by
  unfold F6
  split
  ·rename_i hL
   have h1:=A8s (l:=(Et (Bg c (Ar c f t))).1) (Qf hL.1 hL.2.2.1 hL.2.2.2).1
   have h3:(Et (Bg c (Ar c f t))).1.w=(Bg c (Ar c f t)).w:=by
    unfold Et
    split<;>simp [D5.w]
   simp only
   omega
  simp
 have tok:∀e,(D0 c e).1.w≤c.w+4:=fun e=>by
  unfold D0
  split
  ·rename_i hT
   obtain ⟨hC,he,hD,hP⟩:=hT;have hTP:Qw c.az.aq (A4 c e):=hC.2.2.2.1 _ (Al (d:=default) (show e.toNat<c.ap.length by have:=hC.1.2.2.2;omega))
   have hn1:=hC.1.1.2.1;have hwl:=hC.1.2.1;have hat:0≤(A4 c e).aj∧(A4 c e).aj<c.aq.length:=by have:=hTP.1;omega
   have hwh:(Kc (A8 c (A4 c e).aj) e).w=(A8 c (A4 c e).aj).w:=by simp only [Kc,Ae.w,K0]
   simp only
   split
   ·have h1:=Nj (c:=G5 c e ⟨true,(c.aq.length:Int)-1,0,false,(A8 c (A4 c e).aj).ai.getD e.toNat default⟩) (w:=Kc (A8 c (A4 c e).aj) e) hat
    rw [A12,hwh] at h1;have h2:(A8 (G5 c e ⟨true,(c.aq.length:Int)-1,0,false,(A8 c (A4 c e).aj).ai.getD e.toNat default⟩) (A4 c e).aj).w=(A8 c (A4 c e).aj).w:=rfl
    simp only
    omega
   split
   ·split
    ·have h1:=Nj (c:=G5 c e ⟨(A4 c e).bz,(A4 c e).aj-1,(A4 c e).sum+(A8 c (A4 c e).aj).al.getD e.toNat default,(A4 c e).ah||(A8 c (A4 c e).aj).ah.getD e.toNat default,(A4 c e).ao||(A8 c (A4 c e).aj).ai.getD e.toNat default⟩) (w:=Kc (A8 c (A4 c e).aj) e) hat
     rw [A12,hwh] at h1;have h2:(A8 (G5 c e ⟨(A4 c e).bz,(A4 c e).aj-1,(A4 c e).sum+(A8 c (A4 c e).aj).al.getD e.toNat default,(A4 c e).ah||(A8 c (A4 c e).aj).ah.getD e.toNat default,(A4 c e).ao||(A8 c (A4 c e).aj).ai.getD e.toNat default⟩) (A4 c e).aj).w=(A8 c (A4 c e).aj).w:=rfl
     simp only
     omega
    simp
   rename_i hg ha
   have hA:(A4 c e).aj=0:=by have:=hTP.1;omega
   unfold Kz
   split
   ·have h1:=Nj (c:=G5 c e ⟨false,(A4 c e).aj,(A4 c e).sum,(A4 c e).ah,(A4 c e).ao⟩) (j:=0) (w:=Jw (A8 c (A4 c e).aj) ⟨e,(A4 c e).ao||(A8 c (A4 c e).aj).ai.getD e.toNat default⟩) (by have:(G5 c e ⟨false,(A4 c e).aj,(A4 c e).sum,(A4 c e).ah,(A4 c e).ao⟩).aq.length=c.aq.length:=rfl;omega)
    rw [A12] at h1;have h2:(A8 (G5 c e ⟨false,(A4 c e).aj,(A4 c e).sum,(A4 c e).ah,(A4 c e).ao⟩) 0).w=(A8 c (A4 c e).aj).w:=by rw [hA];rfl
    have h3:(Jw (A8 c (A4 c e).aj) ⟨e,(A4 c e).ao||(A8 c (A4 c e).aj).ai.getD e.toNat default⟩).w=(A8 c (A4 c e).aj).w+1:=by simp only [Jw,Ae.w,D3,Lx];omega
    have h4:∀(x:A3) l,(A5g x l).w=x.w+l.length:=fun x l=>by simp only [A5g,A3.w,D3];omega
    rw [h4]
    have h5:(Qi e ((A4 c e).ao||(A8 c (A4 c e).aj).ai.getD e.toNat default) ((G5 c e ⟨false,(A4 c e).aj,(A4 c e).sum,(A4 c e).ah,(A4 c e).ao⟩).aq.length-1)).length≤3:=by
     have:(G5 c e ⟨false,(A4 c e).aj,(A4 c e).sum,(A4 c e).ah,(A4 c e).ao⟩).aq.length=c.aq.length:=rfl
     rw [this];simp only [Qi,Jd,Rx];omega
    omega
   rw [A12];omega
  simp
 have hear:∀w,(Fv c w).1.w≤c.w+4:=fun w=>by
  unfold Fv
  split
  ·rename_i hn
   obtain ⟨m1,m2⟩:=B11 hn.1 hn.2;have hN:=hn.1.2.2.2.2 _ m1;have hw:0≤w∧w<c.aq.length:=by have:=hn.1.1.2.1;have:=hN.1;omega
   have h0:(V0 c w).w≤c.w:=by
    have:=List.length_eraseIdx_le c.ac (P7 c w)
    simp only [V0,A3.w];omega
   split
   ·simp only;omega
   have h1:=Nj (c:=V0 c w) (w:=Jw (A8 c w) ⟨(Ga c w).ab,(Ga c w).ao⟩) hw;have h2:(A8 (V0 c w) w).w=(A8 c w).w:=rfl;have h3:(Jw (A8 c w) ⟨(Ga c w).ab,(Ga c w).ao⟩).w=(A8 c w).w+1:=by simp only [Jw,Ae.w,D3,Lx];omega
   simp only
   omega
  simp
 unfold Ap
 split
 ·exact work _
 split
 ·exact input _
 split
 ·exact move _
 split
 ·exact take _ _
 split
 ·exact credit _ _
 split
 ·exact tok _
 split
 ·exact hear _
 simp
theorem B3a (h:Ax c):M6 c:=fun l hl=>by
 obtain ⟨i,hi,rfl⟩:=S4 hl
 have:=(h.2.2.1 i hi).1.1
 have e:c.ay.getD i default=c.ay[i]:=by simp [List.getD,hi]
 rw [e] at this;simp only [A5y] at this;omega
variable {c : A3}
theorem Xo {p:Do}(h:¬ Ax c):Ap c p=(c,false):=by
 unfold Ap
 repeat' split
 ·unfold Fy;rw [Ab (fun q=>h q.1)]
 ·unfold Ez;rw [Ab (fun q=>h q.1)]
 ·unfold Ck;rw [Ab (fun q=>h q.1.1)]
 ·unfold E9;rw [Ab (fun q=>h q.1.1)]
 ·unfold F6;rw [Ab (fun q=>h q.1)]
 ·exact Uo (fun q=>h q.1)
 ·unfold Fv;rw [Ab (fun q=>h q.1)]
 rfl
theorem Mb {d:A3}(h:d.ay=c.ay)(hg:M6 c):M6 d:=fun l hl=>hg l (h▸hl)
theorem A5b (c:A3)(e:Int):(D0 c e).1.ay=c.ay:=by
 unfold D0
 dsimp only
 repeat' split
 all_goals first
  |rfl
  |(unfold Kz;split<;>rfl)
theorem C3t {p:Do}(hg:M6 c):M6 (Ap c p).1:=by
 by_cases h:Ax c
 ·unfold Ap
  split
  ·unfold Fy;split<;>exact Mb rfl hg
  split
  ·unfold Ez;split<;>exact Mb rfl hg
  split
  ·unfold Ck
   split
   ·rename_i hM
    split
    ·exact Mb rfl hg
    rename_i hne
    split
    ·refine Mb ?_ (B3a (Zj hM.1 hM.2 hne))
     rfl
    exact hg
   exact hg
  split
  ·unfold E9
   split
   ·rename_i hT
    refine Mb ?_ (B3a (Zy hT.1));rfl
   exact hg
  split
  ·exact B3a (Yi h)
  split
  ·exact Mb (A5b c p.a) hg
  split
  ·unfold Fv
   split
   ·split<;>exact Mb rfl hg
   exact hg
  exact hg
 rw [Xo h];exact hg
variable {l : List Do}
theorem A27 {k:Nat}(hk:k<l.length):Ay c (l.take (k+1))=J9 (Ay c (l.take k)) (l.getD k default):=by
 unfold Ay
 have:l.take (k+1)=l.take k++[l.getD k default]:=by
  rw [A3p hk]
  simp [List.getD,hk]
 rw [this,A3l];rfl
theorem D03 (l:List Do):∀s:A3×List Bool,(l.foldl J9 s).1.w≤s.1.w+4 * l.length:=by
 induction l with
 |nil=>intro s;simp
 |cons p r ih=>
  intro s;have h1:=ih (J9 s p);have h2:=C0p (c:=s.1) (p:=p);simp only [A0i,Fb];have e:(J9 s p).1=(Ap s.1 p).1:=rfl;rw [e] at h1;omega
theorem Zr:(Ay c l).1.w≤c.w+4 * l.length:=D03 l (c,[])
theorem C4k (l:List Do):∀s:A3×List Bool,M6 s.1→M6 (l.foldl J9 s).1:=by
 induction l with
 |nil=>intro s h;exact h
 |cons p r ih=>intro s h;exact ih (J9 s p) (C3t h)
theorem A10 (h:M6 c):M6 (Ay c l).1:=C4k l (c,[]) h
theorem C4l (l:List Do):∀s:A3×List Bool,(l.foldl J9 s).2.length=s.2.length+l.length:=by
 induction l with
 |nil=>intro s;simp
 |cons p r ih=>
  intro s;have h1:=ih (J9 s p);simp only [A0i,Fb];rw [h1];simp only [J9,D3,Fb,H3];omega
theorem Wm:(Ay c l).2.length=l.length:=by
 have:=C4l l (c,[])
 simpa [Ay] using this
theorem C7z (c:A3):Iw c≤4:=by
 have:=G2 c.az.aq 0 4 Bq
 unfold Iw;omega
theorem A0t (c:A3):(Qy (Iw c)).length≤44:=by
 have h:=C7z c;have e:Iw c=0∨Iw c=1∨Iw c=2∨Iw c=3∨Iw c=4:=by omega
 rcases e with e|e|e|e|e<;>rw [e]<;>decide
theorem C12:(Ca c).1.w≤c.w+176:=by
 have h1:=Zr (c:=c) (l:=Qy (Iw c));have h2:=A0t c
 show (Ay c (Qy (Iw c))).1.w≤_
 omega
theorem A26 (h:M6 c):M6 (Ca c).1:=A10 h
def Pg (c:A3):Nat→A3
 | 0=>c
 |k+1=>(Ca (Pg c k)).1
theorem D1m (c:A3)(k:Nat):(Pg c k).w≤c.w+176 * k:=by
 induction k with
 |zero=>simp [Pg]
 |succ k ih=>
  have:=C12 (c:=Pg c k)
  simp only [Pg];omega
theorem C9x (h:M6 c)(k:Nat):M6 (Pg c k):=by
 induction k with
 |zero=>exact h
 |succ k ih=>exact A26 ih
theorem B1o (c:A3)(k:Nat):Pg (Ca c).1 k=Pg c (k+1):=by
 induction k with
 |zero=>rfl
 |succ k ih=>simp only [Pg] at ih ⊢;rw [ih]
theorem A6u (k:Nat):∀(n:Nat) (c:A3),k≤n→(∀i,i<k→(Ca (Pg c i)).2≠0)→Eb n c=((Eb (n-k) (Pg c k)).1,(Eb (n-k) (Pg c k)).2+k):=by
 induction k with
 |zero=>intro n c _ _;simp [Pg]
 |succ k ih=>
  intro n c hk h;obtain ⟨m,rfl⟩:∃m,n=m+1:=⟨n-1,by omega⟩;have h0:(Ca c).2≠0:=h 0 A7;have h1:=ih m (Ca c).1 A7 (fun i hi=>by rw [B1o];exact h (i+1) A7);rw [B1o] at h1;rw [Eb,Ab h0,h1,show m+1-(k+1)=m-k by omega]
  rfl
theorem A03 {n k:Nat}(hk:k<n)(h:∀i,i<k→(Ca (Pg c i)).2≠0)(h0:(Ca (Pg c k)).2=0):Eb n c=(Pg c (k+1),k+1):=by
 rw [A6u k n c A7 h];obtain ⟨m,hm⟩:∃m,n-k=m+1:=⟨n-k-1,by omega⟩;rw [hm,Eb,Ak h0];simp only [Pg]
 congr 1
 omega
theorem A02 {n:Nat}(h:∀i,i<n→(Ca (Pg c i)).2≠0):Eb n c=(Pg c n,n):=by
 rw [A6u n n c (Ds _) h,Nat.sub_self]
 simp [Eb]
theorem C0f (x:A3)(w:Int)(h:x.w≤16000000):MtR (fun _=>True) 238 [] (rc x) [.one (vi w)] (fun _:Unit=>True) (fun _=>rc x) (fun _=>[.one (vb (decide (I6 x w)))]):=by
 have hwl:=A3.workers_le h;refine zeP Tryz.func238 fun B b hH hp=>?_;refine C1 (fun h1=>?_) fun h1=>?_
 ·have h1:Ax x:=Bn (show Au x=true from h1)
  refine As ?_;refine Aq (Hg w 0 (x.aq.length-1)) rfl (Gu ?_);rw [show E4 w 0 (x.aq.length-1)=decide (I6 x w) by rw [S3,Go.Sx.Cl,Np];exact ⟨fun p=>⟨h1,by omega,by omega⟩,fun p=>⟨p.2.1,by have:=p.2.2;omega⟩⟩]
  exact Jf () trivial
 refine As ?_;rw [show decide (I6 x w)=false from Cd fun p=>absurd p.1 (Cv (show Au x=false from h1))]
 exact Jf () trivial
set_option maxHeartbeats 4000000 in
theorem C18 (x:A3)(ok:Bool)(w e n:Int)(h0:0≤w)(hk:w.toNat<x.aq.length)(he:0≤e)(hke:e.toNat<(A8 x w).al.length)(hs:Jk ((A8 x w).al.getD e.toNat default))(hn: -1≤n∧n≤1):
  MtR (fun _=>True) 243 [] (rcb x ok) [.one (vi w),.one (vi e),.one (vi n)] (fun _:Unit=>True) (fun _=>rcb (Be x w (Iv (A8 x w) e n)) (ok&&E4 ((A8 x w).al.getD e.toNat default+n) (-1000000) 1000000)) (fun _=>[]):=by
 obtain ⟨s1,s2⟩:=hs;have hke2:e.toNat<(x.aq.getD w.toNat default).al.length:=hke;have hg:(x.aq.getD w.toNat default).al.getD e.toNat default=(A8 x w).al.getD e.toNat default:=rfl;refine zeP Tryz.func243 fun B b hH hp=>?_
 first|(refine Aj 0 rfl [0,1,2,3,4,5,6,7,8,9,10,11,12,13,14,15,16,17,18,19,20,21,22,23,24,25] Am (Ah ?_))
 refine B4 ?_;refine M9 A0 rfl (jn:=w.toNat) rfl rfl (fun v=>go A0 false ?_);conv=>whnf
 refine B4 ?_;refine N8 A0 rfl (Cu _ _ _) rfl (Ah ?_);refine Hk 26 6 rfl (Em ?_);refine Bi (j:=e) A0 rfl (Cn ((x.aq.getD w.toNat default).al.set e.toNat ((x.aq.getD w.toNat default).al.getD e.toNat default+n))) (Cm hke2 rfl) (Ah ?_)
 cases ok
 ·refine As ?_
  refine Rt 2 (w.toNat) [(4,6)] (Af (x.aq.set w.toNat (Iv (A8 x w) e n))) hk rfl rfl S7 rfl (Hx hk rfl) (It ?_);conv=>whnf
  exact D15 (Mw A0 () trivial rfl rfl rfl rfl J0)
 refine As ?_;refine N8 A0 rfl (Cu _ _ _) rfl (Gu ?_);refine Hk 47 6 rfl (Gu ?_);refine ⟨by (rw [K0];show _∧_;omega),?_⟩
 conv=>whnf
 refine As ?_;refine Aq (Hg (((x.aq.getD w.toNat default).al.set e.toNat ((x.aq.getD w.toNat default).al.getD e.toNat default+n)).getD e.toNat default) (-1000000) 1000000) rfl (Gu ?_);rw [Sx.getD_set_self _ _ _ _ hke2];refine Rt 2 (w.toNat) [(4,6)] (Af (x.aq.set w.toNat (Iv (A8 x w) e n))) hk rfl rfl S7 rfl (Hx hk rfl) (It ?_);conv=>whnf
 exact D15 (Mw A0 () trivial rfl rfl rfl rfl J0)
variable {w : Int}
theorem A4u {x:A3}(hk:w.toNat<x.aq.length):Be x w (A8 x w)=x:=by
 have e:x.aq.set w.toNat (x.aq.getD w.toNat default)=x.aq:=by
  apply List.ext_getElem
  ·simp
  intro i h1 h2;rw [List.getElem_set]
  split
  ·rename_i h;subst h;simp [List.getD,hk]
  rfl
 unfold Be A8;rw [e]
variable {c : A3}
theorem Yn (h:I6 c w)(hk:w.toNat<c.aq.length)(h2:¬ A3s c.az (A8 c w)):Fy c w=(c,false):=by
 rw [U8 h,A2b h2,A4u hk]
theorem Ym (h:I6 c w)(h2:A3s c.az (A8 c w)):Fy c w=(Be c w (Pb c.az (A8 c w)),true):=by
 rw [U8 h,A9d h2]
theorem Qn (h:I6 c w)(hk:w.toNat<c.aq.length)(h2:¬ Ve c.az (A8 c w)):Ez c w=(c,false):=by
 rw [Sf h,Sz h2,A4u hk]
theorem A8c (h:I6 c w)(h2:Ve c.az (A8 c w)):Ez c w=(Be c w (Q7 (A8 c w)),true):=by
 rw [Sf h,B1t h2]
set_option maxHeartbeats 8000000 in
theorem C8j (x:A3)(w:Int)(h:x.w≤16000000):MtR (fun _=>True) 184 [] (rc x) [.one (vi w)] (fun _:Unit=>True) (fun _=>rcb (Fy x w).1 (Au x)) (fun _=>[.one (vb (Fy x w).2)]):=by
 refine zeP Tryz.func184 fun B b hH hp=>?_;refine M4 (C0f x w h) hH hp fun r hr=>?_;refine C1 (fun h1=>?_) fun h1=>?_
 ·have h1:¬ I6 x w:=Cv (by simpa using h1)
  refine As ?_;rw [A4m h1];exact Jf () trivial
 have h1:I6 x w:=Bn (show decide (I6 x w)=true by simpa using h1)
 have hC:=h1.1;have hb:=h1.2;have hk:w.toNat<x.aq.length:=by omega
 have hw:=A3.worker_le h hk;have hg:=Tw h;have hWP:=hC.2.1 _ (Al (d:=default) hk);have hww:(A8 x w).w≤16000000:=by show (x.aq.getD w.toNat default).w≤_;omega
 have hlw:=Om (x.aq.getD w.toNat default);refine As ?_;refine A4k A0 rfl hk rfl (fun u=>go A0 false ?_);conv=>whnf
 refine C1 (fun h3=>?_) fun h3=>?_
 ·have h3:¬ (A8 x w).aa.length=0:=by have:=Bn h3;simp only [A8];omega
  refine As ?_;rw [Yn h1 hk (fun p=>h3 p.2.2.1)];refine Gb Tryz.prog 7 (w.toNat) [(0,11),(1,12),(2,13),(3,14),(4,15),(5,16),(6,17),(7,18)] (Af x.aq) hk rfl S7 rfl (Ct rfl) ?_;exact Jf () trivial
 have h3:(A8 x w).aa.length=0:=by have:=Cv h3;simp only [A8];omega
 refine As ?_;refine Lf (fun h4=>?_) fun h4=>?_
 ·refine As ?_
  rw [Yn h1 hk (fun p=>by have:=p.2.2.2;simp only [A8] at this;omega)];refine Gb Tryz.prog 7 (w.toNat) [(0,11),(1,12),(2,13),(3,14),(4,15),(5,16),(6,17),(7,18)] (Af x.aq) hk rfl S7 rfl (Ct rfl) ?_;exact Jf () trivial
 have h4:0<(x.aq.getD w.toNat default).ar.length:=by omega
 have hP:A3s x.az (A8 x w):=⟨hC.1.1,hWP,h3,h4⟩;have hR:=hWP.1.1 _ (Al (d:=default) h4);have hE:=hR.1.2.1;have hcl:(x.aq.getD w.toNat default).ai.length=4:=hWP.2.1.2.2;have hc:((x.aq.getD w.toNat default).ar.getD 0 default).af.ab.toNat<(x.aq.getD w.toNat default).ai.length:=by omega
 refine As ?_
 first|(refine Aj 7 rfl [0,1,2,3,4,5,6,7,8,9,10,11,12,13,14,15] Am (Ah ?_))|(refine Aj 11 rfl [0,1,2,3,4,5,6] Am (Ah ?_))|(refine Aj 13 rfl [0,1,2,3,4,5,6,7,8] Am (Ah ?_))
 refine Gf (C0h x.az (x.aq.getD w.toNat default).cells ((x.aq.getD w.toNat default).ar.getD 0 default) A7 A7) ?_;refine B4t A0 rfl (⟨by omega,by omega,by omega⟩) (A9 ((x.aq.getD w.toNat default).ar.drop 1)) (Ip (k:=1) h4) (Ah ?_);refine B6 A0 rfl (A9 ((x.aq.getD w.toNat default).ar.drop 1)) (Bs) (fun _=>J4 _) (by (rw [Ge];omega)) (Ah ?_)
 first|(refine Aj 7 rfl [0,1,2,3,4,5,6,7,8,9,10,11,12,13,14,15] Am (Ah ?_))|(refine Aj 11 rfl [0,1,2,3,4,5,6] Am (Ah ?_))|(refine Aj 13 rfl [0,1,2,3,4,5,6,7,8] Am (Ah ?_))
 refine Fp (C0d x.az ((x.aq.getD w.toNat default).ar.getD 0 default) A7) ?_;refine C1 (fun h5=>?_) fun h5=>?_
 ·have h5:ao x.az ((A8 x w).ar.getD 0 default)=true:=h5
  refine ⟨by (show 0≤((x.aq.getD w.toNat default).ar.getD 0 default).af.ab∧((x.aq.getD w.toNat default).ar.getD 0 default).af.ab<(x.aq.getD w.toNat default).ai.length;omega),?_⟩
  conv=>whnf
  refine Bi (j:=((x.aq.getD w.toNat default).ar.getD 0 default).af.ab) A0 rfl (Df ((x.aq.getD w.toNat default).ai.set ((x.aq.getD w.toNat default).ar.getD 0 default).af.ab.toNat true)) (Cm hc rfl) (Ah ?_)
  first|(refine Aj 7 rfl [0,1,2,3,4,5,6,7,8,9,10,11,12,13,14,15] Am (Ah ?_))|(refine Aj 11 rfl [0,1,2,3,4,5,6] Am (Ah ?_))|(refine Aj 13 rfl [0,1,2,3,4,5,6,7,8] Am (Ah ?_))
  refine B4 ?_;refine Bi (j:=w) A0 rfl (Af (x.aq.set w.toNat (Pb x.az (A8 x w)))) (Ht hk (by rw [Pb,Ak h5];rfl)) (Ah ?_);rw [Ym h1 hP];exact Jf () trivial
 have h5:ao x.az ((A8 x w).ar.getD 0 default)=false:=h5
 first|(refine Aj 7 rfl [0,1,2,3,4,5,6,7,8,9,10,11,12,13,14,15] Am (Ah ?_))|(refine Aj 11 rfl [0,1,2,3,4,5,6] Am (Ah ?_))|(refine Aj 13 rfl [0,1,2,3,4,5,6,7,8] Am (Ah ?_))
 refine B4 ?_;refine Bi (j:=w) A0 rfl (Af (x.aq.set w.toNat (Pb x.az (A8 x w)))) (Ht hk (by rw [Pb,Ab (by rw [h5];decide)];rfl)) (Ah ?_);rw [Ym h1 hP];exact Jf () trivial
set_option maxHeartbeats 8000000 in
theorem C4p (x:A3)(w:Int)(h:x.w≤16000000):MtR (fun _=>True) 185 [] (rc x) [.one (vi w)] (fun _:Unit=>True) (fun _=>rcb (Ez x w).1 (Au x)) (fun _=>[.one (vb (Ez x w).2)]):=by
 refine zeP Tryz.func185 fun B b hH hp=>?_;refine M4 (C0f x w h) hH hp fun r hr=>?_;refine C1 (fun h1=>?_) fun h1=>?_
 ·have h1:¬ I6 x w:=Cv (by simpa using h1)
  refine As ?_;rw [A1t h1];exact Jf () trivial
 have h1:I6 x w:=Bn (show decide (I6 x w)=true by simpa using h1)
 have hC:=h1.1;have hb:=h1.2;have hk:w.toNat<x.aq.length:=by omega
 have hw:=A3.worker_le h hk;have hg:=Tw h;have hWP:=hC.2.1 _ (Al (d:=default) hk);have hww:(A8 x w).w≤16000000:=by show (x.aq.getD w.toNat default).w≤_;omega
 have hlw:=Om (x.aq.getD w.toNat default);refine As ?_;refine A4k A0 rfl hk rfl (fun u=>go A0 false ?_);conv=>whnf
 refine C1 (fun h3=>?_) fun h3=>?_
 ·have h3:¬ (A8 x w).aa.length=0:=by have:=Bn h3;simp only [A8];omega
  refine As ?_;rw [Qn h1 hk (fun p=>h3 p.2.2.1)];refine Gb Tryz.prog 7 (w.toNat) [(0,11),(1,12),(2,13),(3,14),(4,15),(5,16),(6,17),(7,18)] (Af x.aq) hk rfl S7 rfl (Ct rfl) ?_;exact Jf () trivial
 have h3:(A8 x w).aa.length=0:=by have:=Cv h3;simp only [A8];omega
 refine As ?_;refine C1 (fun h4=>?_) fun h4=>?_
 ·have h4:¬ (A8 x w).ar.length=0:=by have:=Bn h4;simp only [A8];omega
  refine As ?_;rw [Qn h1 hk (fun p=>h4 p.2.2.2.1)];refine Gb Tryz.prog 7 (w.toNat) [(0,11),(1,12),(2,13),(3,14),(4,15),(5,16),(6,17),(7,18)] (Af x.aq) hk rfl S7 rfl (Ct rfl) ?_;exact Jf () trivial
 have h4:(A8 x w).ar.length=0:=by have:=Cv h4;simp only [A8];omega
 refine As ?_;refine Lf (fun h5=>?_) fun h5=>?_
 ·refine As ?_
  rw [Qn h1 hk (fun p=>by have:=p.2.2.2.2;simp only [A8] at this;omega)];refine Gb Tryz.prog 7 (w.toNat) [(0,11),(1,12),(2,13),(3,14),(4,15),(5,16),(6,17),(7,18)] (Af x.aq) hk rfl S7 rfl (Ct rfl) ?_;exact Jf () trivial
 have h5:0<(x.aq.getD w.toNat default).au.length:=by omega
 have hP:Ve x.az (A8 x w):=⟨hC.1.1,hWP,h3,h4,h5⟩;have hq0:(A8 x w).ar=[]:=Pj h4;refine As ?_;refine Eu 20 (A9 [(x.aq.getD w.toNat default).au.getD 0 default]) rfl (Cf rfl V7) ?_;refine B4t A0 rfl (⟨by omega,by omega,by omega⟩) (A9 ((x.aq.getD w.toNat default).au.drop 1)) (Ip (k:=1) h5) (Ah ?_);refine B6 A0 rfl (A9 ((x.aq.getD w.toNat default).au.drop 1)) (Bs) (fun _=>J4 _) (by (rw [Ge];omega)) (Ah ?_)
 first|(refine Aj 8 rfl [0,1,2,3,4,5,6,7,8] Am (Ah ?_))
 refine B4 ?_;refine Bi (j:=w) A0 rfl (Af (x.aq.set w.toNat (Q7 (A8 x w)))) (Ht hk (by rw [Q7,hq0];rfl)) (Ah ?_);rw [A8c h1 hP];exact Jf () trivial
end Go.Proofs.YtmhcebdkjgkmlaaGreatDoor
