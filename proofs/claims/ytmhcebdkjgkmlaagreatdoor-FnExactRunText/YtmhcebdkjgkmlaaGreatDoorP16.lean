/- Part 16 of the proof that each of the laws FnExactWhoIsDone, FnExactResultText, FnExactRunText returns true for every input. No conditions. -/
import Derived.Test.YtmhcebdkjgkmlaaGreatDoorP15

set_option linter.unusedSimpArgs false
set_option linter.unusedVariables false
set_option maxRecDepth 100000
namespace Go.Proofs.YtmhcebdkjgkmlaaGreatDoor
open Go.Sx
theorem B4v {α:Type} [Inhabited α] (f:α→Nat):∀(l:List α) (j:Nat) (x:α),j<l.length→((l.set j x).map f).sum+f (l.getD j default)=(l.map f).sum+f x
 | [],_,_,h=>absurd h (Kt _)
 |y::r,0,x,_=>by simp;omega
 |y::r,j+1,x,h=>by
  have:=B4v f r j x (by simpa using h)
  simp only [List.set_cons_succ,Gz,V9,List.getD_cons_succ];omega
variable {c : A3} {w : Ae}
theorem Na {j:Int}(h:0≤j∧j<c.aq.length):(Bc c j w).w+(A8 c j).w=c.w+w.w:=by
 have:=B4v Ae.w c.aq j.toNat w A7
 simp only [Bc,A3.w,wS,Jz,A8];omega
theorem A81 {k:Int}{l:D4}(h:0≤k∧k<c.ay.length):(D6 c k l).w+(Be c k).w=c.w+l.w:=by
 have:=B4v D4.w c.ay k.toNat l A7
 simp only [D6,A3.w,wS,Jz,Be];omega
theorem A13 {e:Int}{t:G9}:(Fy c e t).w=c.w:=by simp only [Fy,A3.w,Jz]
theorem C8w {g:B2}:(Ma g w).1.w≤w.w+2:=by
 unfold Ma
 split
 ·rename_i h
  have h1:=C0q (g:=g) (cs:=w.cells) (r:=w.ar.getD 0 default);have h2:=B75 (g:=g) (cs:=w.cells) (r:=w.ar.getD 0 default);have h3:=h.2.2.2;have h4:(if ao g (w.ar.getD 0 default)=true then w.an.set (w.ar.getD 0 default).am.ab.toNat true else w.an).length=w.an.length:=by split<;>simp
  simp only [P5,Ae.w,G4,h4];omega
 simp
theorem B79 {g:B2}:(Gy g w).1.w≤w.w:=by
 unfold Gy
 split
 ·rename_i h
  have:=h.2.2.2.2
  simp only [Pz,Ae.w,D7,Lu,G4];omega
 simp
theorem C0d {e:Int}:(Jx w e).w=w.w:=by
 unfold Jx Is
 split
 ·simp only [Ae.w,Jz]
 rfl
theorem B97 {r:Aa}:(Ik w r).w=w.w+1:=by
 unfold Ik Q1 Is kept
 split
 ·simp only [Ae.w,Jz,D7,Lu];omega
 simp only [Ae.w,D7,Lu];omega
theorem C0t {p:Ea}:(Ap c p).1.w≤c.w+4:=by
 have work:∀w,(Fp c w).1.w≤c.w+4:=fun w=>by
  unfold Fp
  split
  ·rename_i h
   have h1:=Na (w:=(Ma c.az (A8 c w)).1) h.2;have h2:=C8w (g:=c.az) (w:=A8 c w)
   simp only
   omega
  simp
 have input:∀w,(Eu c w).1.w≤c.w+4:=fun w=>by
  unfold Eu
  split
  ·rename_i h
   have h1:=Na (w:=(Gy c.az (A8 c w)).1) h.2;have h2:=B79 (g:=c.az) (w:=A8 c w)
   simp only
   omega
  simp
 have move:∀w,(Cg c w).1.w≤c.w+4:=fun w=>by
  unfold Cg
  split
  ·rename_i h
   obtain ⟨hW,hs⟩:=h;have hu:(Et (A8 c w)).w+1=(A8 c w).w:=by simp only [Et,Ae.w,G4];omega
   split
   ·have h1:=Na (w:=kept (Et (A8 c w)) (B1 c w)) hW.2
    have h2:(kept (Et (A8 c w)) (B1 c w)).w=(Et (A8 c w)).w+1:=by simp only [kept,Ae.w,D7,Lu];omega
    simp only
    omega
   split
   ·have hb:0≤w∧w<c.az.aq:=by have:=hW.1.1.2.1;exact ⟨hW.2.1,by have:=hW.2.2;omega⟩
    have h1:=A81 (l:=(Cy (Be c (Aq c w (B0 c w))) (B1 c w)).1) (Q9 hW.1 hb (B11 hW hs)).1;have h2:=Na (c:=D6 c (Aq c w (B0 c w)) (Cy (Be c (Aq c w (B0 c w))) (B1 c w)).1) (w:=Jx (Et (A8 c w)) (B1 c w).am.ab) hW.2
    have h3:(Cy (Be c (Aq c w (B0 c w))) (B1 c w)).1.w≤(Be c (Aq c w (B0 c w))).w+1:=by
     unfold Cy
     split
     ·simp [D4.w]
     simp
    have h4:(A8 (D6 c (Aq c w (B0 c w)) (Cy (Be c (Aq c w (B0 c w))) (B1 c w)).1) w).w=(A8 c w).w:=rfl;rw [C0d] at h2
    simp only
    omega
   simp
  simp
 have take:∀f t,(Dz c f t).1.w≤c.w+4:=fun f t=>by
  unfold Dz
  split
  ·rename_i h
   obtain ⟨hL,hk⟩:=h;have ht:0≤t∧t<c.aq.length:=by have:=hL.1.1.2.1;have:=hL.2.2.2;omega
   have h1:=A81 (l:=(Bo (Be c (Aq c f t))).1) (Q9 hL.1 hL.2.2.1 hL.2.2.2).1;have h2:=Na (c:=D6 c (Aq c f t) (Bo (Be c (Aq c f t))).1) (w:=Ik (A8 c t) (Bo (Be c (Aq c f t))).2.1) ht
   have h3:(Bo (Be c (Aq c f t))).1.w≤(Be c (Aq c f t)).w:=by
    unfold Bo
    split
    ·simp [D4.w]
    simp
   have h4:(A8 (D6 c (Aq c f t) (Bo (Be c (Aq c f t))).1) t).w=(A8 c t).w:=rfl;rw [B97] at h2
   simp only
   omega
  simp
 have credit:∀f t,(Ez c f t).1.w≤c.w+4:=fun f t=>by
  unfold Ez
  split
  ·rename_i hL
   have h1:=A81 (l:=(Ep (Be c (Aq c f t))).1) (Q9 hL.1 hL.2.2.1 hL.2.2.2).1
   have h3:(Ep (Be c (Aq c f t))).1.w=(Be c (Aq c f t)).w:=by
    unfold Ep
    split<;>simp [D4.w]
   simp only
   omega
  simp
 have tok:∀e,(Ct c e).1.w≤c.w+4:=fun e=>by
  unfold Ct
  split
  ·rename_i hT
   obtain ⟨hC,he,hD,hP⟩:=hT;have hTP:Qt c.az.aq (A4 c e):=hC.2.2.2.1 _ (Am (d:=default) (show e.toNat<c.ap.length by have:=hC.1.2.2.2;omega))
   have hn1:=hC.1.1.2.1;have hwl:=hC.1.2.1;have hat:0≤(A4 c e).aj∧(A4 c e).aj<c.aq.length:=by have:=hTP.1;omega
   have hwh:(K8 (A8 c (A4 c e).aj) e).w=(A8 c (A4 c e).aj).w:=by simp only [K8,Ae.w,Jz]
   simp only
   split
   ·have h1:=Na (c:=Fy c e ⟨true,(c.aq.length:Int)-1,0,false,(A8 c (A4 c e).aj).an.getD e.toNat default⟩) (w:=K8 (A8 c (A4 c e).aj) e) hat
    rw [A13,hwh] at h1;have h2:(A8 (Fy c e ⟨true,(c.aq.length:Int)-1,0,false,(A8 c (A4 c e).aj).an.getD e.toNat default⟩) (A4 c e).aj).w=(A8 c (A4 c e).aj).w:=rfl
    simp only
    omega
   split
   ·split
    ·have h1:=Na (c:=Fy c e ⟨(A4 c e).bz,(A4 c e).aj-1,(A4 c e).sum+(A8 c (A4 c e).aj).ah.getD e.toNat default,(A4 c e).al||(A8 c (A4 c e).aj).al.getD e.toNat default,(A4 c e).ao||(A8 c (A4 c e).aj).an.getD e.toNat default⟩) (w:=K8 (A8 c (A4 c e).aj) e) hat
     rw [A13,hwh] at h1;have h2:(A8 (Fy c e ⟨(A4 c e).bz,(A4 c e).aj-1,(A4 c e).sum+(A8 c (A4 c e).aj).ah.getD e.toNat default,(A4 c e).al||(A8 c (A4 c e).aj).al.getD e.toNat default,(A4 c e).ao||(A8 c (A4 c e).aj).an.getD e.toNat default⟩) (A4 c e).aj).w=(A8 c (A4 c e).aj).w:=rfl
     simp only
     omega
    simp
   rename_i hg ha
   have hA:(A4 c e).aj=0:=by have:=hTP.1;omega
   unfold Kr
   split
   ·have h1:=Na (c:=Fy c e ⟨false,(A4 c e).aj,(A4 c e).sum,(A4 c e).al,(A4 c e).ao⟩) (j:=0) (w:=Ju (A8 c (A4 c e).aj) ⟨e,(A4 c e).ao||(A8 c (A4 c e).aj).an.getD e.toNat default⟩) (by have:(Fy c e ⟨false,(A4 c e).aj,(A4 c e).sum,(A4 c e).al,(A4 c e).ao⟩).aq.length=c.aq.length:=rfl;omega)
    rw [A13] at h1;have h2:(A8 (Fy c e ⟨false,(A4 c e).aj,(A4 c e).sum,(A4 c e).al,(A4 c e).ao⟩) 0).w=(A8 c (A4 c e).aj).w:=by rw [hA];rfl
    have h3:(Ju (A8 c (A4 c e).aj) ⟨e,(A4 c e).ao||(A8 c (A4 c e).aj).an.getD e.toNat default⟩).w=(A8 c (A4 c e).aj).w+1:=by simp only [Ju,Ae.w,D7,Lu];omega
    have h4:∀(x:A3) l,(A5n x l).w=x.w+l.length:=fun x l=>by simp only [A5n,A3.w,D7];omega
    rw [h4]
    have h5:(Qc e ((A4 c e).ao||(A8 c (A4 c e).aj).an.getD e.toNat default) ((Fy c e ⟨false,(A4 c e).aj,(A4 c e).sum,(A4 c e).al,(A4 c e).ao⟩).aq.length-1)).length≤3:=by
     have:(Fy c e ⟨false,(A4 c e).aj,(A4 c e).sum,(A4 c e).al,(A4 c e).ao⟩).aq.length=c.aq.length:=rfl
     rw [this];simp only [Qc,J8,Rt];omega
    omega
   rw [A13];omega
  simp
 have hear:∀w,(Fi c w).1.w≤c.w+4:=fun w=>by
  unfold Fi
  split
  ·rename_i hn
   obtain ⟨m1,m2⟩:=B12 hn.1 hn.2;have hN:=hn.1.2.2.2.2 _ m1;have hw:0≤w∧w<c.aq.length:=by have:=hn.1.1.2.1;have:=hN.1;omega
   have h0:(V1 c w).w≤c.w:=by
    have:=List.length_eraseIdx_le c.ac (P1 c w)
    simp only [V1,A3.w];omega
   split
   ·simp only;omega
   have h1:=Na (c:=V1 c w) (w:=Ju (A8 c w) ⟨(G6 c w).ab,(G6 c w).ao⟩) hw;have h2:(A8 (V1 c w) w).w=(A8 c w).w:=rfl;have h3:(Ju (A8 c w) ⟨(G6 c w).ab,(G6 c w).ao⟩).w=(A8 c w).w+1:=by simp only [Ju,Ae.w,D7,Lu];omega
   simp only
   omega
  simp
 unfold Ap
 split
 ·exact work _
 split
 ·exact input _
 split
 ·exact move _
 split
 ·exact take _ _
 split
 ·exact credit _ _
 split
 ·exact tok _
 split
 ·exact hear _
 simp
theorem B3a (h:Av c):M0 c:=fun l hl=>by
 obtain ⟨i,hi,rfl⟩:=Ry hl
 have:=(h.2.2.1 i hi).1.1
 have e:c.ay.getD i default=c.ay[i]:=by simp [List.getD,hi]
 rw [e] at this;simp only [A56] at this;omega
variable {c : A3}
theorem Xo {p:Ea}(h:¬ Av c):Ap c p=(c,false):=by
 unfold Ap
 repeat' split
 ·unfold Fp;rw [Ab (fun q=>h q.1)]
 ·unfold Eu;rw [Ab (fun q=>h q.1)]
 ·unfold Cg;rw [Ab (fun q=>h q.1.1)]
 ·unfold Dz;rw [Ab (fun q=>h q.1.1)]
 ·unfold Ez;rw [Ab (fun q=>h q.1)]
 ·exact Uk (fun q=>h q.1)
 ·unfold Fi;rw [Ab (fun q=>h q.1)]
 rfl
theorem M7 {d:A3}(h:d.ay=c.ay)(hg:M0 c):M0 d:=fun l hl=>hg l (h▸hl)
theorem A5i (c:A3)(e:Int):(Ct c e).1.ay=c.ay:=by
 unfold Ct
 dsimp only
 repeat' split
 all_goals first
  |rfl
  |(unfold Kr;split<;>rfl)
theorem C3t {p:Ea}(hg:M0 c):M0 (Ap c p).1:=by
 by_cases h:Av c
 ·unfold Ap
  split
  ·unfold Fp;split<;>exact M7 rfl hg
  split
  ·unfold Eu;split<;>exact M7 rfl hg
  split
  ·unfold Cg
   split
   ·rename_i hM
    split
    ·exact M7 rfl hg
    rename_i hne
    split
    ·refine M7 ?_ (B3a (Zg hM.1 hM.2 hne))
     rfl
    exact hg
   exact hg
  split
  ·unfold Dz
   split
   ·rename_i hT
    refine M7 ?_ (B3a (Zw hT.1));rfl
   exact hg
  split
  ·exact B3a (Yg h)
  split
  ·exact M7 (A5i c p.a) hg
  split
  ·unfold Fi
   split
   ·split<;>exact M7 rfl hg
   exact hg
  exact hg
 rw [Xo h];exact hg
variable {l : List Ea}
theorem A26 {k:Nat}(hk:k<l.length):Aw c (l.take (k+1))=J3 (Aw c (l.take k)) (l.getD k default):=by
 unfold Aw
 have:l.take (k+1)=l.take k++[l.getD k default]:=by
  rw [A3u hk]
  simp [List.getD,hk]
 rw [this,A3r];rfl
theorem D0r (l:List Ea):∀s:A3×List Bool,(l.foldl J3 s).1.w≤s.1.w+4 * l.length:=by
 induction l with
 |nil=>intro s;simp
 |cons p r ih=>
  intro s;have h1:=ih (J3 s p);have h2:=C0t (c:=s.1) (p:=p);simp only [A0g,Gi];have e:(J3 s p).1=(Ap s.1 p).1:=rfl;rw [e] at h1;omega
theorem Zq:(Aw c l).1.w≤c.w+4 * l.length:=D0r l (c,[])
theorem C4k (l:List Ea):∀s:A3×List Bool,M0 s.1→M0 (l.foldl J3 s).1:=by
 induction l with
 |nil=>intro s h;exact h
 |cons p r ih=>intro s h;exact ih (J3 s p) (C3t h)
theorem A11 (h:M0 c):M0 (Aw c l).1:=C4k l (c,[]) h
theorem C4l (l:List Ea):∀s:A3×List Bool,(l.foldl J3 s).2.length=s.2.length+l.length:=by
 induction l with
 |nil=>intro s;simp
 |cons p r ih=>
  intro s;have h1:=ih (J3 s p);simp only [A0g,Gi];rw [h1];simp only [J3,D7,Gi,Ld];omega
theorem Wp:(Aw c l).2.length=l.length:=by
 have:=C4l l (c,[])
 simpa [Aw] using this
theorem C7x (c:A3):It c≤4:=by
 have:=Hc c.az.aq 0 4 Cw
 unfold It;omega
theorem A0v (c:A3):(Qw (It c)).length≤44:=by
 have h:=C7x c;have e:It c=0∨It c=1∨It c=2∨It c=3∨It c=4:=by omega
 rcases e with e|e|e|e|e<;>rw [e]<;>decide
theorem C18:(C5 c).1.w≤c.w+176:=by
 have h1:=Zq (c:=c) (l:=Qw (It c));have h2:=A0v c
 show (Aw c (Qw (It c))).1.w≤_
 omega
theorem A25 (h:M0 c):M0 (C5 c).1:=A11 h
def P9 (c:A3):Nat→A3
 | 0=>c
 |k+1=>(C5 (P9 c k)).1
theorem D09 (c:A3)(k:Nat):(P9 c k).w≤c.w+176 * k:=by
 induction k with
 |zero=>simp [P9]
 |succ k ih=>
  have:=C18 (c:=P9 c k)
  simp only [P9];omega
theorem C9p (h:M0 c)(k:Nat):M0 (P9 c k):=by
 induction k with
 |zero=>exact h
 |succ k ih=>exact A25 ih
theorem B1o (c:A3)(k:Nat):P9 (C5 c).1 k=P9 c (k+1):=by
 induction k with
 |zero=>rfl
 |succ k ih=>simp only [P9] at ih ⊢;rw [ih]
theorem A62 (k:Nat):∀(n:Nat) (c:A3),k≤n→(∀i,i<k→(C5 (P9 c i)).2≠0)→E5 n c=((E5 (n-k) (P9 c k)).1,(E5 (n-k) (P9 c k)).2+k):=by
 induction k with
 |zero=>intro n c _ _;simp [P9]
 |succ k ih=>
  intro n c hk h;obtain ⟨m,rfl⟩:∃m,n=m+1:=⟨n-1,by omega⟩;have h0:(C5 c).2≠0:=h 0 A7;have h1:=ih m (C5 c).1 A7 (fun i hi=>by rw [B1o];exact h (i+1) A7);rw [B1o] at h1;rw [E5,Ab h0,h1,show m+1-(k+1)=m-k by omega]
  rfl
theorem A05 {n k:Nat}(hk:k<n)(h:∀i,i<k→(C5 (P9 c i)).2≠0)(h0:(C5 (P9 c k)).2=0):E5 n c=(P9 c (k+1),k+1):=by
 rw [A62 k n c A7 h];obtain ⟨m,hm⟩:∃m,n-k=m+1:=⟨n-k-1,by omega⟩;rw [hm,E5,Ak h0];simp only [P9]
 congr 1
 omega
theorem A04 {n:Nat}(h:∀i,i<n→(C5 (P9 c i)).2≠0):E5 n c=(P9 c n,n):=by
 rw [A62 n n c (Df _) h,Nat.sub_self]
 simp [E5]
theorem C0i (x:A3)(w:Int)(h:x.w≤16000000):MtR (fun _=>True) 238 [] (rc x) [.one (vi w)] (fun _:Unit=>True) (fun _=>rc x) (fun _=>[.one (vb (decide (I0 x w)))]):=by
 have hwl:=A3.workers_le h;refine zeP Tryz.func238 fun B b hH hp=>?_;refine Cc (fun h1=>?_) fun h1=>?_
 ·have h1:Av x:=Bj (show At x=true from h1)
  refine Ar ?_;refine As (H3 w 0 (x.aq.length-1)) rfl (Hd ?_);rw [show Dv w 0 (x.aq.length-1)=decide (I0 x w) by rw [Th,Go.Sx.Ch,J7];exact ⟨fun p=>⟨h1,by omega,by omega⟩,fun p=>⟨p.2.1,by have:=p.2.2;omega⟩⟩]
  exact K4 () trivial
 refine Ar ?_;rw [show decide (I0 x w)=false from Cb fun p=>absurd p.1 (Cr (show At x=false from h1))]
 exact K4 () trivial
set_option maxHeartbeats 4000000 in
theorem C2e (x:A3)(ok:Bool)(w e n:Int)(h0:0≤w)(hk:w.toNat<x.aq.length)(he:0≤e)(hke:e.toNat<(A8 x w).ah.length)(hs:Jh ((A8 x w).ah.getD e.toNat default))(hn: -1≤n∧n≤1):
  MtR (fun _=>True) 243 [] (rcb x ok) [.one (vi w),.one (vi e),.one (vi n)] (fun _:Unit=>True) (fun _=>rcb (Bc x w (Is (A8 x w) e n)) (ok&&Dv ((A8 x w).ah.getD e.toNat default+n) (-1000000) 1000000)) (fun _=>[]):=by
 obtain ⟨s1,s2⟩:=hs;have hke2:e.toNat<(x.aq.getD w.toNat default).ah.length:=hke;have hg:(x.aq.getD w.toNat default).ah.getD e.toNat default=(A8 x w).ah.getD e.toNat default:=rfl;refine zeP Tryz.func243 fun B b hH hp=>?_
 first|(refine Al 0 rfl [0,1,2,3,4,5,6,7,8,9,10,11,12,13,14,15,16,17,18,19,20,21,22,23,24,25] Ah (Aj ?_))
 refine B8 ?_;refine M5 A0 rfl (jn:=w.toNat) rfl rfl (fun v=>go A0 false ?_);conv=>whnf
 refine B8 ?_;refine N2 A0 rfl (Cu _ _ _) rfl (Aj ?_);refine H7 26 6 rfl (Er ?_);refine Bt (j:=e) A0 rfl (Ej ((x.aq.getD w.toNat default).ah.set e.toNat ((x.aq.getD w.toNat default).ah.getD e.toNat default+n))) (Dd hke2 rfl) (Aj ?_)
 cases ok
 ·refine Ar ?_
  refine Ro 2 (w.toNat) [(4,6)] (Af (x.aq.set w.toNat (Is (A8 x w) e n))) hk rfl rfl S0 rfl (Hp hk rfl) (Iv ?_);conv=>whnf
  exact D1n (C0b A0 () trivial rfl rfl rfl rfl Mm)
 refine Ar ?_;refine N2 A0 rfl (Cu _ _ _) rfl (Hd ?_);refine H7 47 6 rfl (Hd ?_);refine ⟨by (rw [Jz];show _∧_;omega),?_⟩
 conv=>whnf
 refine Ar ?_;refine As (H3 (((x.aq.getD w.toNat default).ah.set e.toNat ((x.aq.getD w.toNat default).ah.getD e.toNat default+n)).getD e.toNat default) (-1000000) 1000000) rfl (Hd ?_);rw [Sx.getD_set_self _ _ _ _ hke2];refine Ro 2 (w.toNat) [(4,6)] (Af (x.aq.set w.toNat (Is (A8 x w) e n))) hk rfl rfl S0 rfl (Hp hk rfl) (Iv ?_);conv=>whnf
 exact D1n (C0b A0 () trivial rfl rfl rfl rfl Mm)
variable {w : Int}
theorem A4z {x:A3}(hk:w.toNat<x.aq.length):Bc x w (A8 x w)=x:=by
 have e:x.aq.set w.toNat (x.aq.getD w.toNat default)=x.aq:=by
  apply List.ext_getElem
  ·simp
  intro i h1 h2;rw [List.getElem_set]
  split
  ·rename_i h;subst h;simp [List.getD,hk]
  rfl
 unfold Bc A8;rw [e]
variable {c : A3}
theorem Yl (h:I0 c w)(hk:w.toNat<c.aq.length)(h2:¬ A3x c.az (A8 c w)):Fp c w=(c,false):=by
 rw [U6 h,A2f h2,A4z hk]
theorem Yk (h:I0 c w)(h2:A3x c.az (A8 c w)):Fp c w=(Bc c w (P5 c.az (A8 c w)),true):=by
 rw [U6 h,A9m h2]
theorem Qh (h:I0 c w)(hk:w.toNat<c.aq.length)(h2:¬ Vg c.az (A8 c w)):Eu c w=(c,false):=by
 rw [S9 h,Sv h2,A4z hk]
theorem A8l (h:I0 c w)(h2:Vg c.az (A8 c w)):Eu c w=(Bc c w (Pz (A8 c w)),true):=by
 rw [S9 h,B1t h2]
set_option maxHeartbeats 8000000 in
theorem C8e (x:A3)(w:Int)(h:x.w≤16000000):MtR (fun _=>True) 184 [] (rc x) [.one (vi w)] (fun _:Unit=>True) (fun _=>rcb (Fp x w).1 (At x)) (fun _=>[.one (vb (Fp x w).2)]):=by
 refine zeP Tryz.func184 fun B b hH hp=>?_;refine zcP (C0i x w h) hH hp fun r hr=>?_;refine Cc (fun h1=>?_) fun h1=>?_
 ·have h1:¬ I0 x w:=Cr (by simpa using h1)
  refine Ar ?_;rw [A4r h1];exact K4 () trivial
 have h1:I0 x w:=Bj (show decide (I0 x w)=true by simpa using h1)
 have hC:=h1.1;have hb:=h1.2;have hk:w.toNat<x.aq.length:=by omega
 have hw:=A3.worker_le h hk;have hg:=Tu h;have hWP:=hC.2.1 _ (Am (d:=default) hk);have hww:(A8 x w).w≤16000000:=by show (x.aq.getD w.toNat default).w≤_;omega
 have hlw:=Oe (x.aq.getD w.toNat default);refine Ar ?_;refine A4p A0 rfl hk rfl (fun u=>go A0 false ?_);conv=>whnf
 refine Cc (fun h3=>?_) fun h3=>?_
 ·have h3:¬ (A8 x w).ae.length=0:=by have:=Bj h3;simp only [A8];omega
  refine Ar ?_;rw [Yl h1 hk (fun p=>h3 p.2.2.1)];refine G7 Tryz.prog 7 (w.toNat) [(0,11),(1,12),(2,13),(3,14),(4,15),(5,16),(6,17),(7,18)] (Af x.aq) hk rfl S0 rfl (Cn rfl) ?_;exact K4 () trivial
 have h3:(A8 x w).ae.length=0:=by have:=Cr h3;simp only [A8];omega
 refine Ar ?_;refine L8 (fun h4=>?_) fun h4=>?_
 ·refine Ar ?_
  rw [Yl h1 hk (fun p=>by have:=p.2.2.2;simp only [A8] at this;omega)];refine G7 Tryz.prog 7 (w.toNat) [(0,11),(1,12),(2,13),(3,14),(4,15),(5,16),(6,17),(7,18)] (Af x.aq) hk rfl S0 rfl (Cn rfl) ?_;exact K4 () trivial
 have h4:0<(x.aq.getD w.toNat default).ar.length:=by omega
 have hP:A3x x.az (A8 x w):=⟨hC.1.1,hWP,h3,h4⟩;have hR:=hWP.1.1 _ (Am (d:=default) h4);have hE:=hR.1.2.1;have hcl:(x.aq.getD w.toNat default).an.length=4:=hWP.2.1.2.2;have hc:((x.aq.getD w.toNat default).ar.getD 0 default).am.ab.toNat<(x.aq.getD w.toNat default).an.length:=by omega
 refine Ar ?_
 first|(refine Al 7 rfl [0,1,2,3,4,5,6,7,8,9,10,11,12,13,14,15] Ah (Aj ?_))|(refine Al 11 rfl [0,1,2,3,4,5,6] Ah (Aj ?_))|(refine Al 13 rfl [0,1,2,3,4,5,6,7,8] Ah (Aj ?_))
 refine Gg (C0k x.az (x.aq.getD w.toNat default).cells ((x.aq.getD w.toNat default).ar.getD 0 default) A7 A7) ?_;refine B4u A0 rfl (⟨by omega,by omega,by omega⟩) (A9 ((x.aq.getD w.toNat default).ar.drop 1)) (Il (k:=1) h4) (Aj ?_);refine B9 A0 rfl (A9 ((x.aq.getD w.toNat default).ar.drop 1)) (Bs) (fun _=>Iz _) (by (rw [G4];omega)) (Aj ?_)
 first|(refine Al 7 rfl [0,1,2,3,4,5,6,7,8,9,10,11,12,13,14,15] Ah (Aj ?_))|(refine Al 11 rfl [0,1,2,3,4,5,6] Ah (Aj ?_))|(refine Al 13 rfl [0,1,2,3,4,5,6,7,8] Ah (Aj ?_))
 refine F0 (C0g x.az ((x.aq.getD w.toNat default).ar.getD 0 default) A7) ?_;refine Cc (fun h5=>?_) fun h5=>?_
 ·have h5:ao x.az ((A8 x w).ar.getD 0 default)=true:=h5
  refine ⟨by (show 0≤((x.aq.getD w.toNat default).ar.getD 0 default).am.ab∧((x.aq.getD w.toNat default).ar.getD 0 default).am.ab<(x.aq.getD w.toNat default).an.length;omega),?_⟩
  conv=>whnf
  refine Bt (j:=((x.aq.getD w.toNat default).ar.getD 0 default).am.ab) A0 rfl (D9 ((x.aq.getD w.toNat default).an.set ((x.aq.getD w.toNat default).ar.getD 0 default).am.ab.toNat true)) (Dd hc rfl) (Aj ?_)
  first|(refine Al 7 rfl [0,1,2,3,4,5,6,7,8,9,10,11,12,13,14,15] Ah (Aj ?_))|(refine Al 11 rfl [0,1,2,3,4,5,6] Ah (Aj ?_))|(refine Al 13 rfl [0,1,2,3,4,5,6,7,8] Ah (Aj ?_))
  refine B8 ?_;refine Bt (j:=w) A0 rfl (Af (x.aq.set w.toNat (P5 x.az (A8 x w)))) (Hk hk (by rw [P5,Ak h5];rfl)) (Aj ?_);rw [Yk h1 hP];exact K4 () trivial
 have h5:ao x.az ((A8 x w).ar.getD 0 default)=false:=h5
 first|(refine Al 7 rfl [0,1,2,3,4,5,6,7,8,9,10,11,12,13,14,15] Ah (Aj ?_))|(refine Al 11 rfl [0,1,2,3,4,5,6] Ah (Aj ?_))|(refine Al 13 rfl [0,1,2,3,4,5,6,7,8] Ah (Aj ?_))
 refine B8 ?_;refine Bt (j:=w) A0 rfl (Af (x.aq.set w.toNat (P5 x.az (A8 x w)))) (Hk hk (by rw [P5,Ab (by rw [h5];decide)];rfl)) (Aj ?_);rw [Yk h1 hP];exact K4 () trivial
set_option maxHeartbeats 8000000 in
theorem C4p (x:A3)(w:Int)(h:x.w≤16000000):MtR (fun _=>True) 185 [] (rc x) [.one (vi w)] (fun _:Unit=>True) (fun _=>rcb (Eu x w).1 (At x)) (fun _=>[.one (vb (Eu x w).2)]):=by
 refine zeP Tryz.func185 fun B b hH hp=>?_;refine zcP (C0i x w h) hH hp fun r hr=>?_;refine Cc (fun h1=>?_) fun h1=>?_
 ·have h1:¬ I0 x w:=Cr (by simpa using h1)
  refine Ar ?_;rw [A1x h1];exact K4 () trivial
 have h1:I0 x w:=Bj (show decide (I0 x w)=true by simpa using h1)
 have hC:=h1.1;have hb:=h1.2;have hk:w.toNat<x.aq.length:=by omega
 have hw:=A3.worker_le h hk;have hg:=Tu h;have hWP:=hC.2.1 _ (Am (d:=default) hk);have hww:(A8 x w).w≤16000000:=by show (x.aq.getD w.toNat default).w≤_;omega
 have hlw:=Oe (x.aq.getD w.toNat default);refine Ar ?_;refine A4p A0 rfl hk rfl (fun u=>go A0 false ?_);conv=>whnf
 refine Cc (fun h3=>?_) fun h3=>?_
 ·have h3:¬ (A8 x w).ae.length=0:=by have:=Bj h3;simp only [A8];omega
  refine Ar ?_;rw [Qh h1 hk (fun p=>h3 p.2.2.1)];refine G7 Tryz.prog 7 (w.toNat) [(0,11),(1,12),(2,13),(3,14),(4,15),(5,16),(6,17),(7,18)] (Af x.aq) hk rfl S0 rfl (Cn rfl) ?_;exact K4 () trivial
 have h3:(A8 x w).ae.length=0:=by have:=Cr h3;simp only [A8];omega
 refine Ar ?_;refine Cc (fun h4=>?_) fun h4=>?_
 ·have h4:¬ (A8 x w).ar.length=0:=by have:=Bj h4;simp only [A8];omega
  refine Ar ?_;rw [Qh h1 hk (fun p=>h4 p.2.2.2.1)];refine G7 Tryz.prog 7 (w.toNat) [(0,11),(1,12),(2,13),(3,14),(4,15),(5,16),(6,17),(7,18)] (Af x.aq) hk rfl S0 rfl (Cn rfl) ?_;exact K4 () trivial
 have h4:(A8 x w).ar.length=0:=by have:=Cr h4;simp only [A8];omega
 refine Ar ?_;refine L8 (fun h5=>?_) fun h5=>?_
 ·refine Ar ?_
  rw [Qh h1 hk (fun p=>by have:=p.2.2.2.2;simp only [A8] at this;omega)];refine G7 Tryz.prog 7 (w.toNat) [(0,11),(1,12),(2,13),(3,14),(4,15),(5,16),(6,17),(7,18)] (Af x.aq) hk rfl S0 rfl (Cn rfl) ?_;exact K4 () trivial
 have h5:0<(x.aq.getD w.toNat default).au.length:=by omega
 have hP:Vg x.az (A8 x w):=⟨hC.1.1,hWP,h3,h4,h5⟩;have hq0:(A8 x w).ar=[]:=Np h4;refine Ar ?_;refine H5 20 (A9 [(x.aq.getD w.toNat default).au.getD 0 default]) rfl (Nu rfl A2j) ?_;refine B4u A0 rfl (⟨by omega,by omega,by omega⟩) (A9 ((x.aq.getD w.toNat default).au.drop 1)) (Il (k:=1) h5) (Aj ?_);refine B9 A0 rfl (A9 ((x.aq.getD w.toNat default).au.drop 1)) (Bs) (fun _=>Iz _) (by (rw [G4];omega)) (Aj ?_)
 first|(refine Al 8 rfl [0,1,2,3,4,5,6,7,8] Ah (Aj ?_))
 refine B8 ?_;refine Bt (j:=w) A0 rfl (Af (x.aq.set w.toNat (Pz (A8 x w)))) (Hk hk (by rw [Pz,hq0];rfl)) (Aj ?_);rw [A8l h1 hP];exact K4 () trivial
set_option maxHeartbeats 8000000 in
theorem C0h (x:A3)(f t:Int)(h:x.w≤16000000)(og:Gt .i64 x.az.aq):MtR (fun _=>True) 188 [] (rc x) [.one (vi f),.one (vi t)] (fun _:Unit=>True) (fun _=>rcb (Ez x f t).1 (At x)) (fun _=>[.one (vb (Ez x f t).2)]):=by
 refine zeP Tryz.func188 fun B b hH hp=>?_;refine F0 (Sg x.az f t og) ?_;refine Cc (fun hok=>?_) fun hok=>?_
 ·have hok:¬ Av x:=Cr (show At x=false by simpa using hok)
  refine Ar ?_;rw [Lo (fun p=>hok p.1)];exact K4 () trivial
 have hC:Av x:=Bj (show At x=true by simpa using hok)
 by_cases hne:f=t
 ·refine Ar ?_
  refine Cc (fun hz=>?_) fun hz=>?_
  ·refine Ar ?_
   rw [Lo (fun p=>p.2.1 hne)];exact K4 () trivial
  refine Ar ?_;refine L8 (fun hft=>?_) fun hft=>?_
  ·refine Ar ?_
   rw [Lo (fun p=>p.2.1 hne)];exact K4 () trivial
  exact absurd hne hft
 rw [A70 hC hne]
 cases hLd:decide (Oy x f t)
 ·have hL:¬ Oy x f t:=Cr hLd
  rw [Nx,Ab hL];refine Ar ?_;rw [Lo hL];exact K4 () trivial
 have hL:Oy x f t:=Bj hLd;have hln:=Pt hC hL.2.2.1 hL.2.2.2;have hlk:(Aq x f t).toNat<x.ay.length:=by omega
 have hlw:=A3.link_le h hlk;rw [Nx,Ak hL];refine Ar ?_;refine Cc (fun hz=>?_) fun hz=>?_
 ·have:=Bj hz
  omega
 refine Ar ?_;refine L8 (fun hft=>?_) fun hft=>?_
 ·exact absurd hft hne
 refine Ar ?_;refine A4p A0 rfl hlk rfl (fun u=>go A0 false ?_);conv=>whnf
 refine Ll (A86 (Be x (Aq x f t)) (by show (x.ay.getD _ default).w≤_;omega)) rfl (Aj ?_)
 first|(refine Al 5 rfl [0,1,2,3,4,5,6,7,8] Ah (Aj ?_))
 refine B8 ?_;refine Bt (j:=(Aq x f t)) A0 rfl (B7 (x.ay.set (Aq x f t).toNat (Ep (Be x (Aq x f t))).1)) (Hk hlk rfl) (Aj ?_);rw [W8 hL];exact K4 () trivial
theorem B76 (n:Int):Dv n (-1000000) 1000000=decide (Jh n):=by
 rw [Th,Go.Sx.Ch,J7];exact Iff.rfl
variable {c : A3}
theorem C8p {f t:Int}(h:Av c)(h2:(Dz c f t).2=true):At (Dz c f t).1=decide (Jh (B4x c f t)):=by
 rw [A4q h,Ak h2]
theorem A52 {t:Int}{W:Ae}(hk:t.toNat<c.aq.length):A8 (Bc c t W) t=W:=by
 unfold A8 Bc;exact Sx.getD_set_self _ _ _ _ hk
theorem Pv {t:Int}{W V:Ae}:Bc (Bc c t W) t V=Bc c t V:=by
 unfold Bc;rw [List.set_set]
set_option maxHeartbeats 8000000 in
theorem C8d (x:A3)(f t:Int)(h:x.w≤8000000)(og:Gt .i64 x.az.aq):MtR (fun _=>True) 187 [] (rc x) [.one (vi f),.one (vi t)] (fun _:Unit=>True) (fun _=>rc (Dz x f t).1) (fun _=>[.one (vb (Dz x f t).2)]):=by
 have h8:=h;have h:x.w≤16000000:=by omega
 refine zeP Tryz.func187 fun B b hH hp=>?_;refine F0 (Sg x.az f t og) ?_;refine Cc (fun hok=>?_) fun hok=>?_
 ·have hok:¬ Av x:=Cr (show At x=false by simpa using hok)
  refine Ar ?_;rw [On (fun p=>hok p.1)];exact K4 () trivial
 have hC:Av x:=Bj (show At x=true by simpa using hok)
 by_cases hne:f=t
 ·refine Ar ?_
  refine Cc (fun hz=>?_) fun hz=>?_
  ·refine Ar ?_
   rw [On (fun p=>p.2.1 hne)];exact K4 () trivial
  refine Ar ?_;refine L8 (fun hft=>?_) fun hft=>?_
  ·refine Ar ?_
   rw [On (fun p=>p.2.1 hne)];exact K4 () trivial
  exact absurd hne hft
 rw [A70 hC hne]
 cases hLd:decide (Oy x f t)
 ·have hL:¬ Oy x f t:=Cr hLd
  rw [Nx,Ab hL];refine Ar ?_;rw [On hL];exact K4 () trivial
 have hL:Oy x f t:=Bj hLd;have hln:=Pt hC hL.2.2.1 hL.2.2.2;have hlk:(Aq x f t).toNat<x.ay.length:=by omega
 have hlw:=A3.link_le h hlk;rw [Nx,Ak hL];refine Ar ?_;refine Cc (fun hz=>?_) fun hz=>?_
 ·have:=Bj hz
  omega
 refine Ar ?_;refine L8 (fun hft=>?_) fun hft=>?_
 ·exact absurd hft hne
 refine Ar ?_;refine A4p A0 rfl hlk rfl (fun u=>go A0 false ?_);conv=>whnf
 refine Ll (B4r (Be x (Aq x f t)) (by show (x.ay.getD _ default).w≤_;omega)) rfl (Aj ?_)
 refine Cc (fun h4=>?_) fun h4=>?_
 ·have h4:(Bo (Be x (Aq x f t))).2.2=false:=by simpa using h4
  refine Ar ?_;rw [Yj h4];refine G7 Tryz.prog 3 ((Aq x f t).toNat) [(1,6)] (B7 x.ay) hlk rfl S0 rfl (Cn rfl) ?_;exact K4 () trivial
 have h4:(Bo (Be x (Aq x f t))).2.2=true:=by simpa using h4
 have hT:0<(Be x (Aq x f t)).ar.length:=by
  rcases Nat.eq_zero_or_pos (Be x (Aq x f t)).ar.length with e|e
  ·rw [Xv (fun p=>by omega)] at h4;cases h4
  exact e
 have hLA:=hC.2.2.1 _ hlk;have hLP:Hm (Be x (Aq x f t)):=hLA.1;have hrec:(Bo (Be x (Aq x f t))).2.1=(Be x (Aq x f t)).ar.getD 0 default:=by rw [A2b ⟨hLP,hT⟩]
 have hRP:Gu (Bo (Be x (Aq x f t))).2.1:=by rw [hrec];exact hLP.2 _ (Am hT)
 have hb:=hL.2.2.2;have hwl:=hC.1.2.1;have hk:t.toNat<x.aq.length:=by omega
 have hw:=A3.worker_le h8 hk;have hWP:=hC.2.1 _ (Am (d:=default) hk);have hql:=(Oe (x.aq.getD t.toNat default)).1;have hyes:=A1z hL h4;have hfl:=C8p hC (show (Dz x f t).2=true by rw [hyes])
 refine Ar ?_
 first|(refine Al 7 rfl [0,1,2,3,4,5,6,7,8] Ah (Aj ?_))|(refine Al 8 rfl [0,1,2,3,4,5,6,7,8,9,10,11,12,13,14,15,16,17,18,19,20] Ah (Aj ?_))|(refine Al 9 rfl [0,1,2,3,4,5,6,7,8,9,10,11,12,13] Ah (Aj ?_))
 refine B8 ?_;refine Bt (j:=(Aq x f t)) A0 rfl (B7 (x.ay.set (Aq x f t).toNat (Bo (Be x (Aq x f t))).1)) (Hk hlk rfl) (Aj ?_);generalize hR:(Bo (Be x (Aq x f t))).2.1=R at *;generalize hLk:(Bo (Be x (Aq x f t))).1=LK at *;refine Zh 0 3 2 rfl rfl (fun v2=>?_);refine A8a 0 3 rfl rfl (fun ho_v2=>?_);refine Iy rfl (Dw 0 rfl (Dw 1 rfl (Dw 2 rfl (Dw 3 rfl (Dw 5 rfl (Dw 6 rfl (Dw 7 rfl (Dw 8 rfl (Dw 9 rfl (Dw 11 rfl ?_))))))))));refine Lq (s':=?_) 10 rfl Ah ?_ ?_;rotate_left;refine Aj ?_;refine H7 66 2 rfl (Er ?_);exact C0
 refine Of 12 ?_;refine Dw 13 rfl ?_;refine Wc (α:=Value) (s':=?_) 14 rfl Ah ?_ ?_;rotate_left;refine Aj ?_;refine M5 A0 rfl (jn:=t.toNat) rfl rfl (fun v=>go A0 false ?_);conv=>whnf
 exact A34 v
 intro v;refine Of 15 ?_;refine Nl [16,17,18,19,20] [⟨4,60,.rd v2⟩] Ah ?_;refine Ms rfl Dq ?_;refine L9 (s':=?_) rfl Dq ?_ ?_;rotate_left;refine Aj ?_;refine B9 A0 rfl (A9 ((x.aq.getD t.toNat default).ar++[R])) (Ao rfl) Hy A7 (Aj ?_);exact C0
 refine L9 (s':=?_) rfl Dq ?_ ?_;rotate_left;refine Aj ?_;refine H7 60 2 rfl (Er ?_);exact C0
 refine Ms rfl Dq ?_;refine L9 (s':=?_) rfl Dq ?_ ?_;rotate_left;refine Aj ?_;refine Bt (j:=t) A0 rfl (Af (Bc x t (kept (A8 x t) R)).aq) (Hk hk rfl) (Aj ?_);exact C0
 refine Ln A0 Ah Dq (GW.out (Iv ?_));conv=>whnf
 refine Ze 0 3 2 rfl rfl rfl ?_;have hsl:(Bc x t (kept (A8 x t) R)).aq.length=x.aq.length:=Jz;have hk1:t.toNat<(Bc x t (kept (A8 x t) R)).aq.length:=by omega
 have hg1:(Bc x t (kept (A8 x t) R)).aq.getD t.toNat default=kept (A8 x t) R:=A52 hk;have hbl:((Bc x t (kept (A8 x t) R)).aq.getD t.toNat default).al.length=4:=by rw [hg1];exact hWP.2.1.2.1
 have hE:=hRP.2.1;have hbk:R.am.ab.toNat<((Bc x t (kept (A8 x t) R)).aq.getD t.toNat default).al.length:=by omega
 first|(refine Al 7 rfl [0,1,2,3,4,5,6,7,8] Ah (Aj ?_))|(refine Al 8 rfl [0,1,2,3,4,5,6,7,8,9,10,11,12,13,14,15,16,17,18,19,20] Ah (Aj ?_))|(refine Al 9 rfl [0,1,2,3,4,5,6,7,8,9,10,11,12,13] Ah (Aj ?_))
 refine B8 ?_;refine M5 A0 rfl (jn:=t.toNat) rfl rfl (fun v3=>go A0 false ?_);conv=>whnf
 refine B8 ?_;refine Bt (j:=R.am.ab) A0 rfl (D9 (((Bc x t (kept (A8 x t) R)).aq.getD t.toNat default).al.set R.am.ab.toNat true)) (Dd hbk rfl) (Aj ?_);refine C0f 2 (t.toNat) [(5,13)] (Af (Bc (Bc (D6 x (Aq x f t) LK) t (kept (A8 x t) R)) t (Q1 (kept (A8 x t) R) R.am.ab)).aq) hk1 rfl rfl S0 rfl (Hp hk1 (by rw [hg1];rfl)) ?_;have hk0:t.toNat<(D6 x (Aq x f t) LK).aq.length:=hk;have hk2:t.toNat<(Bc (Bc (D6 x (Aq x f t) LK) t (kept (A8 x t) R)) t (Q1 (kept (A8 x t) R) R.am.ab)).aq.length:=by rw [Pv];show t.toNat<(x.aq.set _ _).length;rw [Jz];exact hk
 have hw2:A8 (Bc (Bc (D6 x (Aq x f t) LK) t (kept (A8 x t) R)) t (Q1 (kept (A8 x t) R) R.am.ab)) t=Q1 (kept (A8 x t) R) R.am.ab:=by rw [Pv];exact A52 hk0
 have hs4:(A8 x t).ah.length=4:=hWP.2.1.1;refine D06 (C2e (Bc (Bc (D6 x (Aq x f t) LK) t (kept (A8 x t) R)) t (Q1 (kept (A8 x t) R) R.am.ab)) (At x) t R.am.ab (-1) A7 hk2 A7 (by rw [hw2];show R.am.ab.toNat<(A8 x t).ah.length;omega) (by rw [hw2];exact hWP.2.2.2.1 _ (Am (by show R.am.ab.toNat<(A8 x t).ah.length;omega))) Cw) hH hp rfl Mm rfl rfl (fun r hr=>go A0 false ?_)
 conv=>whnf
 rw [hw2,Pv,Pv];have hcs:At x=true:=Dg hC
 have hz:rc (Dz x f t).1=rcb (Bc (D6 x (Aq x f t) LK) t (Is (Q1 (kept (A8 x t) R) R.am.ab) R.am.ab (-1))) (At x&&Dv ((Q1 (kept (A8 x t) R) R.am.ab).ah.getD R.am.ab.toNat default+ -1) (-1000000) 1000000):=by
  show rcb (Dz x f t).1 (At (Dz x f t).1)=_
  rw [hfl,hyes,hcs,Bool.true_and,B76,A4v (w:=A8 x t) hWP.2.1.1 hWP.2.1.2.1 hE]
  show rcb _ (decide (Jh ((A8 x t).ah.getD (P4 x f t).am.ab.toNat default+ -1)))=_
  rw [show P4 x f t=R from hR]
  rfl
 rw [hz,hyes];exact K4 () trivial
theorem C7h {c:A3}{w:Int}(h:Av c)(h2:(Cg c w).2=true)(h3:B0 c w≠w):At (Cg c w).1=decide (Jh (B3z c w)):=by
 rw [Wa h,Ak ⟨h2,h3⟩]
theorem C32 {c:A3}{w:Int}(h:Av c)(h3:B0 c w=w):At (Cg c w).1=true:=by
 rw [Wa h,Ab (fun p=>p.2 h3)]
set_option maxHeartbeats 8000000 in
theorem C8c (x:A3)(w:Int)(h:x.w≤8000000)(og:Gt .i64 x.az.aq):MtR (fun _=>True) 186 [] (rc x) [.one (vi w)] (fun _:Unit=>True) (fun _=>rc (Cg x w).1) (fun _=>[.one (vb (Cg x w).2)]):=by
 have h:x.w≤16000000:=by omega
 refine zeP Tryz.func186 fun B b hH hp=>?_;refine zcP (C0i x w h) hH hp fun r hr=>?_;refine Cc (fun h1=>?_) fun h1=>?_
 ·have h1:¬ I0 x w:=Cr (by simpa using h1)
  refine Ar ?_;rw [Rm (fun p=>h1 p.1)];exact K4 () trivial
 have h1:I0 x w:=Bj (show decide (I0 x w)=true by simpa using h1)
 have hC:=h1.1;have hb:=h1.2;have hk:w.toNat<x.aq.length:=by omega
 have hw:=A3.worker_le h hk;have hWP:=hC.2.1 _ (Am (d:=default) hk);have hlw:=Oe (x.aq.getD w.toNat default);refine Ar ?_;refine M5 A0 rfl (jn:=w.toNat) rfl rfl (fun v=>go A0 false ?_);conv=>whnf
 refine Ar ?_;refine L8 (fun h2=>?_) fun h2=>?_
 ·refine Ar ?_
  rw [Rm (fun p=>by have:=p.2;simp only [A8] at this;omega)];refine G7 Tryz.prog 7 (w.toNat) [(1,11)] (Af x.aq) hk rfl S0 rfl (Cn rfl) ?_;exact K4 () trivial
 have h2':0<(x.aq.getD w.toNat default).ae.length:=by omega
 have h2:0<(A8 x w).ae.length:=h2';have hM:I0 x w∧0<(A8 x w).ae.length:=⟨h1,h2⟩;have hR:Gu (B1 x w)∧(B1 x w).op<x.az.ak.length:=hWP.1.2.1 _ (Am (d:=default) h2);have hgw:=hC.1.1.2.1;have how:=B65 (k:=(B1 x w).key) (n:=x.az.aq) hR.1.2.2.2.1.1 hgw.1;have hwl:=hC.1.2.1;have hcs:At x=true:=Dg hC;refine Ar ?_;refine N2 A0 rfl (Cu _ _ _) rfl (Aj ?_);refine H7 35 11 rfl (Er ?_);refine Ro 7 (w.toNat) [(1,11)] (Af x.aq) hk rfl rfl S0 rfl (Cn rfl) (Iv ?_);conv=>whnf
 have hlk9:=hlw.1
 first|(refine Al 4 rfl [0,1,2,3,4,5,6,7,8,9] Ah (Aj ?_))|(refine Al 7 rfl [0,1,2,3,4,5,6,7,8,9,10,11,12,13,14,15] Ah (Aj ?_))|(refine Al 10 rfl [0,1,2,3,4,5,6,7,8] Ah (Aj ?_))|(refine Al 12 rfl [0,1,2,3,4,5,6,7,8,9,10,11,12,13,14,15,16,17,18,19,20] Ah (Aj ?_))|(refine Al 13 rfl [0,1,2,3,4,5,7,8,9,10,11,12,13,14,15,16,6,17,18,19,20] Ah (Aj ?_))
 refine F0 (A44 (B1 x w).key x.az.aq A7) ?_;refine zne (fun h3=>?_) fun h3=>?_
 ·have h3:B0 x w≠w:=h3
  have hmt:0≤B0 x w∧B0 x w<x.az.aq:=how;have hln:=Pt hC (f:=w) (t:=B0 x w) A7 hmt;have hlk:(Aq x w (B0 x w)).toNat<x.ay.length:=by omega
  have hll:=A3.link_le h hlk;have hlp:J2 x.az.aq w (Es (B1 x w).key x.az.aq)=Aq x w (B0 x w):=S7 hgw A7 hmt;have hs4:(A8 x w).ah.length=4:=hWP.2.1.1;have hE:=hR.1.2.1;have hsum:Jh ((A8 x w).ah.getD (B1 x w).am.ab.toNat default):=hWP.2.2.2.1 _ (Am (by show (B1 x w).am.ab.toNat<(A8 x w).ah.length;omega))
  refine F0 (Sg x.az w (Es (B1 x w).key x.az.aq) og) ?_;rw [hlp];refine Iy rfl (Dw 0 rfl (Dw 1 rfl (Dw 2 rfl (Dw 3 rfl (Dw 5 rfl ?_)))));refine Of 4 ?_;refine Of 6 ?_;refine Wc (α:=Nat→Value) (s':=?_) 7 rfl Ah ?_ ?_;rotate_left;refine Aj ?_;refine A4p A0 rfl hlk rfl (fun u=>go A0 false ?_);conv=>whnf
  exact A34 u
  intro u;refine Of 8 ?_;refine zt2 9 13 ?_ ?_
  focus
   refine Ll (A9d (Be x (Aq x w (B0 x w))) (B1 x w) (by show (x.ay.getD _ default).w≤_;omega)) rfl (Aj ?_)
   refine E6 (Dw 10 rfl ?_);refine zoF 11 ?_;refine zoF 12 ?_;refine splitB [13] Ah ⟨?_,trivial⟩;refine Er ?_;refine E6 ?_
  rotate_left 1
  focus
   refine B8 ?_;refine E6 ?_;refine splitB [9] Ah ⟨?_,trivial⟩;refine Aj ?_;refine Ll (A9d (Be x (Aq x w (B0 x w))) (B1 x w) (by show (x.ay.getD _ default).w≤_;omega)) rfl (Aj ?_)
   refine E6 (Dw 10 rfl ?_);refine zoF 11 ?_;refine zoF 12 ?_
  all_goals
   refine splitB [14] Ah ⟨?_,trivial⟩;refine Er ?_;refine E6 (Dw 15 rfl ?_);refine A01 Ah (Aj ?_)
  all_goals
   refine Cc (fun h4=>?_) fun h4=>?_
   ·have h4:(Cy (Be x (Aq x w (B0 x w))) (B1 x w)).2=false:=by simpa using h4
    refine Ar ?_;rw [Yh hM h3 h4];refine G7 Tryz.prog 8 ((Aq x w (B0 x w)).toNat) [(1,13)] (B7 x.ay) hlk rfl S0 rfl (Cn rfl) ?_;exact K4 () trivial
   have h4:(Cy (Be x (Aq x w (B0 x w))) (B1 x w)).2=true:=by simpa using h4
   have hyes:=Yi hM h3 h4;have hfl:=C7h hC (show (Cg x w).2=true by rw [hyes]) h3
   refine Ar ?_
   first|(refine Al 4 rfl [0,1,2,3,4,5,6,7,8,9] Ah (Aj ?_))|(refine Al 7 rfl [0,1,2,3,4,5,6,7,8,9,10,11,12,13,14,15] Ah (Aj ?_))|(refine Al 10 rfl [0,1,2,3,4,5,6,7,8] Ah (Aj ?_))|(refine Al 12 rfl [0,1,2,3,4,5,6,7,8,9,10,11,12,13,14,15,16,17,18,19,20] Ah (Aj ?_))|(refine Al 13 rfl [0,1,2,3,4,5,7,8,9,10,11,12,13,14,15,16,6,17,18,19,20] Ah (Aj ?_))
   refine B8 ?_;refine Bt (j:=(Aq x w (B0 x w))) A0 rfl (B7 (D6 x (Aq x w (B0 x w)) (Cy (Be x (Aq x w (B0 x w))) (B1 x w)).1).ay) (Hk hlk rfl) ?_;refine Aj ?_;refine zcP (C2e (D6 x (Aq x w (B0 x w)) (Cy (Be x (Aq x w (B0 x w))) (B1 x w)).1) (At x) w (B1 x w).am.ab 1 hb.1 hk hE.1 (by show (B1 x w).am.ab.toNat<(A8 x w).ah.length;omega) hsum Cw) hH hp fun r2 hr2=>?_
   have hk9:w.toNat<(Bc (D6 x (Aq x w (B0 x w)) (Cy (Be x (Aq x w (B0 x w))) (B1 x w)).1) w (Is (A8 (D6 x (Aq x w (B0 x w)) (Cy (Be x (Aq x w (B0 x w))) (B1 x w)).1) w) (B1 x w).am.ab 1)).aq.length:=by show w.toNat<(x.aq.set _ _).length;rw [Jz];exact hk
   have hg9:(Bc (D6 x (Aq x w (B0 x w)) (Cy (Be x (Aq x w (B0 x w))) (B1 x w)).1) w (Is (A8 (D6 x (Aq x w (B0 x w)) (Cy (Be x (Aq x w (B0 x w))) (B1 x w)).1) w) (B1 x w).am.ab 1)).aq.getD w.toNat default=Is (A8 (D6 x (Aq x w (B0 x w)) (Cy (Be x (Aq x w (B0 x w))) (B1 x w)).1) w) (B1 x w).am.ab 1:=A52 hk;have hl9:((Bc (D6 x (Aq x w (B0 x w)) (Cy (Be x (Aq x w (B0 x w))) (B1 x w)).1) w (Is (A8 (D6 x (Aq x w (B0 x w)) (Cy (Be x (Aq x w (B0 x w))) (B1 x w)).1) w) (B1 x w).am.ab 1)).aq.getD w.toNat default).ae.length=(x.aq.getD w.toNat default).ae.length:=by rw [hg9];rfl
   have hl8:0<((Bc (D6 x (Aq x w (B0 x w)) (Cy (Be x (Aq x w (B0 x w))) (B1 x w)).1) w (Is (A8 (D6 x (Aq x w (B0 x w)) (Cy (Be x (Aq x w (B0 x w))) (B1 x w)).1) w) (B1 x w).am.ab 1)).aq.getD w.toNat default).ae.length:=by omega
   refine Zh 0 3 17 rfl rfl (fun v8=>?_);refine A8a 0 3 rfl rfl (fun ho_v8=>?_);refine Iy rfl (Dw 0 rfl (Dw 1 rfl (Dw 2 rfl (Dw 3 rfl (Dw 5 rfl (Dw 7 rfl (Dw 8 rfl (Dw 9 rfl (Dw 10 rfl (Dw 12 rfl ?_))))))))));refine Lq (s':=?_) 11 rfl Ah ?_ ?_;rotate_left;refine Aj ?_;refine H7 118 17 rfl (Er ?_);exact C0
   refine Of 13 ?_;refine Dw 14 rfl ?_;refine Wc (α:=Value) (s':=?_) 15 rfl Ah ?_ ?_;rotate_left;refine Aj ?_;refine M5 A0 rfl (jn:=w.toNat) rfl rfl (fun v9=>go A0 false ?_);conv=>whnf
   exact A34 v9
   intro v9;refine Lq (s':=?_) 16 rfl Ah ?_ ?_;rotate_left;refine Aj ?_;refine B4u A0 rfl (⟨by omega,by omega,by omega⟩) (A9 (((Bc (D6 x (Aq x w (B0 x w)) (Cy (Be x (Aq x w (B0 x w))) (B1 x w)).1) w (Is (A8 (D6 x (Aq x w (B0 x w)) (Cy (Be x (Aq x w (B0 x w))) (B1 x w)).1) w) (B1 x w).am.ab 1)).aq.getD w.toNat default).ae.drop 1)) (Il (k:=1) hl8) (Aj ?_);exact C0
   refine Nl [17,18,19,20] [⟨4,111,.rd v8⟩,⟨6,113,.emp 5⟩] Ah ?_;refine L9 (s':=?_) rfl Dq ?_ ?_;rotate_left;refine Aj ?_;refine B9 A0 rfl (A9 (((Bc (D6 x (Aq x w (B0 x w)) (Cy (Be x (Aq x w (B0 x w))) (B1 x w)).1) w (Is (A8 (D6 x (Aq x w (B0 x w)) (Cy (Be x (Aq x w (B0 x w))) (B1 x w)).1) w) (B1 x w).am.ab 1)).aq.getD w.toNat default).ae.drop 1)) (Bs) (fun _=>Iz _) (by (rw [G4];omega)) (Aj ?_);exact C0
   refine L9 (s':=?_) rfl Dq ?_ ?_;rotate_left;refine Aj ?_;refine H7 111 17 rfl (Er ?_);exact C0
   refine Ms rfl Dq ?_;refine L9 (s':=?_) rfl Dq ?_ ?_;rotate_left;refine Aj ?_;refine Bt (j:=w) A0 rfl (Af (Bc (Bc (D6 x (Aq x w (B0 x w)) (Cy (Be x (Aq x w (B0 x w))) (B1 x w)).1) w (Is (A8 (D6 x (Aq x w (B0 x w)) (Cy (Be x (Aq x w (B0 x w))) (B1 x w)).1) w) (B1 x w).am.ab 1)) w (Et (Is (A8 (D6 x (Aq x w (B0 x w)) (Cy (Be x (Aq x w (B0 x w))) (B1 x w)).1) w) (B1 x w).am.ab 1))).aq) (Hk hk9 (by rw [hg9];rfl)) (Aj ?_);exact C0
   refine Ln A0 Ah Dq (GW.out (Iv ?_));conv=>whnf
   refine C4m Tryz.prog (fun _ g=>Ze 0 3 17 rfl rfl rfl g) ?_;rw [Pv]
   have hz:rc (Cg x w).1=rcb (Bc (D6 x (Aq x w (B0 x w)) (Cy (Be x (Aq x w (B0 x w))) (B1 x w)).1) w (Et (Is (A8 (D6 x (Aq x w (B0 x w)) (Cy (Be x (Aq x w (B0 x w))) (B1 x w)).1) w) (B1 x w).am.ab 1))) (At x&&Dv ((A8 (D6 x (Aq x w (B0 x w)) (Cy (Be x (Aq x w (B0 x w))) (B1 x w)).1) w).ah.getD (B1 x w).am.ab.toNat default+1) (-1000000) 1000000):=by
    show rcb (Cg x w).1 (At (Cg x w).1)=_
    rw [hfl,hyes,hcs,Bool.true_and,B76,A12 (w:=Et (A8 x w)) ⟨hE.1,by show (B1 x w).am.ab<(A8 x w).ah.length;omega⟩]
    rfl
   rw [hz,hyes];exact K4 () trivial
 have h3:B0 x w=w:=h3;refine Zh 0 3 7 rfl rfl (fun v2=>?_);refine A8a 0 3 rfl rfl (fun ho_v2=>?_);refine Iy rfl (Dw 0 rfl (Dw 1 rfl (Dw 2 rfl (Dw 3 rfl (Dw 5 rfl (Dw 6 rfl (Dw 7 rfl (Dw 8 rfl (Dw 9 rfl (Dw 11 rfl ?_))))))))));refine Lq (s':=?_) 10 rfl Ah ?_ ?_;rotate_left;refine Aj ?_;refine H7 97 7 rfl (Er ?_);exact C0
 refine Of 12 ?_;refine Dw 13 rfl ?_;refine Wc (α:=Value) (s':=?_) 14 rfl Ah ?_ ?_;rotate_left;refine Aj ?_;refine M5 A0 rfl (jn:=w.toNat) rfl rfl (fun v3=>go A0 false ?_);conv=>whnf
 exact A34 v3
 intro v3;refine Of 15 ?_;refine Nl [16,17,18,19,20] [⟨4,91,.rd v2⟩] Ah ?_;refine Ms rfl Dq ?_;refine L9 (s':=?_) rfl Dq ?_ ?_;rotate_left;refine Aj ?_;refine B9 A0 rfl (A9 ((x.aq.getD w.toNat default).ar++[B1 x w])) (Ao rfl) Hy A7 (Aj ?_);exact C0
 refine L9 (s':=?_) rfl Dq ?_ ?_;rotate_left;refine Aj ?_;refine H7 91 7 rfl (Er ?_);exact C0
 refine Ms rfl Dq ?_;refine L9 (s':=?_) rfl Dq ?_ ?_;rotate_left;refine Aj ?_;refine Bt (j:=w) A0 rfl (Af (Bc x w (kept (A8 x w) (B1 x w))).aq) (Hk hk rfl) (Aj ?_);exact C0
 refine Ln A0 Ah Dq (GW.out (Iv ?_));conv=>whnf
 refine Ze 0 3 7 rfl rfl rfl ?_;have hk9:w.toNat<(Bc x w (kept (A8 x w) (B1 x w))).aq.length:=by show w.toNat<(x.aq.set _ _).length;rw [Jz];exact hk
 have hg9:(Bc x w (kept (A8 x w) (B1 x w))).aq.getD w.toNat default=kept (A8 x w) (B1 x w):=A52 hk;have hl9:((Bc x w (kept (A8 x w) (B1 x w))).aq.getD w.toNat default).ae.length=(x.aq.getD w.toNat default).ae.length:=by rw [hg9];rfl
 have hl8:0<((Bc x w (kept (A8 x w) (B1 x w))).aq.getD w.toNat default).ae.length:=by omega
 refine Zh 0 3 7 rfl rfl (fun v8=>?_);refine A8a 0 3 rfl rfl (fun ho_v8=>?_);refine Iy rfl (Dw 0 rfl (Dw 1 rfl (Dw 2 rfl (Dw 3 rfl (Dw 5 rfl (Dw 7 rfl (Dw 8 rfl (Dw 9 rfl (Dw 10 rfl (Dw 12 rfl ?_))))))))));refine Lq (s':=?_) 11 rfl Ah ?_ ?_;rotate_left;refine Aj ?_;refine H7 118 7 rfl (Er ?_);exact C0
 refine Of 13 ?_;refine Dw 14 rfl ?_;refine Wc (α:=Value) (s':=?_) 15 rfl Ah ?_ ?_;rotate_left;refine Aj ?_;refine M5 A0 rfl (jn:=w.toNat) rfl rfl (fun v9=>go A0 false ?_);conv=>whnf
 exact A34 v9
 intro v9;refine Lq (s':=?_) 16 rfl Ah ?_ ?_;rotate_left;refine Aj ?_;refine B4u A0 rfl (⟨by omega,by omega,by omega⟩) (A9 (((Bc x w (kept (A8 x w) (B1 x w))).aq.getD w.toNat default).ae.drop 1)) (Il (k:=1) hl8) (Aj ?_);exact C0
 refine Nl [17,18,19,20] [⟨4,111,.rd v8⟩,⟨6,113,.emp 5⟩] Ah ?_;refine L9 (s':=?_) rfl Dq ?_ ?_;rotate_left;refine Aj ?_;refine B9 A0 rfl (A9 (((Bc x w (kept (A8 x w) (B1 x w))).aq.getD w.toNat default).ae.drop 1)) (Bs) (fun _=>Iz _) (by (rw [G4];omega)) (Aj ?_);exact C0
 refine L9 (s':=?_) rfl Dq ?_ ?_;rotate_left;refine Aj ?_;refine H7 111 7 rfl (Er ?_);exact C0
 refine Ms rfl Dq ?_;refine L9 (s':=?_) rfl Dq ?_ ?_;rotate_left;refine Aj ?_;refine Bt (j:=w) A0 rfl (Af (Bc (Bc x w (kept (A8 x w) (B1 x w))) w (Et (kept (A8 x w) (B1 x w)))).aq) (Hk hk9 (by rw [hg9];rfl)) (Aj ?_);exact C0
 refine Ln A0 Ah Dq (GW.out (Iv ?_));conv=>whnf
 refine C4m Tryz.prog (fun _ g=>Ze 0 3 7 rfl rfl rfl g) ?_;rw [Pv];have hyes:=A1y hM h3
 have hz:rc (Cg x w).1=rcb (Bc x w (Et (kept (A8 x w) (B1 x w)))) (At x):=by
  show rcb (Cg x w).1 (At (Cg x w).1)=_
  rw [C32 hC h3,hyes,hcs];rfl
 rw [hz,hyes];exact K4 () trivial
theorem A66 (l:List D8)(n:Nat):F7 n fun i=>D8.c (l.getD i default):=by
 intro i hi c hc;simp only [D8.c,Ca,Rs,T7] at hc
 rcases hc with rfl|rfl|rfl<;>exact ⟨_,rfl⟩
theorem A9h (l:List D8):(Iu D8.c l).length=l.length * 3:=B4w (es:=3) (fun _=>rfl) l
theorem A60 (l:List D8)(k:Nat):l.eraseIdx k=l.take k++l.drop (k+1):=List.eraseIdx_eq_take_drop_succ l k
set_option maxHeartbeats 4000000 in
theorem B9k (l:List D8)(k:Nat)(hk:k<l.length)(hl:l.length≤16777216):Vh Tryz.prog (fun _=>True) 237 [] [.one (Bd l)] [.one (vi k),.one (vi ((k:Int)+1))] (fun _:Unit=>True) (fun _=>[.one (Bd (l.eraseIdx k))]):=by
 refine B26 A0 false Tryz.func237 rfl Cw fun B hH hp=>?_;conv=>whnf
 refine C4o A0 rfl rfl rfl rfl rfl rfl rfl (l:=(k:Int)) (h:=(k:Int)+1) (m:=(l.length:Int)) rfl rfl rfl ⟨by omega,by omega,by omega,by omega⟩ (Aj ?_);refine L8 (fun hz=>?_) fun hz=>?_
 ·omega
 refine A51 0 3 D8.c l rfl A7 (A66 _ _) (fun b off cap pre C9 p1 p2 p3 p4=>?_);refine Qb 0 0 rfl rfl ?_
 have hlast:l.drop k=(l.drop k).take (l.length-(k+1))++l.drop (l.length-1):=by
  have e:=Pe (l.length-(k+1)) (l.drop k);rw [List.drop_drop,show k+(l.length-(k+1))=l.length-1 by omega] at e
  exact e.symm
 have hcut:l=l.take k++l.drop k:=(Pe k l).symm;have hcut2:l=l.take (k+1)++l.drop (k+1):=(Pe (k+1) l).symm;have t1:(l.take k).length=k:=by rw [Eo];omega
 have t2:((l.drop k).take (l.length-(k+1))).length=l.length-(k+1):=by rw [Eo,G4];omega
 have t3:(l.drop (k+1)).length=l.length-(k+1):=G4;have t4:(l.take (k+1)).length=k+1:=by rw [Eo];omega
 have t5:(l.drop (l.length-1)).length=1:=by rw [G4];omega
 have te:(l.take k++l.drop (k+1)).length=l.length-1:=by rw [D7,t1,t3];omega
 have c1:pre++Iu D8.c l++C9=(pre++Iu D8.c (l.take k))++Iu D8.c ((l.drop k).take (l.length-(k+1)))++(Iu D8.c (l.drop (l.length-1))++C9):=by
  conv=>lhs;rw [hcut,hlast,Jq,Jq]
  simp only [Cv]
 have c2:pre++Iu D8.c l++C9=(pre++Iu D8.c (l.take (k+1)))++Iu D8.c (l.drop (k+1))++C9:=by
  conv=>lhs;rw [hcut2,Jq]
  simp only [Cv]
 refine Go.Sx.Hd A0 false ?_;conv=>whnf
 rcases Nat.lt_or_ge (k+1) cap with hlc|hlc
 ·refine Iy rfl (Dw 0 rfl (Dw 1 rfl (Dw 3 rfl (Dw 4 rfl ?_))))
  refine Lq (s':=?_) 2 rfl Ah ?_ ?_;rotate_left;refine Go.Sx.Hd A0 false ?_;conv=>whnf
  refine Li A0 rfl ⟨by omega,by omega,by omega,(fun h=>by cases h),by omega⟩ (off * 3) k cap Bi Bi Bi (Go.Sx.Hd A0 false ?_);conv=>whnf
  exact C0
  refine Lq (s':=?_) 5 rfl Ah ?_ ?_;rotate_left;refine Go.Sx.Hd A0 false ?_;conv=>whnf
  refine Li A0 rfl ⟨by omega,by omega,by omega,fun _=>by omega,by omega⟩ (off * 3+(k+1) * 3) (l.length-(k+1)) (cap-(k+1)) Bi A7 A7 (Go.Sx.Hd A0 false ?_);conv=>whnf
  exact C0
  refine Nl [6,7] [] Ah ?_;refine L9 (s':=?_) rfl Dq ?_ ?_;rotate_left;refine Go.Sx.Hd A0 false ?_;conv=>whnf
  refine D04 (kb:=1) (kb2:=1) A0 rfl rfl rfl rfl rfl rfl rfl rfl rfl rfl rfl rfl rfl A7 (pre++Iu D8.c (l.take k)) (Iu D8.c ((l.drop k).take (l.length-(k+1)))) (Iu D8.c (l.drop (l.length-1))++C9) (pre++Iu D8.c (l.take (k+1))) (Iu D8.c (l.drop (k+1))) C9 (by exact c1) (by rw [D7,A9h,t1,p1]) (by rw [A9h,A9h,t2,t3]) (by exact c2) (by rw [D7,A9h,t4,p1]) (by rw [A9h,t3]) (by exact C8n D8.c _) (Go.Sx.Hd A0 false ?_);conv=>whnf
  exact C0
  refine L9 (s':=?_) rfl Dq ?_ ?_;rotate_left;refine Go.Sx.Hd A0 false ?_;conv=>whnf
  refine B8 ?_;exact C0
  refine Ln A0 Ah Dq (GW.out (Go.Sx.Hd A0 false ?_));conv=>whnf
  refine Li A0 rfl ⟨by omega,by omega,by omega,(fun h=>by cases h),by omega⟩ (off * 3+(l.length-1) * 3) 1 (cap-(l.length-1)) (by rw [show k+(l.length-(k+1))=l.length-1 by omega];simp) A7 A7 (Go.Sx.Hd A0 false ?_)
  conv=>whnf
  refine B81 (kb:=1) A0 rfl rfl rfl rfl rfl rfl rfl rfl A7 (pre++Iu D8.c (l.take k)++Iu D8.c (l.drop (k+1))) (Iu D8.c (l.drop (l.length-1))) C9 (by simp only [Cv]) (by rw [D7,D7,A9h,A9h,p1,t1,t3];omega) (by rw [A9h,t5]) (Go.Sx.Hd A0 false ?_);conv=>whnf
  refine B66 Tryz.prog 6 1 off 3 D8.c (l.take k++l.drop (k+1)) pre (List.replicate (1 * 3) .any++C9) rfl (by rw [Jq];simp only [Cv]) (by exact p1) (fun _=>rfl) (A66 _ _) (by exact p3) (by exact ⟨by rw [te];omega,by rw [te,D7,X7];omega⟩) rfl rfl rfl (by rw [te];omega) ?_;rw [←A60];exact Zo A0 () trivial rfl rfl Mm
 have e1:l.length=cap:=by omega
 have e2:k+1=l.length:=by omega
 have d1:l.drop (k+1)=[]:=List.drop_eq_nil_of_le A7;have d2:(l.drop k).length=1:=by rw [G4];omega
 have c3:pre++Iu D8.c l++C9=(pre++Iu D8.c (l.take k))++[]++(Iu D8.c (l.drop k)++C9):=by
  conv=>lhs;rw [hcut,Jq]
  simp only [Cv,Ut,Hw]
 refine Iy rfl (Dw 0 rfl (Dw 1 rfl (Dw 3 rfl (Dw 4 rfl ?_))));refine Lq (s':=?_) 2 rfl Ah ?_ ?_;rotate_left;refine Go.Sx.Hd A0 false ?_;conv=>whnf
 refine Li A0 rfl ⟨by omega,by omega,by omega,(fun h=>by cases h),by omega⟩ (off * 3) k cap Bi Bi Bi (Go.Sx.Hd A0 false ?_);conv=>whnf
 exact C0
 refine Lq (s':=?_) 5 rfl Ah ?_ ?_;rotate_left;refine Go.Sx.Hd A0 false ?_;conv=>whnf
 refine D13 A0 rfl rfl rfl rfl rfl rfl (l:=(k:Int)+1) rfl ⟨by omega,by omega,by omega⟩ (Go.Sx.Hd A0 false ?_);conv=>whnf
 exact C0
 refine Nl [6,7] [] Ah ?_;refine L9 (s':=?_) rfl Dq ?_ ?_;rotate_left;refine Go.Sx.Hd A0 false ?_;conv=>whnf
 refine D04 (kb:=1) (kb2:=1) A0 rfl rfl rfl rfl rfl rfl rfl rfl rfl rfl rfl rfl rfl A7 (pre++Iu D8.c (l.take k)) [] (Iu D8.c (l.drop k)++C9) pre [] (Iu D8.c l++C9) (by exact c3) (by rw [D7,A9h,t1,p1]) rfl (by simp only [Hw,Cv]) (by exact p1) Bi (fun _ h=>by cases h) (Go.Sx.Hd A0 false ?_);conv=>whnf
 exact C0
 refine L9 (s':=?_) rfl Dq ?_ ?_;rotate_left;refine Go.Sx.Hd A0 false ?_;conv=>whnf
 refine B8 ?_;exact C0
 refine Ln A0 Ah Dq (GW.out (Go.Sx.Hd A0 false ?_));conv=>whnf
 refine Li A0 rfl ⟨by omega,by omega,by omega,(fun h=>by cases h),by omega⟩ (off * 3+k * 3) 1 (cap-k) Bi A7 A7 (Go.Sx.Hd A0 false ?_);conv=>whnf
 refine B81 (kb:=1) A0 rfl rfl rfl rfl rfl rfl rfl rfl A7 (pre++Iu D8.c (l.take k)) (Iu D8.c (l.drop k)) C9 (by simp only [Cv,Ut,Hw]) (by rw [D7,A9h,p1,t1]) (by rw [A9h,d2]) (Go.Sx.Hd A0 false ?_);conv=>whnf
 refine B66 Tryz.prog 6 1 off 3 D8.c (l.take k) pre (List.replicate (1 * 3) .any++C9) rfl (by simp only [Cv]) (by exact p1) (fun _=>rfl) (A66 _ _) (by exact p3) (by exact ⟨by rw [t1];omega,by rw [t1,D7,X7];omega⟩) rfl rfl rfl (by rw [t1];rfl) ?_;rw [show l.eraseIdx k=l.take k by rw [A60,d1,Hw]]
 exact Zo A0 () trivial rfl rfl Mm
end Go.Proofs.YtmhcebdkjgkmlaaGreatDoor
