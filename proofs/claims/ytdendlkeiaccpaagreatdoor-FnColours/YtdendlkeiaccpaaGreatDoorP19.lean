/- Part 19 of the proof that each of the laws FnColours returns true for every input. No conditions. -/
import Derived.Test.YtdendlkeiaccpaaGreatDoorP18
import Derived.Test.YtdendlkeiaccpaaGreatDoorP5
import Derived.Test.YtdendlkeiaccpaaGreatDoorP6
import Derived.Test.YtdendlkeiaccpaaGreatDoorP15
import Derived.Test.YtdendlkeiaccpaaGreatDoorP12
import Derived.Test.YtdendlkeiaccpaaGreatDoorP8
import Derived.Test.YtdendlkeiaccpaaGreatDoorP10
import Derived.Test.YtdendlkeiaccpaaGreatDoorP16
import Derived.Test.YtdendlkeiaccpaaGreatDoorP14
import Derived.Test.YtdendlkeiaccpaaGreatDoorP13

set_option linter.unusedSimpArgs false
set_option linter.unusedVariables false
set_option maxRecDepth 100000
namespace Go.Proofs.YtdendlkeiaccpaaGreatDoor
open Go.Sx
theorem V0 {α:Type} [Inhabited α] (f:α→Nat):∀(l:List α) (j:Nat) (x:α),j<l.length→((l.set j x).map f).sum+f (l.getD j default)=(l.map f).sum+f x
 | [],_,_,h=>absurd h (Nat.not_lt_zero _)
 |y::r,0,x,_=>by simp;omega
 |y::r,j+1,x,h=>by
  have:=V0 f r j x (by simpa using h)
  simp only [List.set_cons_succ,List.map_cons,List.sum_cons,List.getD_cons_succ]
  omega
theorem Ic {c:A3}{j:Int}{w:Aa}(h:0≤j∧j<c.workers.length):(B3 c j w).w+(Ab c j).w=c.w+w.w:=by
 have:=V0 Aa.w c.workers j.toNat w Ac
 simp only [B3,A3.w,wS,List.length_set,Ab]
 omega
theorem Se {c:A3}{k:Int}{l:Bz}(h:0≤k∧k<c.links.length):(C2 c k l).w+(Br c k).w=c.w+l.w:=by
 have:=V0 Bz.w c.links k.toNat l Ac
 simp only [C2,A3.w,wS,List.length_set,Br]
 omega
theorem Mr {c:A3}{e:Int}{t:Cu}:(C9 c e t).w=c.w:=by simp only [C9,A3.w,List.length_set]
theorem A48 {g:Aq}{w:Aa}:(F3 g w).1.w≤w.w+2:=by
 unfold F3
 split
 ·rename_i h
  have h1:=A6x (g:=g) (cs:=w.cells) (r:=w.queue.getD 0 default)
  have h2:=A4r (g:=g) (cs:=w.cells) (r:=w.queue.getD 0 default)
  have h3:=h.2.2.2
  have h4:(if capped g (w.queue.getD 0 default)=true then w.caps.set (w.queue.getD 0 default).stamp.epoch.toNat true else w.caps).length=w.caps.length:=by split<;>simp
  simp only [Hg,Aa.w,List.length_drop,h4]
  omega
 simp
theorem Ui {g:Aq}{w:Aa}:(D8 g w).1.w≤w.w:=by
 unfold D8
 split
 ·rename_i h
  have:=h.2.2.2.2
  simp only [J7,Aa.w,List.length_append,List.length_singleton,List.length_drop]
  omega
 simp
theorem A6m {w:Aa}{e:Int}:(H5 w e).w=w.w:=by
 unfold H5 El
 split
 ·simp only [Aa.w,List.length_set]
 rfl
theorem X3 {w:Aa}{r:Ae}:(E8 w r).w=w.w+1:=by
 unfold E8 Gy El kept
 split
 ·simp only [Aa.w,List.length_set,List.length_append,List.length_singleton];omega
 simp only [Aa.w,List.length_append,List.length_singleton];omega
theorem A6y {c:A3}{p:C7}:(Aj c p).1.w≤c.w+4:=by
 have work:∀w,(Df c w).1.w≤c.w+4:=fun w=>by
  unfold Df
  split
  ·rename_i h
   have h1:=Ic (w:=(F3 c.graph (Ab c w)).1) h.2
   have h2:=A48 (g:=c.graph) (w:=Ab c w)
   simp only
   omega
  simp
 have input:∀w,(Cz c w).1.w≤c.w+4:=fun w=>by
  unfold Cz
  split
  ·rename_i h
   have h1:=Ic (w:=(D8 c.graph (Ab c w)).1) h.2
   have h2:=Ui (g:=c.graph) (w:=Ab c w)
   simp only
   omega
  simp
 have move:∀w,(C3 c w).1.w≤c.w+4:=fun w=>by
  unfold C3
  split
  ·rename_i h
   obtain ⟨hW,hs⟩:=h
   have hu:(Dz (Ab c w)).w+1=(Ab c w).w:=by simp only [Dz,Aa.w,List.length_drop];omega
   split
   ·have h1:=Ic (w:=kept (Dz (Ab c w)) (Bl c w)) hW.2
    have h2:(kept (Dz (Ab c w)) (Bl c w)).w=(Dz (Ab c w)).w+1:=by simp only [kept,Aa.w,List.length_append,List.length_singleton];omega
    simp only
    omega
   split
   ·have hb:0≤w∧w<c.graph.workers:=by have:=hW.1.1.2.1;exact ⟨hW.2.1,by have:=hW.2.2;omega⟩
    have h1:=Se (l:=(Cs (Br c (B0 c w (Bi c w))) (Bl c w)).1) (I9 hW.1 hb (T8 hW hs)).1
    have h2:=Ic (c:=C2 c (B0 c w (Bi c w)) (Cs (Br c (B0 c w (Bi c w))) (Bl c w)).1) (w:=H5 (Dz (Ab c w)) (Bl c w).stamp.epoch) hW.2
    have h3:(Cs (Br c (B0 c w (Bi c w))) (Bl c w)).1.w≤(Br c (B0 c w (Bi c w))).w+1:=by
     unfold Cs
     split
     ·simp [Bz.w]
     simp
    have h4:(Ab (C2 c (B0 c w (Bi c w)) (Cs (Br c (B0 c w (Bi c w))) (Bl c w)).1) w).w=(Ab c w).w:=rfl
    rw [A6m] at h2
    simp only
    omega
   simp
  simp
 have take:∀f t,(Cm c f t).1.w≤c.w+4:=fun f t=>by
  unfold Cm
  split
  ·rename_i h
   obtain ⟨hL,hk⟩:=h
   have ht:0≤t∧t<c.workers.length:=by have:=hL.1.1.2.1;have:=hL.2.2.2;omega
   have h1:=Se (l:=(Bw (Br c (B0 c f t))).1) (I9 hL.1 hL.2.2.1 hL.2.2.2).1
   have h2:=Ic (c:=C2 c (B0 c f t) (Bw (Br c (B0 c f t))).1) (w:=E8 (Ab c t) (Bw (Br c (B0 c f t))).2.1) ht
   have h3:(Bw (Br c (B0 c f t))).1.w≤(Br c (B0 c f t)).w:=by
    unfold Bw
    split
    ·simp [Bz.w]
    simp
   have h4:(Ab (C2 c (B0 c f t) (Bw (Br c (B0 c f t))).1) t).w=(Ab c t).w:=rfl
   rw [X3] at h2
   simp only
   omega
  simp
 have credit:∀f t,(Cy c f t).1.w≤c.w+4:=fun f t=>by
  unfold Cy
  split
  ·rename_i hL
   have h1:=Se (l:=(Cr (Br c (B0 c f t))).1) (I9 hL.1 hL.2.2.1 hL.2.2.2).1
   have h3:(Cr (Br c (B0 c f t))).1.w=(Br c (B0 c f t)).w:=by
    unfold Cr
    split<;>simp [Bz.w]
   simp only
   omega
  simp
 have tok:∀e,(Bc c e).1.w≤c.w+4:=fun e=>by
  unfold Bc
  split
  ·rename_i hT
   obtain ⟨hC,he,hD,hP⟩:=hT
   have hTP:Jm c.graph.workers (A9 c e):=hC.2.2.2.1 _ (Ay (d:=default) (show e.toNat<c.tokens.length by have:=hC.1.2.2.2;omega))
   have hn1:=hC.1.1.2.1
   have hwl:=hC.1.2.1
   have hat:0≤(A9 c e).at_∧(A9 c e).at_<c.workers.length:=by have:=hTP.1;omega
   have hwh:(Ef (Ab c (A9 c e).at_) e).w=(Ab c (A9 c e).at_).w:=by simp only [Ef,Aa.w,List.length_set]
   simp only
   split
   ·have h1:=Ic (c:=C9 c e ⟨true,(c.workers.length:Int)-1,0,false,(Ab c (A9 c e).at_).caps.getD e.toNat default⟩) (w:=Ef (Ab c (A9 c e).at_) e) hat
    rw [Mr,hwh] at h1
    have h2:(Ab (C9 c e ⟨true,(c.workers.length:Int)-1,0,false,(Ab c (A9 c e).at_).caps.getD e.toNat default⟩) (A9 c e).at_).w=(Ab c (A9 c e).at_).w:=rfl
    simp only
    omega
   split
   ·split
    ·have h1:=Ic (c:=C9 c e ⟨(A9 c e).going,(A9 c e).at_-1,(A9 c e).sum+(Ab c (A9 c e).at_).sums.getD e.toNat default,(A9 c e).black||(Ab c (A9 c e).at_).black.getD e.toNat default,(A9 c e).capped||(Ab c (A9 c e).at_).caps.getD e.toNat default⟩) (w:=Ef (Ab c (A9 c e).at_) e) hat
     rw [Mr,hwh] at h1
     have h2:(Ab (C9 c e ⟨(A9 c e).going,(A9 c e).at_-1,(A9 c e).sum+(Ab c (A9 c e).at_).sums.getD e.toNat default,(A9 c e).black||(Ab c (A9 c e).at_).black.getD e.toNat default,(A9 c e).capped||(Ab c (A9 c e).at_).caps.getD e.toNat default⟩) (A9 c e).at_).w=(Ab c (A9 c e).at_).w:=rfl
     simp only
     omega
    simp
   rename_i hg ha
   have hA:(A9 c e).at_=0:=by have:=hTP.1;omega
   unfold F2
   split
   ·have h1:=Ic (c:=C9 c e ⟨false,(A9 c e).at_,(A9 c e).sum,(A9 c e).black,(A9 c e).capped⟩) (j:=0) (w:=Ct (Ab c (A9 c e).at_) ⟨e,(A9 c e).capped||(Ab c (A9 c e).at_).caps.getD e.toNat default⟩) (by have:(C9 c e ⟨false,(A9 c e).at_,(A9 c e).sum,(A9 c e).black,(A9 c e).capped⟩).workers.length=c.workers.length:=rfl;omega)
    rw [Mr] at h1
    have h2:(Ab (C9 c e ⟨false,(A9 c e).at_,(A9 c e).sum,(A9 c e).black,(A9 c e).capped⟩) 0).w=(Ab c (A9 c e).at_).w:=by rw [hA];rfl
    have h3:(Ct (Ab c (A9 c e).at_) ⟨e,(A9 c e).capped||(Ab c (A9 c e).at_).caps.getD e.toNat default⟩).w=(Ab c (A9 c e).at_).w+1:=by simp only [Ct,Aa.w,List.length_append,List.length_singleton];omega
    have h4:∀(x:A3) l,(Gk x l).w=x.w+l.length:=fun x l=>by simp only [Gk,A3.w,List.length_append];omega
    rw [h4]
    have h5:(Gd e ((A9 c e).capped||(Ab c (A9 c e).at_).caps.getD e.toNat default) ((C9 c e ⟨false,(A9 c e).at_,(A9 c e).sum,(A9 c e).black,(A9 c e).capped⟩).workers.length-1)).length≤3:=by
     have:(C9 c e ⟨false,(A9 c e).at_,(A9 c e).sum,(A9 c e).black,(A9 c e).capped⟩).workers.length=c.workers.length:=rfl
     rw [this]
     simp only [Gd,List.length_map,List.length_range]
     omega
    omega
   rw [Mr];omega
  simp
 have hear:∀w,(D5 c w).1.w≤c.w+4:=fun w=>by
  unfold D5
  split
  ·rename_i hn
   obtain ⟨m1,m2⟩:=L4 hn.1 hn.2
   have hN:=hn.1.2.2.2.2 _ m1
   have hw:0≤w∧w<c.workers.length:=by have:=hn.1.1.2.1;have:=hN.1;omega
   have h0:(I8 c w).w≤c.w:=by
    have:=List.length_eraseIdx_le c.news (Et c w)
    simp only [I8,A3.w]
    omega
   split
   ·simp only;omega
   have h1:=Ic (c:=I8 c w) (w:=Ct (Ab c w) ⟨(Dt c w).epoch,(Dt c w).capped⟩) hw
   have h2:(Ab (I8 c w) w).w=(Ab c w).w:=rfl
   have h3:(Ct (Ab c w) ⟨(Dt c w).epoch,(Dt c w).capped⟩).w=(Ab c w).w+1:=by simp only [Ct,Aa.w,List.length_append,List.length_singleton];omega
   simp only
   omega
  simp
 unfold Aj
 split
 ·exact work _
 split
 ·exact input _
 split
 ·exact move _
 split
 ·exact take _ _
 split
 ·exact credit _ _
 split
 ·exact tok _
 split
 ·exact hear _
 simp
theorem A04 {c:A3}(h:As c):M6 c:=fun l hl=>by
 obtain ⟨i,hi,rfl⟩:=List.getElem_of_mem hl
 have:=(h.2.2.1 i hi).1.1
 have e:c.links.getD i default=c.links[i]:=by simp [List.getD,hi]
 rw [e] at this
 simp only [To] at this
 omega
theorem L5 {c:A3}{p:C7}(h:¬ As c):Aj c p=(c,false):=by
 unfold Aj
 repeat' split
 ·unfold Df;rw [if_neg (fun q=>h q.1)]
 ·unfold Cz;rw [if_neg (fun q=>h q.1)]
 ·unfold C3;rw [if_neg (fun q=>h q.1.1)]
 ·unfold Cm;rw [if_neg (fun q=>h q.1.1)]
 ·unfold Cy;rw [if_neg (fun q=>h q.1)]
 ·exact Nx (fun q=>h q.1)
 ·unfold D5;rw [if_neg (fun q=>h q.1)]
 rfl
theorem Iq {c d:A3}(h:d.links=c.links)(hg:M6 c):M6 d:=fun l hl=>hg l (h▸hl)
theorem O2 (c:A3)(e:Int):(Bc c e).1.links=c.links:=by
 unfold Bc
 dsimp only
 repeat' split
 all_goals first
  |rfl
  |(unfold F2;split<;>rfl)
theorem A9v {c:A3}{p:C7}(hg:M6 c):M6 (Aj c p).1:=by
 by_cases h:As c
 ·unfold Aj
  split
  ·unfold Df;split<;>exact Iq rfl hg
  split
  ·unfold Cz;split<;>exact Iq rfl hg
  split
  ·unfold C3
   split
   ·rename_i hM
    split
    ·exact Iq rfl hg
    rename_i hne
    split
    ·refine Iq ?_ (A04 (Qz hM.1 hM.2 hne))
     rfl
    exact hg
   exact hg
  split
  ·unfold Cm
   split
   ·rename_i hT
    refine Iq ?_ (A04 (R9 hT.1))
    rfl
   exact hg
  split
  ·exact A04 (Q6 h)
  split
  ·exact Iq (O2 c p.a) hg
  split
  ·unfold D5
   split
   ·split<;>exact Iq rfl hg
   exact hg
  exact hg
 rw [L5 h]
 exact hg
theorem Zv {c:A3}{l:List C7}{k:Nat}(hk:k<l.length):Bg c (l.take (k+1))=Dy (Bg c (l.take k)) (l.getD k default):=by
 unfold Bg
 have:l.take (k+1)=l.take k++[l.getD k default]:=by
  rw [List.take_succ_eq_append_getElem hk]
  simp [List.getD,hk]
 rw [this,List.foldl_append]
 rfl
theorem B6y (l:List C7):∀s:A3×List Bool,(l.foldl Dy s).1.w≤s.1.w+4 * l.length:=by
 induction l with
 |nil=>intro s;simp
 |cons p r ih=>
  intro s
  have h1:=ih (Dy s p)
  have h2:=A6y (c:=s.1) (p:=p)
  simp only [List.foldl_cons,List.length_cons]
  have e:(Dy s p).1=(Aj s.1 p).1:=rfl
  rw [e] at h1
  omega
theorem Mc {c:A3}{l:List C7}:(Bg c l).1.w≤c.w+4 * l.length:=B6y l (c,[])
theorem B0l (l:List C7):∀s:A3×List Bool,M6 s.1→M6 (l.foldl Dy s).1:=by
 induction l with
 |nil=>intro s h;exact h
 |cons p r ih=>intro s h;exact ih (Dy s p) (A9v h)
theorem P7 {c:A3}{l:List C7}(h:M6 c):M6 (Bg c l).1:=B0l l (c,[]) h
theorem B0m (l:List C7):∀s:A3×List Bool,(l.foldl Dy s).2.length=s.2.length+l.length:=by
 induction l with
 |nil=>intro s;simp
 |cons p r ih=>
  intro s
  have h1:=ih (Dy s p)
  simp only [List.foldl_cons,List.length_cons]
  rw [h1]
  simp only [Dy,List.length_append,List.length_cons,List.length_nil]
  omega
theorem A4g {c:A3}{l:List C7}:(Bg c l).2.length=l.length:=by
 have:=B0m l (c,[])
 simpa [Bg] using this
theorem B31 (c:A3):Gf c≤4:=by
 have:=H8 c.graph.workers 0 4 Az
 unfold Gf
 omega
theorem J8 (c:A3):(Kl (Gf c)).length≤44:=by
 have h:=B31 c
 have e:Gf c=0∨Gf c=1∨Gf c=2∨Gf c=3∨Gf c=4:=by omega
 rcases e with e|e|e|e|e<;>rw [e]<;>decide
theorem A8l {c:A3}:(Bt c).1.w≤c.w+176:=by
 have h1:=Mc (c:=c) (l:=Kl (Gf c))
 have h2:=J8 c
 show (Bg c (Kl (Gf c))).1.w≤_
 omega
theorem Zs {c:A3}(h:M6 c):M6 (Bt c).1:=P7 h
def frN (c:A3):Nat→A3
 | 0=>c
 |k+1=>(Bt (frN c k)).1
theorem B7g (c:A3)(k:Nat):(frN c k).w≤c.w+176 * k:=by
 induction k with
 |zero=>simp [frN]
 |succ k ih=>
  have:=A8l (c:=frN c k)
  simp only [frN]
  omega
theorem Z7 (c:A3)(k:Nat):frN (Bt c).1 k=frN c (k+1):=by
 induction k with
 |zero=>rfl
 |succ k ih=>simp only [frN] at ih ⊢;rw [ih]
theorem Vx (k:Nat):∀(n:Nat) (c:A3),k≤n→(∀i,i<k→(Bt (frN c i)).2≠0)→D7 n c=((D7 (n-k) (frN c k)).1,(D7 (n-k) (frN c k)).2+k):=by
 induction k with
 |zero=>intro n c _ _;simp [frN]
 |succ k ih=>
  intro n c hk h
  obtain ⟨m,rfl⟩:∃m,n=m+1:=⟨n-1,by omega⟩
  have h0:(Bt c).2≠0:=h 0 Ac
  have h1:=ih m (Bt c).1 Ac (fun i hi=>by rw [Z7];exact h (i+1) Ac)
  rw [Z7] at h1
  rw [D7,if_neg h0,h1,show m+1-(k+1)=m-k by omega]
  rfl
theorem Rs {n k:Nat}{c:A3}(hk:k<n)(h:∀i,i<k→(Bt (frN c i)).2≠0)(h0:(Bt (frN c k)).2=0):D7 n c=(frN c (k+1),k+1):=by
 rw [Vx k n c Ac h]
 obtain ⟨m,hm⟩:∃m,n-k=m+1:=⟨n-k-1,by omega⟩
 rw [hm,D7,if_pos h0]
 simp only [frN]
 congr 1
 omega
theorem Rq {n:Nat}{c:A3}(h:∀i,i<n→(Bt (frN c i)).2≠0):D7 n c=(frN c n,n):=by
 rw [Vx n n c (Nat.le_refl _) h,Nat.sub_self]
 simp [D7]
theorem B2h (l:List Fe)(k:Nat):l.eraseIdx k=l.take k++l.drop (k+1):=List.eraseIdx_eq_take_drop_succ l k
theorem Ux {l:Bz}{r:Ae}(h:¬ A2k l r):Cs l r=(l,false):=if_neg h
theorem B38 {l:Bz}{r:Ae}(h:A2k l r):Cs l r=(⟨l.cap,l.queue++[r],l.credits-1,l.back,l.sent+1,l.got⟩,true):=if_pos h
theorem A16 {l:Bz}(h:¬ (Gm l∧0<l.queue.length)):Bw l=(l,default,false):=if_neg h
theorem A4x {l:Bz}(h:Gm l∧0<l.queue.length):Bw l=(⟨l.cap,l.queue.drop 1,l.credits,l.back+1,l.sent,l.got+1⟩,l.queue.getD 0 default,true):=if_pos h
theorem A7h {l:Bz}(h:¬ (Gm l∧l.back≠0)):Cr l=(l,false):=if_neg h
theorem B12 {l:Bz}(h:Gm l∧l.back≠0):Cr l=(⟨l.cap,l.queue,l.credits+1,l.back-1,l.sent,l.got⟩,true):=if_pos h
set_option maxHeartbeats 1000000 in
theorem R8 (l:Bz)(r:Ae)(hl:l.w≤16777216):Be Tryz.prog 153 [.agg l.c,.agg r.c] [.agg (Cs l r).1.c,.one (vb (Cs l r).2)]:=by
 have hq:l.queue.length≤16777216:=hl
 refine B5 A0 false Tryz.func153 rfl Az fun W=>?_
 conv=>whnf
 refine Cn (L0 l Ac) rfl (A8 ?_)
 refine At (Nr l Ac) rfl (A8 ?_)
 refine ⟨fun h1=>?_,fun h1=>?_⟩<;>conv=>whnf
 ·have h1:Ko l=false:=by simpa using h1
  repeat refine Bd ?_
  rw [Ux (fun p=>absurd p.1 (of_decide_eq_false h1))]
  refine Ap A0 rfl rfl ?_
  exact B1
 have h1:Gm l:=of_decide_eq_true (show Ko l=true by simpa using h1)
 obtain ⟨⟨n1,n2,n3,n4,n5,n6,n7⟩,nA⟩:=id h1
 repeat refine Bd ?_
 refine At (Hx r) rfl (A8 ?_)
 repeat refine Bd ?_
 refine ⟨fun h2=>?_,fun h2=>?_⟩<;>conv=>whnf
 ·have h2:Ib r=false:=by simpa using h2
  repeat refine Bd ?_
  rw [Ux (fun p=>absurd p.2.1 (of_decide_eq_false h2))]
  refine Ap A0 rfl rfl ?_
  exact B1
 have h2:H2 r:=of_decide_eq_true (show Ib r=true by simpa using h2)
 repeat refine Bd ?_
 refine ⟨fun h3=>have h3:=eq_of_beq h3;?_,fun h3=>have h3:=beq_eq_false_iff_ne.1 h3;?_⟩<;>conv=>whnf
 ·repeat refine Bd ?_
  rw [Ux (fun p=>p.2.2.1 h3)]
  refine Ap A0 rfl rfl ?_
  exact B1
 repeat refine Bd ?_
 refine ⟨fun h4=>?_,fun h4=>?_⟩<;>conv=>whnf
 ·have h4:l.sent=1000000000:=by (have:=of_decide_eq_true h4;omega)
  repeat refine Bd ?_
  rw [Ux (fun p=>p.2.2.2 h4)]
  refine Ap A0 rfl rfl ?_
  exact B1
 have h4:l.sent≠1000000000:=by (have:=of_decide_eq_false h4;omega)
 repeat refine Bd ?_
 refine B6 A0 rfl rfl rfl rfl rfl rfl rfl rfl rfl rfl rfl (Ag (l.queue++[r])) (Ad rfl) Bp Ac (A8 ?_)
 (repeat refine An ?_)
 rw [B38 ⟨h1,h2,h3,h4⟩]
 refine Ap A0 rfl rfl ?_
 exact B1
set_option maxHeartbeats 1000000 in
theorem Si (l:Bz)(hl:l.w≤16777216):Be Tryz.prog 155 [.agg l.c] [.agg (Bw l).1.c,.agg (Bw l).2.1.c,.one (vb (Bw l).2.2)]:=by
 have hq:l.queue.length≤16777216:=hl
 refine B5 A0 false Tryz.func155 rfl Az fun W=>?_
 conv=>whnf
 refine Cn (L0 l Ac) rfl (A8 ?_)
 refine At (Nr l Ac) rfl (A8 ?_)
 refine ⟨fun h1=>?_,fun h1=>?_⟩<;>conv=>whnf
 ·have h1:Ko l=false:=by simpa using h1
  repeat refine Bd ?_
  rw [A16 (fun p=>absurd p.1 (of_decide_eq_false h1))]
  refine Ap A0 rfl rfl ?_
  exact B1
 have h1:Gm l:=of_decide_eq_true (show Ko l=true by simpa using h1)
 obtain ⟨⟨n1,n2,n3,n4,n5,n6,n7⟩,nA⟩:=id h1
 repeat refine Bd ?_
 refine ⟨fun h2=>have h2:=eq_of_beq h2;?_,fun h2=>have h2:=beq_eq_false_iff_ne.1 h2;?_⟩<;>conv=>whnf
 ·repeat refine Bd ?_
  rw [A16 (fun p=>by omega)]
  refine Ap A0 rfl rfl ?_
  exact B1
 have h2:0<l.queue.length:=by omega
 repeat refine Bd ?_
 (repeat refine An ?_)
 refine A4s A0 rfl rfl rfl rfl rfl rfl rfl rfl (l:=1) rfl rfl (⟨by omega,by omega,by omega⟩) (Ag (l.queue.drop 1)) (Gt (k:=1) h2) (A8 ?_)
 refine B6 A0 rfl rfl rfl rfl rfl rfl rfl rfl rfl rfl rfl (Ag (l.queue.drop 1)) (C1) (fun _=>F7 _) (by (rw [List.length_drop];omega)) (A8 ?_)
 (repeat refine An ?_)
 refine Ks rfl ?_
 refine G0 (s':=?_) 0 rfl A7 ?_ ?_
 rotate_left
 refine A8 ?_
 (repeat refine An ?_)
 exact Bh
 refine Jw [1,2] A7 ⟨?_,?_,trivial⟩
 focus
  refine A8 ?_
  (repeat refine An ?_)
  refine Kt ?_
  refine Jw [2] A7 ⟨?_,trivial⟩
  refine A8 ?_
  (repeat refine An ?_)
  refine Kt ?_
  refine Jw [3] A7 ⟨?_,trivial⟩
  refine A8 ?_
  (repeat refine An ?_)
  refine Kt ?_
  refine Ca A0 false 4 rfl rfl A7 rfl (A5 Bb) ?_
  refine Yz A7 (A8 ?_)
 rotate_left 1
 focus
  refine A8 ?_
  (repeat refine An ?_)
  refine Kt ?_
  refine G0 (s':=?_) 1 rfl A7 ?_ ?_
  rotate_left
  refine A8 ?_
  (repeat refine An ?_)
  exact Bh
  refine Jw [3] A7 ⟨?_,trivial⟩
  refine A8 ?_
  (repeat refine An ?_)
  refine Kt ?_
  refine Ca A0 false 4 rfl rfl A7 rfl (A5 Bb) ?_
  refine Yz A7 (A8 ?_)
 all_goals
  rw [A4x ⟨h1,h2⟩]
  refine Ap A0 rfl rfl ?_
  exact B1
theorem Pb (l:Bz)(hl:l.w≤16777216):Be Tryz.prog 156 [.agg l.c] [.agg (Cr l).1.c,.one (vb (Cr l).2)]:=by
 refine B5 A0 false Tryz.func156 rfl Az fun W=>?_
 conv=>whnf
 refine Cn (L0 l Ac) rfl (A8 ?_)
 refine At (Nr l Ac) rfl (A8 ?_)
 refine ⟨fun h1=>?_,fun h1=>?_⟩<;>conv=>whnf
 ·have h1:Ko l=false:=by simpa using h1
  repeat refine Bd ?_
  rw [A7h (fun p=>absurd p.1 (of_decide_eq_false h1))]
  refine Ap A0 rfl rfl ?_
  exact B1
 have h1:Gm l:=of_decide_eq_true (show Ko l=true by simpa using h1)
 obtain ⟨⟨n1,n2,n3,n4,n5,n6,n7⟩,nA⟩:=id h1
 repeat refine Bd ?_
 refine ⟨fun h2=>have h2:=eq_of_beq h2;?_,fun h2=>have h2:=beq_eq_false_iff_ne.1 h2;?_⟩<;>conv=>whnf
 ·repeat refine Bd ?_
  rw [A7h (fun p=>p.2 h2)]
  refine Ap A0 rfl rfl ?_
  exact B1
 repeat refine Bd ?_
 (repeat refine An ?_)
 rw [B12 ⟨h1,h2⟩]
 refine Ap A0 rfl rfl ?_
 exact B1
theorem V2 (x:Aa):x.queue.length≤x.w∧x.staged.length≤x.w∧x.inputs.length≤x.w∧x.cells.length≤x.w∧x.sums.length≤x.w∧x.black.length≤x.w∧x.caps.length≤x.w:=by simp only [Aa.w];omega
theorem A1t {w:Aa}{e:Int}(h:0≤e∧e<w.sums.length):H5 w e=El w e 1:=if_pos h
theorem A38 {w:Aa}{r:Ae}(h1:w.sums.length=4)(h2:w.black.length=4)(he:0≤r.stamp.epoch∧r.stamp.epoch≤3):E8 w r=Gy (El (kept w r) r.stamp.epoch (-1)) r.stamp.epoch:=by
 unfold E8
 rw [if_pos ⟨by omega,by omega,by omega⟩]
theorem B2z {g:Aq}{w:Aa}(h:¬ M7 g w):D8 g w=(w,false):=if_neg h
theorem A9z {g:Aq}{w:Aa}(h:M7 g w):D8 g w=(J7 w,true):=if_pos h
theorem B7a {g:Aq}{w:Aa}(h:¬ Oc g w):F3 g w=(w,false):=if_neg h
theorem B4y {g:Aq}{w:Aa}(h:Oc g w):F3 g w=(Hg g w,true):=if_pos h
def Iw (w f t:Int):Int:=if 0≤min f t∧max f t<w then IntKind.wrap .i64 (IntKind.wrap .i64 (f * w)+t) else-1
theorem Mf (g:Aq)(f t:Int)(hg:Eu .i64 g.workers):Be Tryz.prog 77 [.agg g.c,.one (vi f),.one (vi t)] [.one (vi (Iw g.workers f t))]:=by
 have hw:g.workers≤9223372036854775807:=hg.2
 have hw1:1≤g.workers→IntKind.wrap .i64 (g.workers-1)=g.workers-1:=fun h=>Hs (by show _∧_;omega)
 refine B5 A0 true Tryz.func77 rfl Az fun W=>?_
 conv=>whnf
 repeat' (first|(refine J1 ?_;conv=>whnf)|(refine J2 ?_;conv=>whnf)|(refine ⟨fun h=>?_,fun h=>?_⟩<;>conv=>whnf)|(refine At (Fc _ _ _) rfl (go A0 true ?_);conv=>whnf)|(refine Ex ?_;conv=>whnf)|fail)
 all_goals (refine Ap A0 rfl rfl ⟨congrArg vi ?_,trivial⟩;simp only [Bool.not_eq_true',Bool.not_eq_false',Go.Sx.Ah,Go.Sx.Aw,decide_eq_true_eq,decide_eq_false_iff_not] at *;unfold Iw)
 ·by_cases h1:1≤g.workers
  ·have h2:=hw1 h1;rw [if_neg Ac]
  rw [if_neg Ac]
 ·by_cases h1:1≤g.workers
  ·have h2:=hw1 h1;rw [if_neg Ac]
  rw [if_neg Ac]
 ·rw [if_neg Ac]
 have h2:=hw1 Ac;rw [if_pos Ac]
theorem Ug (key n:Int)(hn:n≤9223372036854775807):Be Tryz.prog 149 [.one (vi key),.one (vi n)] [.one (vi (Ew key n))]:=by
 refine B5 A0 false Tryz.func149 rfl Az fun W=>?_
 conv=>whnf
 refine F4 (fun h=>?_) fun h=>?_<;>conv=>whnf
 ·exact Ap A0 rfl rfl ⟨congrArg vi (by rw [Ew,if_pos h]),trivial⟩
 have h1:=Int.tmod_lt_of_pos key (show 0<n by omega)
 have h2:=Int.lt_tmod_of_pos key (show 0<n by omega)
 (repeat refine An ?_)
 refine F4 (fun h'=>?_) fun h'=>?_<;>conv=>whnf
 ·(repeat refine An ?_)
  exact Ap A0 rfl rfl ⟨congrArg vi (by rw [Ew,if_neg h,if_pos h']),trivial⟩
 exact Ap A0 rfl rfl ⟨congrArg vi (by rw [Ew,if_neg h,if_neg h']),trivial⟩
theorem Q4 {w f t:Int}(hw:1≤w∧w≤4)(hf:0≤f∧f<w)(ht:0≤t∧t<w):Iw w f t=f * w+t:=by
 unfold Iw
 rw [if_pos Ac]
 have e:w=1∨w=2∨w=3∨w=4:=by omega
 rcases e with rfl|rfl|rfl|rfl<;>rw [Hs (k:= .i64) (n:=f * _) (by show _∧_;omega),Hs (by show _∧_;omega)]
theorem A1c {w f t:Int}(h:¬ ((0≤f∧f<w)∧(0≤t∧t<w))):Iw w f t= -1:=by
 unfold Iw
 rw [if_neg Ac]
theorem T5 {c:A3}{f t:Int}(h:As c)(hf:0≤f∧f<c.graph.workers)(ht:0≤t∧t<c.graph.workers):0≤B0 c f t∧B0 c f t<c.links.length:=by
 have hl:=h.1.2.2.1
 have hw:=h.1.1.2.1
 clear h
 unfold B0
 generalize c.graph.workers=n at *
 have e:n=1∨n=2∨n=3∨n=4:=by omega
 rcases e with rfl|rfl|rfl|rfl<;>omega
theorem A36 {c:A3}{w:Int}(h:¬ Hj c w):Df c w=(c,false):=if_neg h
theorem Sa {c:A3}{w:Int}(h:Hj c w):Df c w=(B3 c w (F3 c.graph (Ab c w)).1,(F3 c.graph (Ab c w)).2):=if_pos h
theorem A1l {c:A3}{w:Int}(h:¬ Hj c w):Cz c w=(c,false):=if_neg h
theorem Q7 {c:A3}{w:Int}(h:Hj c w):Cz c w=(B3 c w (D8 c.graph (Ab c w)).1,(D8 c.graph (Ab c w)).2):=if_pos h
theorem U1 {c:A3}{w:Int}(h:¬ (Hj c w∧0<(Ab c w).staged.length)):C3 c w=(c,false):=if_neg h
theorem A1n {c:A3}{w:Int}(h:Hj c w∧0<(Ab c w).staged.length)(h1:Bi c w=w):C3 c w=(B3 c w (kept (Dz (Ab c w)) (Bl c w)),true):=by
 unfold C3
 rw [if_pos h,if_pos h1]
theorem Y8 {c:A3}{w:Int}(h:Hj c w∧0<(Ab c w).staged.length)(h1:Bi c w≠w)(h2:(Cs (Br c (B0 c w (Bi c w))) (Bl c w)).2=false):C3 c w=(c,false):=by
 unfold C3
 rw [if_pos h,if_neg h1,if_neg (by rw [h2];decide)]
theorem Y9 {c:A3}{w:Int}(h:Hj c w∧0<(Ab c w).staged.length)(h1:Bi c w≠w)(h2:(Cs (Br c (B0 c w (Bi c w))) (Bl c w)).2=true):C3 c w=(B3 (C2 c (B0 c w (Bi c w)) (Cs (Br c (B0 c w (Bi c w))) (Bl c w)).1) w (H5 (Dz (Ab c w)) (Bl c w).stamp.epoch),true):=by
 unfold C3
 rw [if_pos h,if_neg h1,if_pos h2]
theorem B3v {k n:Int}(hk:0≤k)(hn:1≤n):0≤Ew k n∧Ew k n<n:=by
 have h1:=Int.tmod_lt_of_pos k (show 0<n by omega)
 have h2:=Int.tmod_nonneg n hk
 unfold Ew
 (repeat' split)<;>omega
theorem M3 {c:A3}{f t:Int}(h:¬ Mj c f t):Cm c f t=(c,false):=if_neg fun p=>h p.1
theorem Ya {c:A3}{f t:Int}(h:(Bw (Br c (B0 c f t))).2.2=false):Cm c f t=(c,false):=if_neg fun p=>by rw [p.2] at h;cases h
theorem A1o {c:A3}{f t:Int}(h:Mj c f t)(h1:(Bw (Br c (B0 c f t))).2.2=true):Cm c f t=(B3 (C2 c (B0 c f t) (Bw (Br c (B0 c f t))).1) t (E8 (Ab c t) (Bw (Br c (B0 c f t))).2.1),true):=if_pos ⟨h,h1⟩
theorem K1 {c:A3}{f t:Int}(h:¬ Mj c f t):Cy c f t=(c,false):=if_neg h
theorem Wx {c:A3}{f t:Int}(h:Mj c f t):Cy c f t=(C2 c (B0 c f t) (Cr (Br c (B0 c f t))).1,(Cr (Br c (B0 c f t))).2):=if_pos h
def T4 (c:A3) (f t:Int):Int:=if Mj c f t then B0 c f t else-1
theorem A3t {c:A3}{f t:Int}(hC:As c)(hne:f≠t):Iw c.graph.workers f t=T4 c f t:=by
 unfold T4
 by_cases h:Mj c f t
 ·rw [if_pos h,Q4 hC.1.1.2.1 h.2.2.1 h.2.2.2]
  rfl
 rw [if_neg h,A1c (fun p=>h ⟨hC,hne,p⟩)]
end Go.Proofs.YtdendlkeiaccpaaGreatDoor
