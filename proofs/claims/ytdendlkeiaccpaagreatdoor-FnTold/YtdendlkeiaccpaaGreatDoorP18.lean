/- Part 18 of the proof that each of the laws FnTold returns true for every input. No conditions. -/
import Derived.Test.YtdendlkeiaccpaaGreatDoorP17
import Derived.Test.YtdendlkeiaccpaaGreatDoorP5
import Derived.Test.YtdendlkeiaccpaaGreatDoorP6
import Derived.Test.YtdendlkeiaccpaaGreatDoorP14
import Derived.Test.YtdendlkeiaccpaaGreatDoorP9
import Derived.Test.YtdendlkeiaccpaaGreatDoorP7
import Derived.Test.YtdendlkeiaccpaaGreatDoorP8
import Derived.Test.YtdendlkeiaccpaaGreatDoorP15
import Derived.Test.YtdendlkeiaccpaaGreatDoorP10

set_option linter.unusedSimpArgs false
set_option linter.unusedVariables false
set_option maxRecDepth 100000
namespace Go.Proofs.YtdendlkeiaccpaaGreatDoor
open Go.Sx
theorem A0a {α:Type} [Inhabited α] (f:α→Nat):∀(l:List α) (j:Nat) (x:α),j<l.length→((l.set j x).map f).sum+f (l.getD j default)=(l.map f).sum+f x
 | [],_,_,h=>absurd h (Nat.not_lt_zero _)
 |y::r,0,x,_=>by simp;omega
 |y::r,j+1,x,h=>by
  have:=A0a f r j x (by simpa using h)
  simp only [List.set_cons_succ,List.map_cons,List.sum_cons,List.getD_cons_succ]
  omega
theorem Hn {c:A5}{j:Int}{w:A9}(h:0≤j∧j<c.workers.length):(Bb c j w).w+(Ad c j).w=c.w+w.w:=by
 have:=A0a A9.w c.workers j.toNat w Ab
 simp only [Bb,A5.w,wS,List.length_set,Ad]
 omega
theorem Qx {c:A5}{k:Int}{l:Bv}(h:0≤k∧k<c.links.length):(Cd c k l).w+(Bz c k).w=c.w+l.w:=by
 have:=A0a Bv.w c.links k.toNat l Ab
 simp only [Cd,A5.w,wS,List.length_set,Bz]
 omega
theorem Lg {c:A5}{e:Int}{t:D0}:(Da c e t).w=c.w:=by simp only [Da,A5.w,List.length_set]
theorem A2z {g:Ap}{w:A9}:(Fk g w).1.w≤w.w+2:=by
 unfold Fk
 split
 ·rename_i h
  have h1:=A4l (g:=g) (cs:=w.cells) (r:=w.queue.getD 0 default)
  have h2:=A2p (g:=g) (cs:=w.cells) (r:=w.queue.getD 0 default)
  have h3:=h.2.2.2
  have h4:(if capped g (w.queue.getD 0 default)=true then w.caps.set (w.queue.getD 0 default).stamp.epoch.toNat true else w.caps).length=w.caps.length:=by split<;>simp
  simp only [Ij,A9.w,List.length_drop,h4]
  omega
 simp
theorem T1 {g:Ap}{w:A9}:(Dm g w).1.w≤w.w:=by
 unfold Dm
 split
 ·rename_i h
  have:=h.2.2.2.2
  simp only [J3,A9.w,List.length_append,List.length_singleton,List.length_drop]
  omega
 simp
theorem A4b {w:A9}{e:Int}:(Hm w e).w=w.w:=by
 unfold Hm Fe
 split
 ·simp only [A9.w,List.length_set]
 rfl
theorem V9 {w:A9}{r:Ae}:(En w r).w=w.w+1:=by
 unfold En I8 Fe kept
 split
 ·simp only [A9.w,List.length_set,List.length_append,List.length_singleton];omega
 simp only [A9.w,List.length_append,List.length_singleton];omega
theorem A4m {c:A5}{p:Cz}:(Ar c p).1.w≤c.w+4:=by
 have work:∀w,(Eh c w).1.w≤c.w+4:=fun w=>by
  unfold Eh
  split
  ·rename_i h
   have h1:=Hn (w:=(Fk c.graph (Ad c w)).1) h.2
   have h2:=A2z (g:=c.graph) (w:=Ad c w)
   simp only
   omega
  simp
 have input:∀w,(Du c w).1.w≤c.w+4:=fun w=>by
  unfold Du
  split
  ·rename_i h
   have h1:=Hn (w:=(Dm c.graph (Ad c w)).1) h.2
   have h2:=T1 (g:=c.graph) (w:=Ad c w)
   simp only
   omega
  simp
 have move:∀w,(Cg c w).1.w≤c.w+4:=fun w=>by
  unfold Cg
  split
  ·rename_i h
   obtain ⟨hW,hs⟩:=h
   have hu:(Ei (Ad c w)).w+1=(Ad c w).w:=by simp only [Ei,A9.w,List.length_drop];omega
   split
   ·have h1:=Hn (w:=kept (Ei (Ad c w)) (Be c w)) hW.2
    have h2:(kept (Ei (Ad c w)) (Be c w)).w=(Ei (Ad c w)).w+1:=by simp only [kept,A9.w,List.length_append,List.length_singleton];omega
    simp only
    omega
   split
   ·have hb:0≤w∧w<c.graph.workers:=by have:=hW.1.1.2.1;exact ⟨hW.2.1,by have:=hW.2.2;omega⟩
    have h1:=Qx (l:=(Co (Bz c (B0 c w (Ba c w))) (Be c w)).1) (K1 hW.1 hb (Xq hW hs)).1
    have h2:=Hn (c:=Cd c (B0 c w (Ba c w)) (Co (Bz c (B0 c w (Ba c w))) (Be c w)).1) (w:=Hm (Ei (Ad c w)) (Be c w).stamp.epoch) hW.2
    have h3:(Co (Bz c (B0 c w (Ba c w))) (Be c w)).1.w≤(Bz c (B0 c w (Ba c w))).w+1:=by
     unfold Co
     split
     ·simp [Bv.w]
     simp
    have h4:(Ad (Cd c (B0 c w (Ba c w)) (Co (Bz c (B0 c w (Ba c w))) (Be c w)).1) w).w=(Ad c w).w:=rfl
    rw [A4b] at h2
    simp only
    omega
   simp
  simp
 have take:∀f t,(Dh c f t).1.w≤c.w+4:=fun f t=>by
  unfold Dh
  split
  ·rename_i h
   obtain ⟨hL,hk⟩:=h
   have ht:0≤t∧t<c.workers.length:=by have:=hL.1.1.2.1;have:=hL.2.2.2;omega
   have h1:=Qx (l:=(C1 (Bz c (B0 c f t))).1) (K1 hL.1 hL.2.2.1 hL.2.2.2).1
   have h2:=Hn (c:=Cd c (B0 c f t) (C1 (Bz c (B0 c f t))).1) (w:=En (Ad c t) (C1 (Bz c (B0 c f t))).2.1) ht
   have h3:(C1 (Bz c (B0 c f t))).1.w≤(Bz c (B0 c f t)).w:=by
    unfold C1
    split
    ·simp [Bv.w]
    simp
   have h4:(Ad (Cd c (B0 c f t) (C1 (Bz c (B0 c f t))).1) t).w=(Ad c t).w:=rfl
   rw [V9] at h2
   simp only
   omega
  simp
 have credit:∀f t,(Dr c f t).1.w≤c.w+4:=fun f t=>by
  unfold Dr
  split
  ·rename_i hL
   have h1:=Qx (l:=(D6 (Bz c (B0 c f t))).1) (K1 hL.1 hL.2.2.1 hL.2.2.2).1
   have h3:(D6 (Bz c (B0 c f t))).1.w=(Bz c (B0 c f t)).w:=by
    unfold D6
    split<;>simp [Bv.w]
   simp only
   omega
  simp
 have tok:∀e,(Cu c e).1.w≤c.w+4:=fun e=>by
  unfold Cu
  split
  ·rename_i hT
   obtain ⟨hC,he,hD,hP⟩:=hT
   have hTP:My c.graph.workers (Af c e):=hC.2.2.2.1 _ (B8 (d:=default) (show e.toNat<c.tokens.length by have:=hC.1.2.2.2;omega))
   have hn1:=hC.1.1.2.1
   have hwl:=hC.1.2.1
   have hat:0≤(Af c e).at_∧(Af c e).at_<c.workers.length:=by have:=hTP.1;omega
   have hwh:(Iu (Ad c (Af c e).at_) e).w=(Ad c (Af c e).at_).w:=by simp only [Iu,A9.w,List.length_set]
   simp only
   split
   ·have h1:=Hn (c:=Da c e ⟨true,(c.workers.length:Int)-1,0,false,(Ad c (Af c e).at_).caps.getD e.toNat default⟩) (w:=Iu (Ad c (Af c e).at_) e) hat
    rw [Lg,hwh] at h1
    have h2:(Ad (Da c e ⟨true,(c.workers.length:Int)-1,0,false,(Ad c (Af c e).at_).caps.getD e.toNat default⟩) (Af c e).at_).w=(Ad c (Af c e).at_).w:=rfl
    simp only
    omega
   split
   ·split
    ·have h1:=Hn (c:=Da c e ⟨(Af c e).going,(Af c e).at_-1,(Af c e).sum+(Ad c (Af c e).at_).sums.getD e.toNat default,(Af c e).black||(Ad c (Af c e).at_).black.getD e.toNat default,(Af c e).capped||(Ad c (Af c e).at_).caps.getD e.toNat default⟩) (w:=Iu (Ad c (Af c e).at_) e) hat
     rw [Lg,hwh] at h1
     have h2:(Ad (Da c e ⟨(Af c e).going,(Af c e).at_-1,(Af c e).sum+(Ad c (Af c e).at_).sums.getD e.toNat default,(Af c e).black||(Ad c (Af c e).at_).black.getD e.toNat default,(Af c e).capped||(Ad c (Af c e).at_).caps.getD e.toNat default⟩) (Af c e).at_).w=(Ad c (Af c e).at_).w:=rfl
     simp only
     omega
    simp
   rename_i hg ha
   have hA:(Af c e).at_=0:=by have:=hTP.1;omega
   unfold It
   split
   ·have h1:=Hn (c:=Da c e ⟨false,(Af c e).at_,(Af c e).sum,(Af c e).black,(Af c e).capped⟩) (j:=0) (w:=H2 (Ad c (Af c e).at_) ⟨e,(Af c e).capped||(Ad c (Af c e).at_).caps.getD e.toNat default⟩) (by have:(Da c e ⟨false,(Af c e).at_,(Af c e).sum,(Af c e).black,(Af c e).capped⟩).workers.length=c.workers.length:=rfl;omega)
    rw [Lg] at h1
    have h2:(Ad (Da c e ⟨false,(Af c e).at_,(Af c e).sum,(Af c e).black,(Af c e).capped⟩) 0).w=(Ad c (Af c e).at_).w:=by rw [hA];rfl
    have h3:(H2 (Ad c (Af c e).at_) ⟨e,(Af c e).capped||(Ad c (Af c e).at_).caps.getD e.toNat default⟩).w=(Ad c (Af c e).at_).w+1:=by simp only [H2,A9.w,List.length_append,List.length_singleton];omega
    have h4:∀(x:A5) l,(Px x l).w=x.w+l.length:=fun x l=>by simp only [Px,A5.w,List.length_append];omega
    rw [h4]
    have h5:(Mp e ((Af c e).capped||(Ad c (Af c e).at_).caps.getD e.toNat default) ((Da c e ⟨false,(Af c e).at_,(Af c e).sum,(Af c e).black,(Af c e).capped⟩).workers.length-1)).length≤3:=by
     have:(Da c e ⟨false,(Af c e).at_,(Af c e).sum,(Af c e).black,(Af c e).capped⟩).workers.length=c.workers.length:=rfl
     rw [this]
     simp only [Mp,List.length_map,List.length_range]
     omega
    omega
   rw [Lg];omega
  simp
 have hear:∀w,(E8 c w).1.w≤c.w+4:=fun w=>by
  unfold E8
  split
  ·rename_i hn
   obtain ⟨m1,m2⟩:=Rr hn.1 hn.2
   have hN:=hn.1.2.2.2.2 _ m1
   have hw:0≤w∧w<c.workers.length:=by have:=hn.1.1.2.1;have:=hN.1;omega
   have h0:(Ks c w).w≤c.w:=by
    have:=List.length_eraseIdx_le c.news (Ph c w)
    simp only [Ks,A5.w]
    omega
   split
   ·simp only;omega
   have h1:=Hn (c:=Ks c w) (w:=H2 (Ad c w) ⟨(Gt c w).epoch,(Gt c w).capped⟩) hw
   have h2:(Ad (Ks c w) w).w=(Ad c w).w:=rfl
   have h3:(H2 (Ad c w) ⟨(Gt c w).epoch,(Gt c w).capped⟩).w=(Ad c w).w+1:=by simp only [H2,A9.w,List.length_append,List.length_singleton];omega
   simp only
   omega
  simp
 unfold Ar
 split
 ·exact work _
 split
 ·exact input _
 split
 ·exact move _
 split
 ·exact take _ _
 split
 ·exact credit _ _
 split
 ·exact tok _
 split
 ·exact hear _
 simp
theorem Le {c:A5}{p:Cz}(h:¬ B6 c):Ar c p=(c,false):=by
 unfold Ar
 repeat' split
 ·unfold Eh;rw [if_neg (fun q=>h q.1)]
 ·unfold Du;rw [if_neg (fun q=>h q.1)]
 ·unfold Cg;rw [if_neg (fun q=>h q.1.1)]
 ·unfold Dh;rw [if_neg (fun q=>h q.1.1)]
 ·unfold Dr;rw [if_neg (fun q=>h q.1)]
 ·exact Vz (fun q=>h q.1)
 ·unfold E8;rw [if_neg (fun q=>h q.1)]
 rfl
theorem Y5 {c:A5}{l:List Cz}{k:Nat}(hk:k<l.length):Bi c (l.take (k+1))=Fw (Bi c (l.take k)) (l.getD k default):=by
 unfold Bi
 have:l.take (k+1)=l.take k++[l.getD k default]:=by
  rw [List.take_succ_eq_append_getElem hk]
  simp [List.getD,hk]
 rw [this,List.foldl_append]
 rfl
theorem B4c (l:List Cz):∀s:A5×List Bool,(l.foldl Fw s).1.w≤s.1.w+4 * l.length:=by
 induction l with
 |nil=>intro s;simp
 |cons p r ih=>
  intro s
  have h1:=ih (Fw s p)
  have h2:=A4m (c:=s.1) (p:=p)
  simp only [List.foldl_cons,List.length_cons]
  have e:(Fw s p).1=(Ar s.1 p).1:=rfl
  rw [e] at h1
  omega
theorem Pm {c:A5}{l:List Cz}:(Bi c l).1.w≤c.w+4 * l.length:=B4c l (c,[])
theorem A71 (l:List Cz):∀s:A5×List Bool,(l.foldl Fw s).2.length=s.2.length+l.length:=by
 induction l with
 |nil=>intro s;simp
 |cons p r ih=>
  intro s
  have h1:=ih (Fw s p)
  simp only [List.foldl_cons,List.length_cons]
  rw [h1]
  simp only [Fw,List.length_append,List.length_cons,List.length_nil]
  omega
theorem A2g {c:A5}{l:List Cz}:(Bi c l).2.length=l.length:=by
 have:=A71 l (c,[])
 simpa [Bi] using this
theorem B1c (c:A5):Hl c≤4:=by
 have:=Gm c.graph.workers 0 4 Aw
 unfold Hl
 omega
theorem Pz (c:A5):(Rd (Hl c)).length≤44:=by
 have h:=B1c c
 have e:Hl c=0∨Hl c=1∨Hl c=2∨Hl c=3∨Hl c=4:=by omega
 rcases e with e|e|e|e|e<;>rw [e]<;>decide
theorem A52 {c:A5}:(Ck c).1.w≤c.w+176:=by
 have h1:=Pm (c:=c) (l:=Rd (Hl c))
 have h2:=Pz c
 show (Bi c (Rd (Hl c))).1.w≤_
 omega
def Mn (c:A5):Nat→A5
 | 0=>c
 |k+1=>(Ck (Mn c k)).1
theorem B4x (c:A5)(k:Nat):(Mn c k).w≤c.w+176 * k:=by
 induction k with
 |zero=>simp [Mn]
 |succ k ih=>
  have:=A52 (c:=Mn c k)
  simp only [Mn]
  omega
theorem Xl (c:A5)(k:Nat):Mn (Ck c).1 k=Mn c (k+1):=by
 induction k with
 |zero=>rfl
 |succ k ih=>simp only [Mn] at ih ⊢;rw [ih]
theorem U1 (k:Nat):∀(n:Nat) (c:A5),k≤n→(∀i,i<k→(Ck (Mn c i)).2≠0)→Dt n c=((Dt (n-k) (Mn c k)).1,(Dt (n-k) (Mn c k)).2+k):=by
 induction k with
 |zero=>intro n c _ _;simp [Mn]
 |succ k ih=>
  intro n c hk h
  obtain ⟨m,rfl⟩:∃m,n=m+1:=⟨n-1,by omega⟩
  have h0:(Ck c).2≠0:=h 0 Ab
  have h1:=ih m (Ck c).1 Ab (fun i hi=>by rw [Xl];exact h (i+1) Ab)
  rw [Xl] at h1
  rw [Dt,if_neg h0,h1,show m+1-(k+1)=m-k by omega]
  rfl
theorem Yz {n k:Nat}{c:A5}(hk:k<n)(h:∀i,i<k→(Ck (Mn c i)).2≠0)(h0:(Ck (Mn c k)).2=0):Dt n c=(Mn c (k+1),k+1):=by
 rw [U1 k n c Ab h]
 obtain ⟨m,hm⟩:∃m,n-k=m+1:=⟨n-k-1,by omega⟩
 rw [hm,Dt,if_pos h0]
 simp only [Mn]
 congr 1
 omega
theorem Yx {n:Nat}{c:A5}(h:∀i,i<n→(Ck (Mn c i)).2≠0):Dt n c=(Mn c n,n):=by
 rw [U1 n n c (Nat.le_refl _) h,Nat.sub_self]
 simp [Dt]
theorem A9p (l:List Fy)(k:Nat):l.eraseIdx k=l.take k++l.drop (k+1):=List.eraseIdx_eq_take_drop_succ l k
theorem Te {l:Bv}{r:Ae}(h:¬ A0o l r):Co l r=(l,false):=if_neg h
theorem B1l {l:Bv}{r:Ae}(h:A0o l r):Co l r=(⟨l.cap,l.queue++[r],l.credits-1,l.back,l.sent+1,l.got⟩,true):=if_pos h
theorem A0c {l:Bv}(h:¬ (G1 l∧0<l.queue.length)):C1 l=(l,default,false):=if_neg h
theorem A2u {l:Bv}(h:G1 l∧0<l.queue.length):C1 l=(⟨l.cap,l.queue.drop 1,l.credits,l.back+1,l.sent,l.got+1⟩,l.queue.getD 0 default,true):=if_pos h
theorem A46 {l:Bv}(h:¬ (G1 l∧l.back≠0)):D6 l=(l,false):=if_neg h
theorem A9b {l:Bv}(h:G1 l∧l.back≠0):D6 l=(⟨l.cap,l.queue,l.credits+1,l.back-1,l.sent,l.got⟩,true):=if_pos h
set_option maxHeartbeats 1000000 in
theorem Pp (l:Bv)(r:Ae)(hl:l.w≤16777216):Bo Tryz.prog 153 [.agg l.c,.agg r.c] [.agg (Co l r).1.c,.one (vb (Co l r).2)]:=by
 have hq:l.queue.length≤16777216:=hl
 refine Bh A0 false Tryz.func153 rfl Aw fun W=>?_
 conv=>whnf
 refine Cq (Jn l Ab) rfl (A8 ?_)
 refine B5 (Me l Ab) rfl (A8 ?_)
 refine ⟨fun h1=>?_,fun h1=>?_⟩<;>conv=>whnf
 ·have h1:M0 l=false:=by simpa using h1
  repeat refine Bj ?_
  rw [Te (fun p=>absurd p.1 (of_decide_eq_false h1))]
  refine B3 A0 rfl rfl ?_
  exact Ay
 have h1:G1 l:=of_decide_eq_true (show M0 l=true by simpa using h1)
 obtain ⟨⟨n1,n2,n3,n4,n5,n6,n7⟩,nA⟩:=id h1
 repeat refine Bj ?_
 refine B5 (Hb r) rfl (A8 ?_)
 repeat refine Bj ?_
 refine ⟨fun h2=>?_,fun h2=>?_⟩<;>conv=>whnf
 ·have h2:Ig r=false:=by simpa using h2
  repeat refine Bj ?_
  rw [Te (fun p=>absurd p.2.1 (of_decide_eq_false h2))]
  refine B3 A0 rfl rfl ?_
  exact Ay
 have h2:Hs r:=of_decide_eq_true (show Ig r=true by simpa using h2)
 repeat refine Bj ?_
 refine ⟨fun h3=>have h3:=eq_of_beq h3;?_,fun h3=>have h3:=beq_eq_false_iff_ne.1 h3;?_⟩<;>conv=>whnf
 ·repeat refine Bj ?_
  rw [Te (fun p=>p.2.2.1 h3)]
  refine B3 A0 rfl rfl ?_
  exact Ay
 repeat refine Bj ?_
 refine ⟨fun h4=>?_,fun h4=>?_⟩<;>conv=>whnf
 ·have h4:l.sent=1000000000:=by (have:=of_decide_eq_true h4;omega)
  repeat refine Bj ?_
  rw [Te (fun p=>p.2.2.2 h4)]
  refine B3 A0 rfl rfl ?_
  exact Ay
 have h4:l.sent≠1000000000:=by (have:=of_decide_eq_false h4;omega)
 repeat refine Bj ?_
 refine B1 A0 rfl rfl rfl rfl rfl rfl rfl rfl rfl rfl rfl (Ah (l.queue++[r])) (Aa rfl) Bg Ab (A8 ?_)
 (repeat refine An ?_)
 rw [B1l ⟨h1,h2,h3,h4⟩]
 refine B3 A0 rfl rfl ?_
 exact Ay
set_option maxHeartbeats 1000000 in
theorem R3 (l:Bv)(hl:l.w≤16777216):Bo Tryz.prog 155 [.agg l.c] [.agg (C1 l).1.c,.agg (C1 l).2.1.c,.one (vb (C1 l).2.2)]:=by
 have hq:l.queue.length≤16777216:=hl
 refine Bh A0 false Tryz.func155 rfl Aw fun W=>?_
 conv=>whnf
 refine Cq (Jn l Ab) rfl (A8 ?_)
 refine B5 (Me l Ab) rfl (A8 ?_)
 refine ⟨fun h1=>?_,fun h1=>?_⟩<;>conv=>whnf
 ·have h1:M0 l=false:=by simpa using h1
  repeat refine Bj ?_
  rw [A0c (fun p=>absurd p.1 (of_decide_eq_false h1))]
  refine B3 A0 rfl rfl ?_
  exact Ay
 have h1:G1 l:=of_decide_eq_true (show M0 l=true by simpa using h1)
 obtain ⟨⟨n1,n2,n3,n4,n5,n6,n7⟩,nA⟩:=id h1
 repeat refine Bj ?_
 refine ⟨fun h2=>have h2:=eq_of_beq h2;?_,fun h2=>have h2:=beq_eq_false_iff_ne.1 h2;?_⟩<;>conv=>whnf
 ·repeat refine Bj ?_
  rw [A0c (fun p=>by omega)]
  refine B3 A0 rfl rfl ?_
  exact Ay
 have h2:0<l.queue.length:=by omega
 repeat refine Bj ?_
 (repeat refine An ?_)
 refine A2q A0 rfl rfl rfl rfl rfl rfl rfl rfl (l:=1) rfl rfl (⟨by omega,by omega,by omega⟩) (Ah (l.queue.drop 1)) (G8 (k:=1) h2) (A8 ?_)
 refine B1 A0 rfl rfl rfl rfl rfl rfl rfl rfl rfl rfl rfl (Ah (l.queue.drop 1)) (Ci) (fun _=>F8 _) (by (rw [List.length_drop];omega)) (A8 ?_)
 (repeat refine An ?_)
 refine J8 rfl ?_
 refine Ej (s':=?_) 0 rfl A7 ?_ ?_
 rotate_left
 refine A8 ?_
 (repeat refine An ?_)
 exact Bf
 refine Gv [1,2] A7 ⟨?_,?_,trivial⟩
 focus
  refine A8 ?_
  (repeat refine An ?_)
  refine He ?_
  refine Gv [2] A7 ⟨?_,trivial⟩
  refine A8 ?_
  (repeat refine An ?_)
  refine He ?_
  refine Gv [3] A7 ⟨?_,trivial⟩
  refine A8 ?_
  (repeat refine An ?_)
  refine He ?_
  refine Bu A0 false 4 rfl rfl A7 rfl (A4 B2) ?_
  refine S5 A7 (A8 ?_)
 rotate_left 1
 focus
  refine A8 ?_
  (repeat refine An ?_)
  refine He ?_
  refine Ej (s':=?_) 1 rfl A7 ?_ ?_
  rotate_left
  refine A8 ?_
  (repeat refine An ?_)
  exact Bf
  refine Gv [3] A7 ⟨?_,trivial⟩
  refine A8 ?_
  (repeat refine An ?_)
  refine He ?_
  refine Bu A0 false 4 rfl rfl A7 rfl (A4 B2) ?_
  refine S5 A7 (A8 ?_)
 all_goals
  rw [A2u ⟨h1,h2⟩]
  refine B3 A0 rfl rfl ?_
  exact Ay
theorem Np (l:Bv)(hl:l.w≤16777216):Bo Tryz.prog 156 [.agg l.c] [.agg (D6 l).1.c,.one (vb (D6 l).2)]:=by
 refine Bh A0 false Tryz.func156 rfl Aw fun W=>?_
 conv=>whnf
 refine Cq (Jn l Ab) rfl (A8 ?_)
 refine B5 (Me l Ab) rfl (A8 ?_)
 refine ⟨fun h1=>?_,fun h1=>?_⟩<;>conv=>whnf
 ·have h1:M0 l=false:=by simpa using h1
  repeat refine Bj ?_
  rw [A46 (fun p=>absurd p.1 (of_decide_eq_false h1))]
  refine B3 A0 rfl rfl ?_
  exact Ay
 have h1:G1 l:=of_decide_eq_true (show M0 l=true by simpa using h1)
 obtain ⟨⟨n1,n2,n3,n4,n5,n6,n7⟩,nA⟩:=id h1
 repeat refine Bj ?_
 refine ⟨fun h2=>have h2:=eq_of_beq h2;?_,fun h2=>have h2:=beq_eq_false_iff_ne.1 h2;?_⟩<;>conv=>whnf
 ·repeat refine Bj ?_
  rw [A46 (fun p=>p.2 h2)]
  refine B3 A0 rfl rfl ?_
  exact Ay
 repeat refine Bj ?_
 (repeat refine An ?_)
 rw [A9b ⟨h1,h2⟩]
 refine B3 A0 rfl rfl ?_
 exact Ay
theorem Tg (x:A9):x.queue.length≤x.w∧x.staged.length≤x.w∧x.inputs.length≤x.w∧x.cells.length≤x.w∧x.sums.length≤x.w∧x.black.length≤x.w∧x.caps.length≤x.w:=by simp only [A9.w];omega
theorem Zs {w:A9}{e:Int}(h:0≤e∧e<w.sums.length):Hm w e=Fe w e 1:=if_pos h
theorem A16 {w:A9}{r:Ae}(h1:w.sums.length=4)(h2:w.black.length=4)(he:0≤r.stamp.epoch∧r.stamp.epoch≤3):En w r=I8 (Fe (kept w r) r.stamp.epoch (-1)) r.stamp.epoch:=by
 unfold En
 rw [if_pos ⟨by omega,by omega,by omega⟩]
theorem A99 {g:Ap}{w:A9}(h:¬ Kv g w):Dm g w=(w,false):=if_neg h
theorem A7c {g:Ap}{w:A9}(h:Kv g w):Dm g w=(J3 w,true):=if_pos h
theorem B4q {g:Ap}{w:A9}(h:¬ O9 g w):Fk g w=(w,false):=if_neg h
theorem B2b {g:Ap}{w:A9}(h:O9 g w):Fk g w=(Ij g w,true):=if_pos h
def Di (w f t:Int):Int:=if 0≤min f t∧max f t<w then IntKind.wrap .i64 (IntKind.wrap .i64 (f * w)+t) else-1
theorem Og (w f t:Int):Ee .i64 (Di w f t):=by
 unfold Di;split
 ·exact B4r _
 exact ⟨by decide,by decide⟩
theorem J1 (g:Ap)(f t:Int)(hg:Ee .i64 g.workers):Bo Tryz.prog 77 [.agg g.c,.one (vi f),.one (vi t)] [.one (vi (Di g.workers f t))]:=by
 have hw:g.workers≤9223372036854775807:=hg.2
 have hw1:1≤g.workers→IntKind.wrap .i64 (g.workers-1)=g.workers-1:=fun h=>H6 (by show _∧_;omega)
 refine Bh A0 true Tryz.func77 rfl Aw fun W=>?_
 conv=>whnf
 repeat' (first|(refine L6 ?_;conv=>whnf)|(refine L7 ?_;conv=>whnf)|(refine ⟨fun h=>?_,fun h=>?_⟩<;>conv=>whnf)|(refine B5 (Fh _ _ _) rfl (go A0 true ?_);conv=>whnf)|(refine Ft ?_;conv=>whnf)|fail)
 all_goals (refine B3 A0 rfl rfl ⟨congrArg vi ?_,trivial⟩;simp only [Bool.not_eq_true',Bool.not_eq_false',Go.Sx.As,Go.Sx.Bn,decide_eq_true_eq,decide_eq_false_iff_not] at *;unfold Di)
 ·by_cases h1:1≤g.workers
  ·have h2:=hw1 h1;rw [if_neg Ab]
  rw [if_neg Ab]
 ·by_cases h1:1≤g.workers
  ·have h2:=hw1 h1;rw [if_neg Ab]
  rw [if_neg Ab]
 ·rw [if_neg Ab]
 have h2:=hw1 Ab;rw [if_pos Ab]
theorem Wc (g:Ap)(f t:Int):Bo Tryz.prog 76 [.agg g.c,.one (vi f),.one (vi t)] [.one (vi (Di g.workers f t))]:=by
 refine Bh A0 true Tryz.func76 rfl Aw fun W=>?_
 conv=>whnf
 repeat' (first|(refine L6 ?_;conv=>whnf)|(refine L7 ?_;conv=>whnf)|(refine ⟨fun h=>?_,fun h=>?_⟩<;>conv=>whnf)|(refine Ft ?_;conv=>whnf)|fail)
 all_goals (refine B3 A0 rfl rfl ⟨congrArg vi ?_,trivial⟩;simp only [decide_eq_true_eq,decide_eq_false_iff_not] at *;unfold Di)
 ·rw [if_neg Ab]
 ·rw [if_neg Ab]
 rw [if_pos Ab]
theorem Sy (key n:Int)(hn:n≤9223372036854775807):Bo Tryz.prog 149 [.one (vi key),.one (vi n)] [.one (vi (F1 key n))]:=by
 refine Bh A0 false Tryz.func149 rfl Aw fun W=>?_
 conv=>whnf
 refine Fi (fun h=>?_) fun h=>?_<;>conv=>whnf
 ·exact B3 A0 rfl rfl ⟨congrArg vi (by rw [F1,if_pos h]),trivial⟩
 have h1:=Int.tmod_lt_of_pos key (show 0<n by omega)
 have h2:=Int.lt_tmod_of_pos key (show 0<n by omega)
 (repeat refine An ?_)
 refine Fi (fun h'=>?_) fun h'=>?_<;>conv=>whnf
 ·(repeat refine An ?_)
  exact B3 A0 rfl rfl ⟨congrArg vi (by rw [F1,if_neg h,if_pos h']),trivial⟩
 exact B3 A0 rfl rfl ⟨congrArg vi (by rw [F1,if_neg h,if_neg h']),trivial⟩
theorem Oh {w f t:Int}(hw:1≤w∧w≤4)(hf:0≤f∧f<w)(ht:0≤t∧t<w):Di w f t=f * w+t:=by
 unfold Di
 rw [if_pos Ab]
 have e:w=1∨w=2∨w=3∨w=4:=by omega
 rcases e with rfl|rfl|rfl|rfl<;>rw [H6 (k:= .i64) (n:=f * _) (by show _∧_;omega),H6 (by show _∧_;omega)]
theorem Zc {w f t:Int}(h:¬ ((0≤f∧f<w)∧(0≤t∧t<w))):Di w f t= -1:=by
 unfold Di
 rw [if_neg Ab]
theorem Ro {c:A5}{f t:Int}(h:B6 c)(hf:0≤f∧f<c.graph.workers)(ht:0≤t∧t<c.graph.workers):0≤B0 c f t∧B0 c f t<c.links.length:=by
 have hl:=h.1.2.2.1
 have hw:=h.1.1.2.1
 clear h
 unfold B0
 generalize c.graph.workers=n at *
 have e:n=1∨n=2∨n=3∨n=4:=by omega
 rcases e with rfl|rfl|rfl|rfl<;>omega
theorem A12 {c:A5}{w:Int}(h:¬ Gz c w):Eh c w=(c,false):=if_neg h
theorem Qs {c:A5}{w:Int}(h:Gz c w):Eh c w=(Bb c w (Fk c.graph (Ad c w)).1,(Fk c.graph (Ad c w)).2):=if_pos h
theorem Zk {c:A5}{w:Int}(h:¬ Gz c w):Du c w=(c,false):=if_neg h
theorem Oi {c:A5}{w:Int}(h:Gz c w):Du c w=(Bb c w (Dm c.graph (Ad c w)).1,(Dm c.graph (Ad c w)).2):=if_pos h
theorem Sh {c:A5}{w:Int}(h:¬ (Gz c w∧0<(Ad c w).staged.length)):Cg c w=(c,false):=if_neg h
theorem Zm {c:A5}{w:Int}(h:Gz c w∧0<(Ad c w).staged.length)(h1:Ba c w=w):Cg c w=(Bb c w (kept (Ei (Ad c w)) (Be c w)),true):=by
 unfold Cg
 rw [if_pos h,if_pos h1]
theorem Wh {c:A5}{w:Int}(h:Gz c w∧0<(Ad c w).staged.length)(h1:Ba c w≠w)(h2:(Co (Bz c (B0 c w (Ba c w))) (Be c w)).2=false):Cg c w=(c,false):=by
 unfold Cg
 rw [if_pos h,if_neg h1,if_neg (by rw [h2];decide)]
theorem Wi {c:A5}{w:Int}(h:Gz c w∧0<(Ad c w).staged.length)(h1:Ba c w≠w)(h2:(Co (Bz c (B0 c w (Ba c w))) (Be c w)).2=true):Cg c w=(Bb (Cd c (B0 c w (Ba c w)) (Co (Bz c (B0 c w (Ba c w))) (Be c w)).1) w (Hm (Ei (Ad c w)) (Be c w).stamp.epoch),true):=by
 unfold Cg
 rw [if_pos h,if_neg h1,if_pos h2]
theorem B06 {k n:Int}(hk:0≤k)(hn:1≤n):0≤F1 k n∧F1 k n<n:=by
 have h1:=Int.tmod_lt_of_pos k (show 0<n by omega)
 have h2:=Int.tmod_nonneg n hk
 unfold F1
 (repeat' split)<;>omega
theorem Kt {c:A5}{f t:Int}(h:¬ Lj c f t):Dh c f t=(c,false):=if_neg fun p=>h p.1
theorem Wj {c:A5}{f t:Int}(h:(C1 (Bz c (B0 c f t))).2.2=false):Dh c f t=(c,false):=if_neg fun p=>by rw [p.2] at h;cases h
theorem Zn {c:A5}{f t:Int}(h:Lj c f t)(h1:(C1 (Bz c (B0 c f t))).2.2=true):Dh c f t=(Bb (Cd c (B0 c f t) (C1 (Bz c (B0 c f t))).1) t (En (Ad c t) (C1 (Bz c (B0 c f t))).2.1),true):=if_pos ⟨h,h1⟩
theorem Iy {c:A5}{f t:Int}(h:¬ Lj c f t):Dr c f t=(c,false):=if_neg h
theorem V2 {c:A5}{f t:Int}(h:Lj c f t):Dr c f t=(Cd c (B0 c f t) (D6 (Bz c (B0 c f t))).1,(D6 (Bz c (B0 c f t))).2):=if_pos h
def Rn (c:A5) (f t:Int):Int:=if Lj c f t then B0 c f t else-1
theorem A1p {c:A5}{f t:Int}(hC:B6 c)(hne:f≠t):Di c.graph.workers f t=Rn c f t:=by
 unfold Rn
 by_cases h:Lj c f t
 ·rw [if_pos h,Oh hC.1.1.2.1 h.2.2.1 h.2.2.2]
  rfl
 rw [if_neg h,Zc (fun p=>h ⟨hC,hne,p⟩)]
theorem A5d {c:A5}{w:Int}(h:¬ (B6 c∧c.news.any (Kx w)=true)):E8 c w=(c,false):=if_neg h
theorem A96 {c:A5}{w:Int}(h:B6 c∧c.news.any (Kx w)=true)(h1:Gf (Ad c w) (Gt c w).epoch=true):E8 c w=(Ks c w,true):=by
 unfold E8
 rw [if_pos h,if_pos h1]
theorem A95 {c:A5}{w:Int}(h:B6 c∧c.news.any (Kx w)=true)(h1:Gf (Ad c w) (Gt c w).epoch=false):E8 c w=(Bb (Ks c w) w (H2 (Ad c w) ⟨(Gt c w).epoch,(Gt c w).capped⟩),true):=by
 unfold E8
 rw [if_pos h,if_neg (by rw [h1];decide)]
end Go.Proofs.YtdendlkeiaccpaaGreatDoor
