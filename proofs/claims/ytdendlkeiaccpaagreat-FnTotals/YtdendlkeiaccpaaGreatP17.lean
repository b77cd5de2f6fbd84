/- Part 17 of the proof that each of the laws FnTotals returns true for every input. No conditions. -/
import Derived.Test.YtdendlkeiaccpaaGreatP16
import Derived.Test.YtdendlkeiaccpaaGreatP5
import Derived.Test.YtdendlkeiaccpaaGreatP6
import Derived.Test.YtdendlkeiaccpaaGreatP10
import Derived.Test.YtdendlkeiaccpaaGreatP14
import Derived.Test.YtdendlkeiaccpaaGreatP12

set_option linter.unusedSimpArgs false
set_option linter.unusedVariables false
set_option maxRecDepth 100000
namespace Go.Proofs.YtdendlkeiaccpaaGreat
open Go.Sx
theorem Za {α:Type} [Inhabited α] (f:α→Nat):∀(l:List α) (j:Nat) (x:α),j<l.length→((l.set j x).map f).sum+f (l.getD j default)=(l.map f).sum+f x
 | [],_,_,h=>absurd h (Nat.not_lt_zero _)
 |y::r,0,x,_=>by simp;omega
 |y::r,j+1,x,h=>by
  have:=Za f r j x (by simpa using h)
  simp only [List.set_cons_succ,List.map_cons,List.sum_cons,List.getD_cons_succ]
  omega
theorem Hd {c:A6}{j:Int}{w:Ac}(h:0≤j∧j<c.workers.length):(Bc c j w).w+(Af c j).w=c.w+w.w:=by
 have:=Za Ac.w c.workers j.toNat w Ab
 simp only [Bc,A6.w,wS,List.length_set,Af]
 omega
theorem Qh {c:A6}{k:Int}{l:B8}(h:0≤k∧k<c.links.length):(Cb c k l).w+(Bz c k).w=c.w+l.w:=by
 have:=Za B8.w c.links k.toNat l Ab
 simp only [Cb,A6.w,wS,List.length_set,Bz]
 omega
theorem Ld {c:A6}{e:Int}{t:Di}:(D7 c e t).w=c.w:=by simp only [D7,A6.w,List.length_set]
theorem A16 {g:Ao}{w:Ac}:(Fc g w).1.w≤w.w+2:=by
 unfold Fc
 split
 ·rename_i h
  have h1:=A3t (g:=g) (cs:=w.cells) (r:=w.queue.getD 0 default)
  have h2:=A1u (g:=g) (cs:=w.cells) (r:=w.queue.getD 0 default)
  have h3:=h.2.2.2
  have h4:(if capped g (w.queue.getD 0 default)=true then w.caps.set (w.queue.getD 0 default).stamp.epoch.toNat true else w.caps).length=w.caps.length:=by split<;>simp
  simp only [I7,Ac.w,List.length_drop,h4]
  omega
 simp
theorem Si {g:Ao}{w:Ac}:(Dd g w).1.w≤w.w:=by
 unfold Dd
 split
 ·rename_i h
  have:=h.2.2.2.2
  simp only [Iw,Ac.w,List.length_append,List.length_singleton,List.length_drop]
  omega
 simp
theorem A3e {w:Ac}{e:Int}:(Hc w e).w=w.w:=by
 unfold Hc F4
 split
 ·simp only [Ac.w,List.length_set]
 rfl
theorem Ux {w:Ac}{r:A9}:(Ea w r).w=w.w+1:=by
 unfold Ea I0 F4 kept
 split
 ·simp only [Ac.w,List.length_set,List.length_append,List.length_singleton];omega
 simp only [Ac.w,List.length_append,List.length_singleton];omega
theorem A3u {c:A6}{p:D5}:(As c p).1.w≤c.w+4:=by
 have work:∀w,(E5 c w).1.w≤c.w+4:=fun w=>by
  unfold E5
  split
  ·rename_i h
   have h1:=Hd (w:=(Fc c.graph (Af c w)).1) h.2
   have h2:=A16 (g:=c.graph) (w:=Af c w)
   simp only
   omega
  simp
 have input:∀w,(Dn c w).1.w≤c.w+4:=fun w=>by
  unfold Dn
  split
  ·rename_i h
   have h1:=Hd (w:=(Dd c.graph (Af c w)).1) h.2
   have h2:=Si (g:=c.graph) (w:=Af c w)
   simp only
   omega
  simp
 have move:∀w,(Ce c w).1.w≤c.w+4:=fun w=>by
  unfold Ce
  split
  ·rename_i h
   obtain ⟨hW,hs⟩:=h
   have hu:(E7 (Af c w)).w+1=(Af c w).w:=by simp only [E7,Ac.w,List.length_drop];omega
   split
   ·have h1:=Hd (w:=kept (E7 (Af c w)) (Bf c w)) hW.2
    have h2:(kept (E7 (Af c w)) (Bf c w)).w=(E7 (Af c w)).w+1:=by simp only [kept,Ac.w,List.length_append,List.length_singleton];omega
    simp only
    omega
   split
   ·have hb:0≤w∧w<c.graph.workers:=by have:=hW.1.1.2.1;exact ⟨hW.2.1,by have:=hW.2.2;omega⟩
    have h1:=Qh (l:=(Cl (Bz c (Ay c w (Bb c w))) (Bf c w)).1) (Jx hW.1 hb (X7 hW hs)).1
    have h2:=Hd (c:=Cb c (Ay c w (Bb c w)) (Cl (Bz c (Ay c w (Bb c w))) (Bf c w)).1) (w:=Hc (E7 (Af c w)) (Bf c w).stamp.epoch) hW.2
    have h3:(Cl (Bz c (Ay c w (Bb c w))) (Bf c w)).1.w≤(Bz c (Ay c w (Bb c w))).w+1:=by
     unfold Cl
     split
     ·simp [B8.w]
     simp
    have h4:(Af (Cb c (Ay c w (Bb c w)) (Cl (Bz c (Ay c w (Bb c w))) (Bf c w)).1) w).w=(Af c w).w:=rfl
    rw [A3e] at h2
    simp only
    omega
   simp
  simp
 have take:∀f t,(D9 c f t).1.w≤c.w+4:=fun f t=>by
  unfold D9
  split
  ·rename_i h
   obtain ⟨hL,hk⟩:=h
   have ht:0≤t∧t<c.workers.length:=by have:=hL.1.1.2.1;have:=hL.2.2.2;omega
   have h1:=Qh (l:=(C3 (Bz c (Ay c f t))).1) (Jx hL.1 hL.2.2.1 hL.2.2.2).1
   have h2:=Hd (c:=Cb c (Ay c f t) (C3 (Bz c (Ay c f t))).1) (w:=Ea (Af c t) (C3 (Bz c (Ay c f t))).2.1) ht
   have h3:(C3 (Bz c (Ay c f t))).1.w≤(Bz c (Ay c f t)).w:=by
    unfold C3
    split
    ·simp [B8.w]
    simp
   have h4:(Af (Cb c (Ay c f t) (C3 (Bz c (Ay c f t))).1) t).w=(Af c t).w:=rfl
   rw [Ux] at h2
   simp only
   omega
  simp
 have credit:∀f t,(Dl c f t).1.w≤c.w+4:=fun f t=>by
  unfold Dl
  split
  ·rename_i hL
   have h1:=Qh (l:=(D3 (Bz c (Ay c f t))).1) (Jx hL.1 hL.2.2.1 hL.2.2.2).1
   have h3:(D3 (Bz c (Ay c f t))).1.w=(Bz c (Ay c f t)).w:=by
    unfold D3
    split<;>simp [B8.w]
   simp only
   omega
  simp
 have tok:∀e,(Cq c e).1.w≤c.w+4:=fun e=>by
  unfold Cq
  split
  ·rename_i hT
   obtain ⟨hC,he,hD,hP⟩:=hT
   have hTP:Mv c.graph.workers (Ag c e):=hC.2.2.2.1 _ (B9 (d:=default) (show e.toNat<c.tokens.length by have:=hC.1.2.2.2;omega))
   have hn1:=hC.1.1.2.1
   have hwl:=hC.1.2.1
   have hat:0≤(Ag c e).at_∧(Ag c e).at_<c.workers.length:=by have:=hTP.1;omega
   have hwh:(Iq (Af c (Ag c e).at_) e).w=(Af c (Ag c e).at_).w:=by simp only [Iq,Ac.w,List.length_set]
   simp only
   split
   ·have h1:=Hd (c:=D7 c e ⟨true,(c.workers.length:Int)-1,0,false,(Af c (Ag c e).at_).caps.getD e.toNat default⟩) (w:=Iq (Af c (Ag c e).at_) e) hat
    rw [Ld,hwh] at h1
    have h2:(Af (D7 c e ⟨true,(c.workers.length:Int)-1,0,false,(Af c (Ag c e).at_).caps.getD e.toNat default⟩) (Ag c e).at_).w=(Af c (Ag c e).at_).w:=rfl
    simp only
    omega
   split
   ·split
    ·have h1:=Hd (c:=D7 c e ⟨(Ag c e).going,(Ag c e).at_-1,(Ag c e).sum+(Af c (Ag c e).at_).sums.getD e.toNat default,(Ag c e).black||(Af c (Ag c e).at_).black.getD e.toNat default,(Ag c e).capped||(Af c (Ag c e).at_).caps.getD e.toNat default⟩) (w:=Iq (Af c (Ag c e).at_) e) hat
     rw [Ld,hwh] at h1
     have h2:(Af (D7 c e ⟨(Ag c e).going,(Ag c e).at_-1,(Ag c e).sum+(Af c (Ag c e).at_).sums.getD e.toNat default,(Ag c e).black||(Af c (Ag c e).at_).black.getD e.toNat default,(Ag c e).capped||(Af c (Ag c e).at_).caps.getD e.toNat default⟩) (Ag c e).at_).w=(Af c (Ag c e).at_).w:=rfl
     simp only
     omega
    simp
   rename_i hg ha
   have hA:(Ag c e).at_=0:=by have:=hTP.1;omega
   unfold Ip
   split
   ·have h1:=Hd (c:=D7 c e ⟨false,(Ag c e).at_,(Ag c e).sum,(Ag c e).black,(Ag c e).capped⟩) (j:=0) (w:=Gr (Af c (Ag c e).at_) ⟨e,(Ag c e).capped||(Af c (Ag c e).at_).caps.getD e.toNat default⟩) (by have:(D7 c e ⟨false,(Ag c e).at_,(Ag c e).sum,(Ag c e).black,(Ag c e).capped⟩).workers.length=c.workers.length:=rfl;omega)
    rw [Ld] at h1
    have h2:(Af (D7 c e ⟨false,(Ag c e).at_,(Ag c e).sum,(Ag c e).black,(Ag c e).capped⟩) 0).w=(Af c (Ag c e).at_).w:=by rw [hA];rfl
    have h3:(Gr (Af c (Ag c e).at_) ⟨e,(Ag c e).capped||(Af c (Ag c e).at_).caps.getD e.toNat default⟩).w=(Af c (Ag c e).at_).w+1:=by simp only [Gr,Ac.w,List.length_append,List.length_singleton];omega
    have h4:∀(x:A6) l,(Pl x l).w=x.w+l.length:=fun x l=>by simp only [Pl,A6.w,List.length_append];omega
    rw [h4]
    have h5:(Mo e ((Ag c e).capped||(Af c (Ag c e).at_).caps.getD e.toNat default) ((D7 c e ⟨false,(Ag c e).at_,(Ag c e).sum,(Ag c e).black,(Ag c e).capped⟩).workers.length-1)).length≤3:=by
     have:(D7 c e ⟨false,(Ag c e).at_,(Ag c e).sum,(Ag c e).black,(Ag c e).capped⟩).workers.length=c.workers.length:=rfl
     rw [this]
     simp only [Mo,List.length_map,List.length_range]
     omega
    omega
   rw [Ld];omega
  simp
 have hear:∀w,(Dw c w).1.w≤c.w+4:=fun w=>by
  unfold Dw
  split
  ·rename_i hn
   obtain ⟨m1,m2⟩:=R8 hn.1 hn.2
   have hN:=hn.1.2.2.2.2 _ m1
   have hw:0≤w∧w<c.workers.length:=by have:=hn.1.1.2.1;have:=hN.1;omega
   have h0:(Kq c w).w≤c.w:=by
    have:=List.length_eraseIdx_le c.news (P5 c w)
    simp only [Kq,A6.w]
    omega
   split
   ·simp only;omega
   have h1:=Hd (c:=Kq c w) (w:=Gr (Af c w) ⟨(Gg c w).epoch,(Gg c w).capped⟩) hw
   have h2:(Af (Kq c w) w).w=(Af c w).w:=rfl
   have h3:(Gr (Af c w) ⟨(Gg c w).epoch,(Gg c w).capped⟩).w=(Af c w).w+1:=by simp only [Gr,Ac.w,List.length_append,List.length_singleton];omega
   simp only
   omega
  simp
 unfold As
 split
 ·exact work _
 split
 ·exact input _
 split
 ·exact move _
 split
 ·exact take _ _
 split
 ·exact credit _ _
 split
 ·exact tok _
 split
 ·exact hear _
 simp
theorem Nu {c:A6}{p:D5}(h:¬ B4 c):As c p=(c,false):=by
 unfold As
 repeat' split
 ·unfold E5;rw [if_neg (fun q=>h q.1)]
 ·unfold Dn;rw [if_neg (fun q=>h q.1)]
 ·unfold Ce;rw [if_neg (fun q=>h q.1.1)]
 ·unfold D9;rw [if_neg (fun q=>h q.1.1)]
 ·unfold Dl;rw [if_neg (fun q=>h q.1)]
 ·exact Vs (fun q=>h q.1)
 ·unfold Dw;rw [if_neg (fun q=>h q.1)]
 rfl
theorem Xj {c:A6}{l:List D5}{k:Nat}(hk:k<l.length):Bk c (l.take (k+1))=Gh (Bk c (l.take k)) (l.getD k default):=by
 unfold Bk
 have:l.take (k+1)=l.take k++[l.getD k default]:=by
  rw [List.take_succ_eq_append_getElem hk]
  simp [List.getD,hk]
 rw [this,List.foldl_append]
 rfl
theorem B3g (l:List D5):∀s:A6×List Bool,(l.foldl Gh s).1.w≤s.1.w+4 * l.length:=by
 induction l with
 |nil=>intro s;simp
 |cons p r ih=>
  intro s
  have h1:=ih (Gh s p)
  have h2:=A3u (c:=s.1) (p:=p)
  simp only [List.foldl_cons,List.length_cons]
  have e:(Gh s p).1=(As s.1 p).1:=rfl
  rw [e] at h1
  omega
theorem V3 {c:A6}{l:List D5}:(Bk c l).1.w≤c.w+4 * l.length:=B3g l (c,[])
theorem A7b (l:List D5):∀s:A6×List Bool,(l.foldl Gh s).2.length=s.2.length+l.length:=by
 induction l with
 |nil=>intro s;simp
 |cons p r ih=>
  intro s
  have h1:=ih (Gh s p)
  simp only [List.foldl_cons,List.length_cons]
  rw [h1]
  simp only [Gh,List.length_append,List.length_cons,List.length_nil]
  omega
theorem A1l {c:A6}{l:List D5}:(Bk c l).2.length=l.length:=by
 have:=A7b l (c,[])
 simpa [Bk] using this
theorem B0n (c:A6):Hb c≤4:=by
 have:=G8 c.graph.workers 0 4 Aw
 unfold Hb
 omega
theorem Tc (c:A6):(Qv (Hb c)).length≤44:=by
 have h:=B0n c
 have e:Hb c=0∨Hb c=1∨Hb c=2∨Hb c=3∨Hb c=4:=by omega
 rcases e with e|e|e|e|e<;>rw [e]<;>decide
theorem A5e {c:A6}:(Cp c).1.w≤c.w+176:=by
 have h1:=V3 (c:=c) (l:=Qv (Hb c))
 have h2:=Tc c
 show (Bk c (Qv (Hb c))).1.w≤_
 omega
def Ml (c:A6):Nat→A6
 | 0=>c
 |k+1=>(Cp (Ml c k)).1
theorem B5h (c:A6)(k:Nat):(Ml c k).w≤c.w+176 * k:=by
 induction k with
 |zero=>simp [Ml]
 |succ k ih=>
  have:=A5e (c:=Ml c k)
  simp only [Ml]
  omega
theorem X2 (c:A6)(k:Nat):Ml (Cp c).1 k=Ml c (k+1):=by
 induction k with
 |zero=>rfl
 |succ k ih=>simp only [Ml] at ih ⊢;rw [ih]
theorem Tp (k:Nat):∀(n:Nat) (c:A6),k≤n→(∀i,i<k→(Cp (Ml c i)).2≠0)→Dz n c=((Dz (n-k) (Ml c k)).1,(Dz (n-k) (Ml c k)).2+k):=by
 induction k with
 |zero=>intro n c _ _;simp [Ml]
 |succ k ih=>
  intro n c hk h
  obtain ⟨m,rfl⟩:∃m,n=m+1:=⟨n-1,by omega⟩
  have h0:(Cp c).2≠0:=h 0 Ab
  have h1:=ih m (Cp c).1 Ab (fun i hi=>by rw [X2];exact h (i+1) Ab)
  rw [X2] at h1
  rw [Dz,if_neg h0,h1,show m+1-(k+1)=m-k by omega]
  rfl
theorem Yb {n k:Nat}{c:A6}(hk:k<n)(h:∀i,i<k→(Cp (Ml c i)).2≠0)(h0:(Cp (Ml c k)).2=0):Dz n c=(Ml c (k+1),k+1):=by
 rw [Tp k n c Ab h]
 obtain ⟨m,hm⟩:∃m,n-k=m+1:=⟨n-k-1,by omega⟩
 rw [hm,Dz,if_pos h0]
 simp only [Ml]
 congr 1
 omega
theorem Y9 {n:Nat}{c:A6}(h:∀i,i<n→(Cp (Ml c i)).2≠0):Dz n c=(Ml c n,n):=by
 rw [Tp n n c (Nat.le_refl _) h,Nat.sub_self]
 simp [Dz]
theorem A81 (l:List Fm)(k:Nat):l.eraseIdx k=l.take k++l.drop (k+1):=List.eraseIdx_eq_take_drop_succ l k
theorem Yp {s:Bs}(h:Dp s=false):D8 s=(s,false):=by
 unfold D8
 rw [if_neg (fun p=>by rw [p.1] at h;cases h)]
theorem Yq {s:Bs}(h:¬ s.turn<6):D8 s=(s,false):=by
 unfold D8
 rw [if_neg (fun p=>h p.2)]
theorem Yr {s:Bs}(h1:Dp s=true)(h2:s.turn<6):D8 s=(⟨s.epoch,s.turn+1⟩,true):=by
 unfold D8
 rw [if_pos ⟨h1,h2⟩]
theorem B09 {s:Bs}(h:Dp s=true):(0≤s.epoch∧s.epoch≤3)∧0≤s.turn∧s.turn≤6:=of_decide_eq_true h
theorem Qj (s:Bs):Bi Tryz.prog 212 [.agg s.c] [.agg (D8 s).1.c,.one (vb (D8 s).2)]:=by
 refine Bd A0 false Tryz.func212 rfl Aw fun W=>?_
 conv=>whnf
 refine Az (Kv s) rfl (A8 ?_)
 refine ⟨fun h1=>?_,fun h1=>?_⟩<;>conv=>whnf
 ·have h1:Dp s=false:=by simpa using h1
  repeat refine B7 ?_
  rw [Yp h1]
  refine B2 A0 rfl rfl ?_
  exact At
 have h1:Dp s=true:=by simpa using h1
 have hb:=B09 h1
 repeat refine B7 ?_
 refine ⟨fun h2=>?_,fun h2=>?_⟩<;>conv=>whnf
 ·have h2:s.turn≥6:=of_decide_eq_true h2
  repeat refine B7 ?_
  rw [Yq Ab]
  refine B2 A0 rfl rfl ?_
  exact At
 have h2:¬ s.turn≥6:=of_decide_eq_false h2
 repeat refine B7 ?_
 (repeat refine Am ?_)
 rw [Yr h1 Ab]
 refine B2 A0 rfl rfl ?_
 exact At
theorem B05 (a b:Int):Bi Tryz.prog 168 [.one (vi a),.one (vi b)] [.one (vi (if b<a then b else a))]:=by
 refine Bd A0 false Tryz.func168 rfl Aw fun W=>?_
 conv=>whnf
 refine Es (fun h=>?_) fun h=>?_<;>conv=>whnf
 ·rw [if_pos h]
  refine B2 A0 rfl rfl ?_
  exact At
 rw [if_neg h]
 refine B2 A0 rfl rfl ?_
 exact At
theorem Of (k:Int):Bi Tryz.prog 211 [.one (vi k)] [.one (vb (decide (k=5∨k=6∨k=8)))]:=by
 refine Bd A0 false Tryz.func211 rfl Aw fun W=>?_
 conv=>whnf
 refine ⟨fun h5=>have h5:=eq_of_beq h5;?_,fun h5=>have h5:=beq_eq_false_iff_ne.1 h5;?_⟩<;>conv=>whnf
 ·repeat refine B7 ?_
  exact B2 A0 rfl rfl ⟨congrArg vb (by simp [h5]),trivial⟩
 repeat refine B7 ?_
 refine ⟨fun h6=>have h6:=eq_of_beq h6;?_,fun h6=>have h6:=beq_eq_false_iff_ne.1 h6;?_⟩<;>conv=>whnf
 ·repeat refine B7 ?_
  exact B2 A0 rfl rfl ⟨congrArg vb (by simp [h6]),trivial⟩
 repeat refine B7 ?_
 exact B2 A0 rfl rfl ⟨congrArg vb (by simp [h5,h6];rfl),trivial⟩
theorem Oy {x:An}{k v:Int}(h:¬ (Jd x∧Mn k v)):C8 x k v=(k,v,false):=if_neg h
theorem A5z {x:An}{k v:Int}(h:Jd x∧Mn k v)(h2:x.kind=2):C8 x k v=(k,if 999<v+x.a then 999 else v+x.a,true):=by
 rw [C8,if_pos h,if_pos h2]
 congr 2
 by_cases h3:999<v+x.a
 ·rw [if_pos h3,if_neg Ab]
 rw [if_neg h3]
 split<;>omega
theorem A51 {x:An}{k v:Int}(h:Jd x∧Mn k v)(h2:x.kind=4):C8 x k v=((k+x.a).tmod 100,v,true):=by
 rw [C8,if_pos h,if_neg Ab,if_pos h2]
theorem A50 {x:An}{k v:Int}(h:Jd x∧Mn k v)(h2:x.kind=3):C8 x k v=(k,v,k.tmod x.a==x.b):=by
 rw [C8,if_pos h,if_neg Ab,if_neg Ab,if_pos h2]
theorem A52 {x:An}{k v:Int}(h:Jd x∧Mn k v)(h2:x.kind≠2)(h4:x.kind≠4)(h3:x.kind≠3):C8 x k v=(k,v,x.kind !=8):=by
 rw [C8,if_pos h,if_neg h2,if_neg h4,if_neg h3]
theorem A1p (x:An)(k v:Int)(hx:x.w≤16777216):Bi Tryz.prog 131 [.agg x.c,.one (vi k),.one (vi v)] [.one (vi (C8 x k v).1),.one (vi (C8 x k v).2.1),.one (vb (C8 x k v).2.2)]:=by
 refine Bd A0 false Tryz.func131 rfl Aw fun W=>?_
 conv=>whnf
 refine Az (Vd x hx) rfl (A8 ?_)
 refine ⟨fun h1=>?_,fun h1=>?_⟩<;>conv=>whnf
 ·have h1:Ra x=false:=by simpa using h1
  repeat refine B7 ?_
  rw [Oy (fun p=>absurd p.1 (of_decide_eq_false h1))]
  refine B2 A0 rfl rfl ?_
  exact At
 have h1:Ra x=true:=by simpa using h1
 repeat refine B7 ?_
 refine Az (Ep k 0 99) rfl (A8 ?_)
 repeat refine B7 ?_
 refine ⟨fun h2=>?_,fun h2=>?_⟩<;>conv=>whnf
 ·have h2:Eb k 0 99=false:=by simpa using h2
  repeat refine B7 ?_
  rw [Oy (fun p=>Go.Sx.Bo.1 h2 p.2.1)]
  refine B2 A0 rfl rfl ?_
  exact At
 have h2:Eb k 0 99=true:=by simpa using h2
 repeat refine B7 ?_
 refine Az (Ep v 0 999) rfl (A8 ?_)
 repeat refine B7 ?_
 refine ⟨fun h3=>?_,fun h3=>?_⟩<;>conv=>whnf
 ·have h3:Eb v 0 999=false:=by simpa using h3
  repeat refine B7 ?_
  rw [Oy (fun p=>Go.Sx.Bo.1 h3 p.2.2)]
  refine B2 A0 rfl rfl ?_
  exact At
 have h3:Eb v 0 999=true:=by simpa using h3
 have hI:Mn k v:=⟨Go.Sx.Au.1 h2,Go.Sx.Au.1 h3⟩
 have hN:Jd x:=of_decide_eq_true h1
 have hk:=hI.1
 have hv:=hI.2
 repeat refine B7 ?_
 refine ⟨fun k2=>have k2:=eq_of_beq k2;?_,fun k2=>have k2:=beq_eq_false_iff_ne.1 k2;?_⟩<;>conv=>whnf
 ·have ha:=hN.2.1 k2
  repeat refine B7 ?_
  (repeat refine Am ?_)
  refine Az (B05 (v+x.a) 999) rfl (A8 ?_)
  rw [A5z ⟨hN,hI⟩ k2]
  refine B2 A0 rfl rfl ?_
  exact At
 repeat refine B7 ?_
 refine ⟨fun k4=>have k4:=eq_of_beq k4;?_,fun k4=>have k4:=beq_eq_false_iff_ne.1 k4;?_⟩<;>conv=>whnf
 ·have ha:=hN.2.2.2.1 k4
  repeat refine B7 ?_
  (repeat refine Am ?_)
  rw [A51 ⟨hN,hI⟩ k4]
  refine B2 A0 rfl rfl ?_
  exact At
 repeat refine B7 ?_
 refine ⟨fun k3=>have k3:=eq_of_beq k3;?_,fun k3=>have k3:=beq_eq_false_iff_ne.1 k3;?_⟩<;>conv=>whnf
 ·have ha:=hN.2.2.1 k3
  repeat refine B7 ?_
  first|(refine B5 9 rfl [0,1,2,3,4,5,6,7,8,9,10,11] A7 (A8 ?_))|(refine B5 10 rfl [0,1,2,3,4,5,6,7] A7 (A8 ?_))
  (repeat refine Am ?_)
  rw [A50 ⟨hN,hI⟩ k3]
  refine B2 A0 rfl rfl ?_
  exact At
 repeat refine B7 ?_
 first|(refine B5 9 rfl [0,1,2,3,4,5,6,7,8,9,10,11] A7 (A8 ?_))|(refine B5 10 rfl [0,1,2,3,4,5,6,7] A7 (A8 ?_))
 rw [A52 ⟨hN,hI⟩ k2 k4 k3]
 refine B2 A0 rfl rfl ?_
 exact At
theorem Sz {l:B8}{r:A9}(h:¬ Zr l r):Cl l r=(l,false):=if_neg h
theorem B0w {l:B8}{r:A9}(h:Zr l r):Cl l r=(⟨l.cap,l.queue++[r],l.credits-1,l.back,l.sent+1,l.got⟩,true):=if_pos h
theorem Zc {l:B8}(h:¬ (Fq l∧0<l.queue.length)):C3 l=(l,default,false):=if_neg h
theorem A11 {l:B8}(h:Fq l∧0<l.queue.length):C3 l=(⟨l.cap,l.queue.drop 1,l.credits,l.back+1,l.sent,l.got+1⟩,l.queue.getD 0 default,true):=if_pos h
theorem A4g {l:B8}(h:¬ (Fq l∧l.back≠0)):D3 l=(l,false):=if_neg h
theorem A8l {l:B8}(h:Fq l∧l.back≠0):D3 l=(⟨l.cap,l.queue,l.credits+1,l.back-1,l.sent,l.got⟩,true):=if_pos h
set_option maxHeartbeats 1000000 in
theorem Pd (l:B8)(r:A9)(hl:l.w≤16777216):Bi Tryz.prog 158 [.agg l.c,.agg r.c] [.agg (Cl l r).1.c,.one (vb (Cl l r).2)]:=by
 have hq:l.queue.length≤16777216:=hl
 refine Bd A0 false Tryz.func158 rfl Aw fun W=>?_
 conv=>whnf
 refine Cx (Jn l Ab) rfl (A8 ?_)
 refine Az (M9 l Ab) rfl (A8 ?_)
 refine ⟨fun h1=>?_,fun h1=>?_⟩<;>conv=>whnf
 ·have h1:Lz l=false:=by simpa using h1
  repeat refine B7 ?_
  rw [Sz (fun p=>absurd p.1 (of_decide_eq_false h1))]
  refine B2 A0 rfl rfl ?_
  exact At
 have h1:Fq l:=of_decide_eq_true (show Lz l=true by simpa using h1)
 obtain ⟨⟨n1,n2,n3,n4,n5,n6,n7⟩,nA⟩:=id h1
 repeat refine B7 ?_
 refine Az (H2 r) rfl (A8 ?_)
 repeat refine B7 ?_
 refine ⟨fun h2=>?_,fun h2=>?_⟩<;>conv=>whnf
 ·have h2:I6 r=false:=by simpa using h2
  repeat refine B7 ?_
  rw [Sz (fun p=>absurd p.2.1 (of_decide_eq_false h2))]
  refine B2 A0 rfl rfl ?_
  exact At
 have h2:H7 r:=of_decide_eq_true (show I6 r=true by simpa using h2)
 repeat refine B7 ?_
 refine ⟨fun h3=>have h3:=eq_of_beq h3;?_,fun h3=>have h3:=beq_eq_false_iff_ne.1 h3;?_⟩<;>conv=>whnf
 ·repeat refine B7 ?_
  rw [Sz (fun p=>p.2.2.1 h3)]
  refine B2 A0 rfl rfl ?_
  exact At
 repeat refine B7 ?_
 refine ⟨fun h4=>?_,fun h4=>?_⟩<;>conv=>whnf
 ·have h4:l.sent=1000000000:=by (have:=of_decide_eq_true h4;omega)
  repeat refine B7 ?_
  rw [Sz (fun p=>p.2.2.2 h4)]
  refine B2 A0 rfl rfl ?_
  exact At
 have h4:l.sent≠1000000000:=by (have:=of_decide_eq_false h4;omega)
 repeat refine B7 ?_
 refine Av A0 rfl rfl rfl rfl rfl rfl rfl rfl rfl rfl rfl (Aa (l.queue++[r])) (Ad rfl) Bj Ab (A8 ?_)
 (repeat refine Am ?_)
 rw [B0w ⟨h1,h2,h3,h4⟩]
 refine B2 A0 rfl rfl ?_
 exact At
set_option maxHeartbeats 1000000 in
theorem Ql (l:B8)(hl:l.w≤16777216):Bi Tryz.prog 156 [.agg l.c] [.agg (C3 l).1.c,.agg (C3 l).2.1.c,.one (vb (C3 l).2.2)]:=by
 have hq:l.queue.length≤16777216:=hl
 refine Bd A0 false Tryz.func156 rfl Aw fun W=>?_
 conv=>whnf
 refine Cx (Jn l Ab) rfl (A8 ?_)
 refine Az (M9 l Ab) rfl (A8 ?_)
 refine ⟨fun h1=>?_,fun h1=>?_⟩<;>conv=>whnf
 ·have h1:Lz l=false:=by simpa using h1
  repeat refine B7 ?_
  rw [Zc (fun p=>absurd p.1 (of_decide_eq_false h1))]
  refine B2 A0 rfl rfl ?_
  exact At
 have h1:Fq l:=of_decide_eq_true (show Lz l=true by simpa using h1)
 obtain ⟨⟨n1,n2,n3,n4,n5,n6,n7⟩,nA⟩:=id h1
 repeat refine B7 ?_
 refine ⟨fun h2=>have h2:=eq_of_beq h2;?_,fun h2=>have h2:=beq_eq_false_iff_ne.1 h2;?_⟩<;>conv=>whnf
 ·repeat refine B7 ?_
  rw [Zc (fun p=>by omega)]
  refine B2 A0 rfl rfl ?_
  exact At
 have h2:0<l.queue.length:=by omega
 repeat refine B7 ?_
 (repeat refine Am ?_)
 refine A1v A0 rfl rfl rfl rfl rfl rfl rfl rfl (l:=1) rfl rfl (⟨by omega,by omega,by omega⟩) (Aa (l.queue.drop 1)) (Fw (k:=1) h2) (A8 ?_)
 refine Av A0 rfl rfl rfl rfl rfl rfl rfl rfl rfl rfl rfl (Aa (l.queue.drop 1)) (Cc) (fun _=>Cd _) (by (rw [List.length_drop];omega)) (A8 ?_)
 (repeat refine Am ?_)
 refine Je rfl ?_
 refine Dt (s':=?_) 0 rfl A7 ?_ ?_
 rotate_left
 refine A8 ?_
 (repeat refine Am ?_)
 exact Bh
 refine Ek [1,2] A7 ⟨?_,?_,trivial⟩
 focus
  refine A8 ?_
  (repeat refine Am ?_)
  refine Eu ?_
  refine Ek [2] A7 ⟨?_,trivial⟩
  refine A8 ?_
  (repeat refine Am ?_)
  refine Eu ?_
  refine Ek [3] A7 ⟨?_,trivial⟩
  refine A8 ?_
  (repeat refine Am ?_)
  refine Eu ?_
  refine Bu A0 false 4 rfl rfl A7 rfl (A4 B1) ?_
  refine Mj A7 (A8 ?_)
 rotate_left 1
 focus
  refine A8 ?_
  (repeat refine Am ?_)
  refine Eu ?_
  refine Dt (s':=?_) 1 rfl A7 ?_ ?_
  rotate_left
  refine A8 ?_
  (repeat refine Am ?_)
  exact Bh
  refine Ek [3] A7 ⟨?_,trivial⟩
  refine A8 ?_
  (repeat refine Am ?_)
  refine Eu ?_
  refine Bu A0 false 4 rfl rfl A7 rfl (A4 B1) ?_
  refine Mj A7 (A8 ?_)
 all_goals
  rw [A11 ⟨h1,h2⟩]
  refine B2 A0 rfl rfl ?_
  exact At
theorem Nl (l:B8)(hl:l.w≤16777216):Bi Tryz.prog 157 [.agg l.c] [.agg (D3 l).1.c,.one (vb (D3 l).2)]:=by
 refine Bd A0 false Tryz.func157 rfl Aw fun W=>?_
 conv=>whnf
 refine Cx (Jn l Ab) rfl (A8 ?_)
 refine Az (M9 l Ab) rfl (A8 ?_)
 refine ⟨fun h1=>?_,fun h1=>?_⟩<;>conv=>whnf
 ·have h1:Lz l=false:=by simpa using h1
  repeat refine B7 ?_
  rw [A4g (fun p=>absurd p.1 (of_decide_eq_false h1))]
  refine B2 A0 rfl rfl ?_
  exact At
 have h1:Fq l:=of_decide_eq_true (show Lz l=true by simpa using h1)
 obtain ⟨⟨n1,n2,n3,n4,n5,n6,n7⟩,nA⟩:=id h1
 repeat refine B7 ?_
 refine ⟨fun h2=>have h2:=eq_of_beq h2;?_,fun h2=>have h2:=beq_eq_false_iff_ne.1 h2;?_⟩<;>conv=>whnf
 ·repeat refine B7 ?_
  rw [A4g (fun p=>p.2 h2)]
  refine B2 A0 rfl rfl ?_
  exact At
 repeat refine B7 ?_
 (repeat refine Am ?_)
 rw [A8l ⟨h1,h2⟩]
 refine B2 A0 rfl rfl ?_
 exact At
theorem Hs {α:Type} [Inhabited α] {l:List α}{k:Nat}(hk:k<l.length):l.take (k+1)=l.take k++[l.getD k default]:=by
 rw [List.take_succ_eq_append_getElem hk]
 simp [List.getD,hk]
theorem U6 {l:List Be}{k:Nat}(hk:k<l.length)(op e key:Int):Jl (l.take (k+1)) op e key=Yk op e key (Jl (l.take k) op e key) (l.getD k default):=by
 unfold Jl
 rw [Hs hk,List.foldl_append]
 rfl
set_option maxHeartbeats 1000000 in
theorem Sc (l:List Be)(op e key:Int)(hl:l.length≤16000000):Bi Tryz.prog 167 [.one (Bg l),.one (vi op),.one (vi e),.one (vi key)] [.one (vi (Jl l op e key).1),.one (vb (Jl l op e key).2)]:=by
 refine Bd A0 false Tryz.func167 rfl Aw fun W=>?_
 conv=>whnf
 refine Bv A0 false [] (fun k:Nat=>[(12,.c (vi k)),(10,.c (vi (Jl (l.take k) op e key).1)),(11,.c (vb (Jl (l.take k) op e key).2))]) (fun k=>[]) (fun k=>[])
  (fun k=>k≤l.length) (fun k=>l.length-k) 0 (Nat.zero_le _) ⟨F3,F3,F3,trivial⟩ trivial trivial Cj A7 (fun k hk=>?_)
 conv=>whnf
 refine Es (fun h0=>?_) fun h0=>?_<;>conv=>whnf
 ·have h0:k<l.length:=by omega
  (repeat refine Am ?_)
  repeat' (first|(refine Oo ?_;conv=>whnf)|(refine Oq ?_;conv=>whnf)|(refine ⟨fun h=>?_,fun h=>?_⟩<;>conv=>whnf)|(refine Gl ?_;conv=>whnf)|fail)
  all_goals
   refine B6 [] (k+1) Ab Ab ⟨rfl,congrArg (fun n=>AV.c (vi n)) (by rw [U6 h0];simp_all [Yk]<;>rw [if_neg Ab]<;>assumption),congrArg (fun n=>AV.c (vb n)) (by rw [U6 h0];simp_all [Yk]<;>rw [if_neg Ab]<;>assumption),trivial⟩ trivial trivial A7 Cj A7
 refine B2 A0 rfl rfl ⟨?_,?_,trivial⟩
 ·rw [show l.take k=l from List.take_of_length_le Ab];rfl
 rw [show l.take k=l from List.take_of_length_le Ab];rfl
end Go.Proofs.YtdendlkeiaccpaaGreat
