/- Part 30 of the proof that each of the laws FnExactRunScriptOf, FnExactSpreadResult returns true for every input. No conditions. -/
import Derived.Test.YtlbmkgkmbjadcaaGreatP29

set_option linter.unusedSimpArgs false
set_option linter.unusedVariables false
set_option maxRecDepth 100000
namespace Go.Proofs.YtlbmkgkmbjadcaaGreat
open Go.Sx
theorem A12 {α:Type} [Inhabited α] (f:α→Nat):∀(l:List α) (j:Nat) (x:α),j<l.length→((l.set j x).map f).sum+f (l.getD j default)=(l.map f).sum+f x
 | [],_,_,h=>absurd h (Nat.not_lt_zero _)
 |y::r,0,x,_=>by simp;omega
 |y::r,j+1,x,h=>by
  have:=A12 f r j x (by simpa using h)
  simp only [List.set_cons_succ,List.map_cons,List.sum_cons,List.getD_cons_succ]
  omega
theorem Je {c:A4}{j:Int}{w:A6}(h:0≤j∧j<c.workers.length):(C0 c j w).w+(Ag c j).w=c.w+w.w:=by
 have:=A12 A6.w c.workers j.toNat w Ad
 simp only [C0,A4.w,wS,List.length_set,Ag]
 omega
theorem Xj {c:A4}{k:Int}{l:As}(h:0≤k∧k<c.links.length):(Df c k l).w+(Bv c k).w=c.w+l.w:=by
 have:=A12 As.w c.links k.toNat l Ad
 simp only [Df,A4.w,wS,List.length_set,Bv]
 omega
theorem Sh {c:A4}{e:Int}{t:Ay}:(Ff c e t).w=c.w:=by simp only [Ff,A4.w,List.length_set]
theorem B3x {g:Ar}{w:A6}:(Ji g w).1.w≤w.w+2:=by
 unfold Ji
 split
 ·rename_i h
  have h1:=A6p (g:=g) (cs:=w.cells) (r:=w.queue.getD 0 default)
  have h2:=A4l (g:=g) (cs:=w.cells) (r:=w.queue.getD 0 default)
  have h3:=h.2.2.2
  have h4:(if capped g (w.queue.getD 0 default)=true then w.caps.set (w.queue.getD 0 default).stamp.epoch.toNat true else w.caps).length=w.caps.length:=by split<;>simp
  simp only [Kq,A6.w,List.length_drop,h4]
  omega
 ·simp
theorem A4p {g:Ar}{w:A6}:(Fw g w).1.w≤w.w:=by
 unfold Fw
 split
 ·rename_i h
  have:=h.2.2.2.2
  simp only [Ld,A6.w,List.length_append,List.length_singleton,List.length_drop]
  omega
 ·simp
theorem A6b {w:A6}{e:Int}:(Hn w e).w=w.w:=by
 unfold Hn Gj
 split
 ·simp only [A6.w,List.length_set]
 ·rfl
theorem A56 {w:A6}{r:A3}:(H9 w r).w=w.w+1:=by
 unfold H9 Lf Gj kept
 split
 ·simp only [A6.w,List.length_set,List.length_append,List.length_singleton];omega
 ·simp only [A6.w,List.length_append,List.length_singleton];omega
theorem A6r {c:A4}{p:Bo}:(B3 c p).1.w≤c.w+4:=by
 have work:∀w,(Es c w).1.w≤c.w+4:=fun w=>by
  unfold Es
  split
  ·rename_i h
   have h1:=Je (w:=(Ji c.graph (Ag c w)).1) h.2
   have h2:=B3x (g:=c.graph) (w:=Ag c w)
   simp only
   omega
  ·simp
 have input:∀w,(E5 c w).1.w≤c.w+4:=fun w=>by
  unfold E5
  split
  ·rename_i h
   have h1:=Je (w:=(Fw c.graph (Ag c w)).1) h.2
   have h2:=A4p (g:=c.graph) (w:=Ag c w)
   simp only
   omega
  ·simp
 have move:∀w,(D0 c w).1.w≤c.w+4:=fun w=>by
  unfold D0
  split
  ·rename_i h
   obtain ⟨hW,hs⟩:=h
   have hu:(E4 (Ag c w)).w+1=(Ag c w).w:=by simp only [E4,A6.w,List.length_drop];omega
   split
   ·have h1:=Je (w:=kept (E4 (Ag c w)) (Bi c w)) hW.2
    have h2:(kept (E4 (Ag c w)) (Bi c w)).w=(E4 (Ag c w)).w+1:=by simp only [kept,A6.w,List.length_append,List.length_singleton];omega
    simp only
    omega
   ·split
    ·have hb:0≤w∧w<c.graph.workers:=by have:=hW.1.1.2.1;exact ⟨hW.2.1,by have:=hW.2.2;omega⟩
     have h1:=Xj (l:=(D6 (Bv c (Az c w (Bc c w))) (Bi c w)).1) (Ll hW.1 hb (Zk hW hs)).1
     have h2:=Je (c:=Df c (Az c w (Bc c w)) (D6 (Bv c (Az c w (Bc c w))) (Bi c w)).1) (w:=Hn (E4 (Ag c w)) (Bi c w).stamp.epoch) hW.2
     have h3:(D6 (Bv c (Az c w (Bc c w))) (Bi c w)).1.w≤(Bv c (Az c w (Bc c w))).w+1:=by
      unfold D6
      split
      ·simp [As.w]
      ·simp
     have h4:(Ag (Df c (Az c w (Bc c w)) (D6 (Bv c (Az c w (Bc c w))) (Bi c w)).1) w).w=(Ag c w).w:=rfl
     rw [A6b] at h2
     simp only
     omega
    ·simp
  ·simp
 have take:∀f t,(Dt c f t).1.w≤c.w+4:=fun f t=>by
  unfold Dt
  split
  ·rename_i h
   obtain ⟨hL,hk⟩:=h
   have ht:0≤t∧t<c.workers.length:=by have:=hL.1.1.2.1;have:=hL.2.2.2;omega
   have h1:=Xj (l:=(C6 (Bv c (Az c f t))).1) (Ll hL.1 hL.2.2.1 hL.2.2.2).1
   have h2:=Je (c:=Df c (Az c f t) (C6 (Bv c (Az c f t))).1) (w:=H9 (Ag c t) (C6 (Bv c (Az c f t))).2.1) ht
   have h3:(C6 (Bv c (Az c f t))).1.w≤(Bv c (Az c f t)).w:=by
    unfold C6
    split
    ·simp [As.w]
    ·simp
   have h4:(Ag (Df c (Az c f t) (C6 (Bv c (Az c f t))).1) t).w=(Ag c t).w:=rfl
   rw [A56] at h2
   simp only
   omega
  ·simp
 have credit:∀f t,(E9 c f t).1.w≤c.w+4:=fun f t=>by
  unfold E9
  split
  ·rename_i hL
   have h1:=Xj (l:=(Dw (Bv c (Az c f t))).1) (Ll hL.1 hL.2.2.1 hL.2.2.2).1
   have h3:(Dw (Bv c (Az c f t))).1.w=(Bv c (Az c f t)).w:=by
    unfold Dw
    split<;>simp [As.w]
   simp only
   omega
  ·simp
 have tok:∀e,(D3 c e).1.w≤c.w+4:=fun e=>by
  unfold D3
  split
  ·rename_i hT
   obtain ⟨hC,he,hD,hP⟩:=hT
   have hTP:Oh c.graph.workers (Ac c e):=hC.2.2.2.1 _ (B2 (d:=default) (show e.toNat<c.tokens.length by have:=hC.1.2.2.2;omega))
   have hn1:=hC.1.1.2.1
   have hwl:=hC.1.2.1
   have hat:0≤(Ac c e).at_∧(Ac c e).at_<c.workers.length:=by have:=hTP.1;omega
   have hwh:(Hf (Ag c (Ac c e).at_) e).w=(Ag c (Ac c e).at_).w:=by simp only [Hf,A6.w,List.length_set]
   simp only
   split
   ·have h1:=Je (c:=Ff c e ⟨true,(c.workers.length:Int)-1,0,false,(Ag c (Ac c e).at_).caps.getD e.toNat default⟩) (w:=Hf (Ag c (Ac c e).at_) e) hat
    rw [Sh,hwh] at h1
    have h2:(Ag (Ff c e ⟨true,(c.workers.length:Int)-1,0,false,(Ag c (Ac c e).at_).caps.getD e.toNat default⟩) (Ac c e).at_).w=(Ag c (Ac c e).at_).w:=rfl
    simp only
    omega
   ·split
    ·split
     ·have h1:=Je (c:=Ff c e ⟨(Ac c e).going,(Ac c e).at_-1,(Ac c e).sum+(Ag c (Ac c e).at_).sums.getD e.toNat default,(Ac c e).black||(Ag c (Ac c e).at_).black.getD e.toNat default,(Ac c e).capped||(Ag c (Ac c e).at_).caps.getD e.toNat default⟩) (w:=Hf (Ag c (Ac c e).at_) e) hat
      rw [Sh,hwh] at h1
      have h2:(Ag (Ff c e ⟨(Ac c e).going,(Ac c e).at_-1,(Ac c e).sum+(Ag c (Ac c e).at_).sums.getD e.toNat default,(Ac c e).black||(Ag c (Ac c e).at_).black.getD e.toNat default,(Ac c e).capped||(Ag c (Ac c e).at_).caps.getD e.toNat default⟩) (Ac c e).at_).w=(Ag c (Ac c e).at_).w:=rfl
      simp only
      omega
     ·simp
    ·rename_i hg ha
     have hA:(Ac c e).at_=0:=by have:=hTP.1;omega
     unfold Ho
     split
     ·have h1:=Je (c:=Ff c e ⟨false,(Ac c e).at_,(Ac c e).sum,(Ac c e).black,(Ac c e).capped⟩) (j:=0) (w:=H8 (Ag c (Ac c e).at_) ⟨e,(Ac c e).capped||(Ag c (Ac c e).at_).caps.getD e.toNat default⟩) (by have:(Ff c e ⟨false,(Ac c e).at_,(Ac c e).sum,(Ac c e).black,(Ac c e).capped⟩).workers.length=c.workers.length:=rfl;omega)
      rw [Sh] at h1
      have h2:(Ag (Ff c e ⟨false,(Ac c e).at_,(Ac c e).sum,(Ac c e).black,(Ac c e).capped⟩) 0).w=(Ag c (Ac c e).at_).w:=by rw [hA];rfl
      have h3:(H8 (Ag c (Ac c e).at_) ⟨e,(Ac c e).capped||(Ag c (Ac c e).at_).caps.getD e.toNat default⟩).w=(Ag c (Ac c e).at_).w+1:=by simp only [H8,A6.w,List.length_append,List.length_singleton];omega
      have h4:∀(x:A4) l,(Uv x l).w=x.w+l.length:=fun x l=>by simp only [Uv,A4.w,List.length_append];omega
      rw [h4]
      have h5:(Lo e ((Ac c e).capped||(Ag c (Ac c e).at_).caps.getD e.toNat default) ((Ff c e ⟨false,(Ac c e).at_,(Ac c e).sum,(Ac c e).black,(Ac c e).capped⟩).workers.length-1)).length≤3:=by
       have:(Ff c e ⟨false,(Ac c e).at_,(Ac c e).sum,(Ac c e).black,(Ac c e).capped⟩).workers.length=c.workers.length:=rfl
       rw [this]
       simp only [Lo,List.length_map,List.length_range]
       omega
      omega
     ·rw [Sh];omega
  ·simp
 have hear:∀w,(Eo c w).1.w≤c.w+4:=fun w=>by
  unfold Eo
  split
  ·rename_i hn
   obtain ⟨m1,m2⟩:=Zm hn.1 hn.2
   have hN:=hn.1.2.2.2.2 _ m1
   have hw:0≤w∧w<c.workers.length:=by have:=hn.1.1.2.1;have:=hN.1;omega
   have h0:(P0 c w).w≤c.w:=by
    have:=List.length_eraseIdx_le c.news (Kn c w)
    simp only [P0,A4.w]
    omega
   split
   ·simp only;omega
   ·have h1:=Je (c:=P0 c w) (w:=H8 (Ag c w) ⟨(F5 c w).epoch,(F5 c w).capped⟩) hw
    have h2:(Ag (P0 c w) w).w=(Ag c w).w:=rfl
    have h3:(H8 (Ag c w) ⟨(F5 c w).epoch,(F5 c w).capped⟩).w=(Ag c w).w+1:=by simp only [H8,A6.w,List.length_append,List.length_singleton];omega
    simp only
    omega
  ·simp
 unfold B3
 split
 ·exact work _
 split
 ·exact input _
 split
 ·exact move _
 split
 ·exact take _ _
 split
 ·exact credit _ _
 split
 ·exact tok _
 split
 ·exact hear _
 ·simp
theorem A0s {c:A4}(h:Bg c):Jl c:=fun l hl=>by
 obtain ⟨i,hi,rfl⟩:=List.getElem_of_mem hl
 have:=(h.2.2.1 i hi).1.1
 have e:c.links.getD i default=c.links[i]:=by simp [List.getD,hi]
 rw [e] at this
 simp only [V8] at this
 omega
theorem Zq {c:A4}{p:Bo}(h:¬ Bg c):B3 c p=(c,false):=by
 unfold B3
 repeat' split
 ·unfold Es;rw [if_neg (fun q=>h q.1)]
 ·unfold E5;rw [if_neg (fun q=>h q.1)]
 ·unfold D0;rw [if_neg (fun q=>h q.1.1)]
 ·unfold Dt;rw [if_neg (fun q=>h q.1.1)]
 ·unfold E9;rw [if_neg (fun q=>h q.1)]
 ·exact O9 (fun q=>h q.1)
 ·unfold Eo;rw [if_neg (fun q=>h q.1)]
 ·rfl
theorem Il {c d:A4}(h:d.links=c.links)(hg:Jl c):Jl d:=fun l hl=>hg l (h▸hl)
theorem Ut (c:A4)(e:Int):(D3 c e).1.links=c.links:=by
 unfold D3
 dsimp only
 repeat' split
 all_goals first
  |rfl
  |(unfold Ho;split<;>rfl)
theorem A88 {c:A4}{p:Bo}(hg:Jl c):Jl (B3 c p).1:=by
 by_cases h:Bg c
 ·unfold B3
  split
  ·unfold Es;split<;>exact Il rfl hg
  split
  ·unfold E5;split<;>exact Il rfl hg
  split
  ·unfold D0
   split
   ·rename_i hM
    split
    ·exact Il rfl hg
    ·rename_i hne
     split
     ·refine Il ?_ (A0s (Wt hM.1 hM.2 hne))
      rfl
     ·exact hg
   ·exact hg
  split
  ·unfold Dt
   split
   ·rename_i hT
    refine Il ?_ (A0s (Xy hT.1))
    rfl
   ·exact hg
  split
  ·exact A0s (Qh h)
  split
  ·exact Il (Ut c p.a) hg
  split
  ·unfold Eo
   split
   ·split<;>exact Il rfl hg
   ·exact hg
  ·exact hg
 ·rw [Zq h]
  exact hg
theorem Tg {c:A4}{l:List Bo}{k:Nat}(hk:k<l.length):Bd c (l.take (k+1))=Gy (Bd c (l.take k)) (l.getD k default):=by
 unfold Bd
 have:l.take (k+1)=l.take k++[l.getD k default]:=by
  rw [List.take_succ_eq_append_getElem hk]
  simp [List.getD,hk]
 rw [this,List.foldl_append]
 rfl
theorem B5a (l:List Bo):∀s:A4×List Bool,(l.foldl Gy s).1.w≤s.1.w+4 * l.length:=by
 induction l with
 |nil=>intro s;simp
 |cons p r ih=>
  intro s
  have h1:=ih (Gy s p)
  have h2:=A6r (c:=s.1) (p:=p)
  simp only [List.foldl_cons,List.length_cons]
  have e:(Gy s p).1=(B3 s.1 p).1:=rfl
  rw [e] at h1
  omega
theorem Ra {c:A4}{l:List Bo}:(Bd c l).1.w≤c.w+4 * l.length:=B5a l (c,[])
theorem A94 (l:List Bo):∀s:A4×List Bool,Jl s.1→Jl (l.foldl Gy s).1:=by
 induction l with
 |nil=>intro s h;exact h
 |cons p r ih=>intro s h;exact ih (Gy s p) (A88 h)
theorem Xg {c:A4}{l:List Bo}(h:Jl c):Jl (Bd c l).1:=A94 l (c,[]) h
theorem A95 (l:List Bo):∀s:A4×List Bool,(l.foldl Gy s).2.length=s.2.length+l.length:=by
 induction l with
 |nil=>intro s;simp
 |cons p r ih=>
  intro s
  have h1:=ih (Gy s p)
  simp only [List.foldl_cons,List.length_cons]
  rw [h1]
  simp only [Gy,List.length_append,List.length_cons,List.length_nil]
  omega
theorem Pl {c:A4}{l:List Bo}:(Bd c l).2.length=l.length:=by
 have:=A95 l (c,[])
 simpa [Bd] using this
theorem B21 (c:A4):Ge c≤4:=by
 have:=Ha c.graph.workers 0 4 Bs
 unfold Ge
 omega
theorem Rg (c:A4):(Lx (Ge c)).length≤44:=by
 have h:=B21 c
 have e:Ge c=0∨Ge c=1∨Ge c=2∨Ge c=3∨Ge c=4:=by omega
 rcases e with e|e|e|e|e<;>rw [e]<;>decide
theorem A72 {c:A4}:(Cn c).1.w≤c.w+176:=by
 have h1:=Ra (c:=c) (l:=Lx (Ge c))
 have h2:=Rg c
 show (Bd c (Lx (Ge c))).1.w≤_
 omega
theorem A92 {c:A4}(h:Jl c):Jl (Cn c).1:=Xg h
def Ku (c:A4):Nat→A4
 | 0=>c
 |k+1=>(Cn (Ku c k)).1
theorem B5r (c:A4)(k:Nat):(Ku c k).w≤c.w+176 * k:=by
 induction k with
 |zero=>simp [Ku]
 |succ k ih=>
  have:=A72 (c:=Ku c k)
  simp only [Ku]
  omega
theorem B4o {c:A4}(h:Jl c)(k:Nat):Jl (Ku c k):=by
 induction k with
 |zero=>exact h
 |succ k ih=>exact A92 ih
theorem Zd (c:A4)(k:Nat):Ku (Cn c).1 k=Ku c (k+1):=by
 induction k with
 |zero=>rfl
 |succ k ih=>simp only [Ku] at ih ⊢;rw [ih]
theorem Vy (k:Nat):∀(n:Nat) (c:A4),k≤n→(∀i,i<k→(Cn (Ku c i)).2≠0)→Dj n c=((Dj (n-k) (Ku c k)).1,(Dj (n-k) (Ku c k)).2+k):=by
 induction k with
 |zero=>intro n c _ _;simp [Ku]
 |succ k ih=>
  intro n c hk h
  obtain ⟨m,rfl⟩:∃m,n=m+1:=⟨n-1,by omega⟩
  have h0:(Cn c).2≠0:=h 0 Ad
  have h1:=ih m (Cn c).1 Ad (fun i hi=>by rw [Zd];exact h (i+1) Ad)
  rw [Zd] at h1
  rw [Dj,if_neg h0,h1,show m+1-(k+1)=m-k by omega]
  rfl
theorem Rr {n k:Nat}{c:A4}(hk:k<n)(h:∀i,i<k→(Cn (Ku c i)).2≠0)(h0:(Cn (Ku c k)).2=0):Dj n c=(Ku c (k+1),k+1):=by
 rw [Vy k n c Ad h]
 obtain ⟨m,hm⟩:∃m,n-k=m+1:=⟨n-k-1,by omega⟩
 rw [hm,Dj,if_pos h0]
 simp only [Ku]
 congr 1
 omega
theorem Rq {n:Nat}{c:A4}(h:∀i,i<n→(Cn (Ku c i)).2≠0):Dj n c=(Ku c n,n):=by
 rw [Vy n n c (Nat.le_refl _) h,Nat.sub_self]
 simp [Dj]
end Go.Proofs.YtlbmkgkmbjadcaaGreat
