/- Part 19 of the proof that each of the laws FnOneWorker returns true for every input. No conditions. -/
import Derived.Test.YtonodkjaoalfjaaGreatP18
import Derived.Test.YtonodkjaoalfjaaGreatP17

set_option linter.unusedSimpArgs false
set_option linter.unusedVariables false
set_option maxRecDepth 100000
namespace Go.Proofs.YtonodkjaoalfjaaGreat
open Go.Sx
def Ep (c:A3) (e:Int) (k:Nat):Int:=((c.workers.take k).map fun w=>Dx w e).sum
theorem Gs {c:A3}{e:Int}{k:Nat}(h:k<c.workers.length):Ep c e (k+1)=Ep c e k+Dx (wk c k) e:=by
 unfold Ep
 rw [List.take_add_one,List.map_append,List.sum_append]
 simp [wk,List.getD,h]
theorem Lz {c:A3}{e:Int}:Ep c e 0=0:=by simp [Ep]
theorem I7 {c c':A3}{e:Int}{j:Nat}{w:Ab}(h:c'.workers=c.workers.set j w)(hj:j<c.workers.length):∀k,k≤c.workers.length→Ep c' e k=Ep c e k+if j<k then Dx w e-Dx (wk c j) e else 0:=by
 intro k
 induction k with
 |zero=>intro _;simp [Lz]
 |succ k ih=>
  intro hk
  have hlen:c'.workers.length=c.workers.length:=by rw [h,List.length_set]
  rw [Gs Ac,Gs Ac,ih Ac,Ey h hj]
  by_cases h1:k=j
  ·subst h1
   rw [if_pos rfl,if_neg (Nat.lt_irrefl _),if_pos (Nat.lt_succ_self _)]
   omega
  ·rw [if_neg h1]
   by_cases h2:j<k
   ·rw [if_pos h2,if_pos Ac];omega
   ·rw [if_neg h2,if_neg Ac];omega
theorem Fa {c c':A3}{e:Int}{j:Nat}{w:Ab}(h:c'.workers=c.workers.set j w)(hj:j<c.workers.length)(hs:Dx w e=Dx (wk c j) e){k:Nat}(hk:k≤c.workers.length):Ep c' e k=Ep c e k:=by
 rw [I7 h hj k hk,hs]
 split<;>omega
theorem B1q {c c':A3}{e:Int}(h:c'.workers=c.workers)(k:Nat):Ep c' e k=Ep c e k:=by unfold Ep;rw [h]
def Ln (c:A3) (e:Int):Prop:=Ep c e c.workers.length=Ev c e
theorem Fl.len {e:Int}{c c':A3}(h:Fl e c c'):c'.workers.length=c.workers.length:=by
 cases h<;>(rename_i hw _ _ _;first|(rw [hw,List.length_set];done)|(rw [hw];done))
theorem Ln.step {e:Int}{c c':A3}(h:Fl e c c')(hl:0<c.workers.length)(hs:Ln c e):Ln c' e:=by
 have hlen:=h.len
 unfold Ln at *
 rw [hlen]
 cases h with
 |quiet j w' hj hq hw hf ht hd=>rw [Fa hw hj hq.1 (Nat.le_refl _),hf];exact hs
 |send j w' hj hp h1 h2 h3 hw hf ht hd=>rw [I7 hw hj _ (Nat.le_refl _),if_pos hj,hf,h1];omega
 |take j w' hj h1 h2 h3 hw hf ht hd=>rw [I7 hw hj _ (Nat.le_refl _),if_pos hj,h1];omega
 |start hT hg w' h1 h2 h3 h4 hw hf ht hd=>rw [Fa hw hl h1 (Nat.le_refl _),hf];exact hs
 |pass hT hg j ha h0 hj w' h1 h2 h3 h4 hw hf ht hd=>rw [Fa hw hj h1 (Nat.le_refl _),hf];exact hs
 |fail hT hg ha hno hw hf ht hd=>rw [B1q hw,hf];exact hs
 |told hT hg ha hb hb0 hs0 w' hq hw hf ht hd=>rw [Fa hw hl hq.1 (Nat.le_refl _),hf];exact hs
def Vis (c:A3) (e:Int) (t:Es):Prop:=∀i:Nat,t.at_<(i:Int)→i<c.workers.length→De (wk c i) e=true∧(Ck (wk c i) e=true→t.capped=true)
def Sn (c:A3) (e:Int):Prop:=(A4 c e).going=true→
 (A4 c e).black=true∨(∃i:Nat,(i:Int)≤(A4 c e).at_∧i<c.workers.length∧Em (wk c i) e=true)∨0<(A4 c e).sum+Ep c e ((A4 c e).at_.toNat+1)∨
  (Vis c e (A4 c e)∧(A4 c e).sum+Ep c e ((A4 c e).at_.toNat+1)=Ep c e c.workers.length)
theorem Sn.step {e:Int}{c c':A3}(h:Fl e c c')(hl:0<c.workers.length)(hat:0≤(A4 c e).at_∧(A4 c e).at_<c.workers.length)(hs:Ln c e)(hS:Sn c e):Sn c' e:=by
 have hlen:=h.len
 intro hg'
 cases h with
 |quiet j w' hj hq hw hf ht hd=>
  rw [ht] at hg' ⊢
  rw [Fa hw hj hq.1 Ac,hlen,Fa hw hj hq.1 (Nat.le_refl _)]
  rcases hS hg' with h|⟨i,h1,h2,h3⟩|h|⟨h1,h2⟩
  ·exact .inl h
  ·refine .inr (.inl ⟨i,h1,h2,?_⟩)
   rw [Ey hw hj]
   split
   ·rename_i e0;subst e0;rw [hq.2.1];exact h3
   ·exact h3
  ·exact .inr (.inr (.inl h))
  ·refine .inr (.inr (.inr ⟨fun i hi hil=>?_,h2⟩))
   obtain ⟨p1,p2⟩:=h1 i hi Ac
   rw [Ey hw hj]
   split
   ·rename_i e0
    subst e0
    obtain ⟨q1,q2⟩:=hq.2.2.2 p1
    exact ⟨q1,by rw [q2];exact p2⟩
   ·exact ⟨p1,p2⟩
 |send j w' hj hp h1 h2 h3 hw hf ht hd=>
  rw [ht] at hg' ⊢
  rw [I7 hw hj _ Ac,hlen,I7 hw hj _ (Nat.le_refl _),if_pos hj,h1]
  rcases hS hg' with h|⟨i,g1,g2,g3⟩|h|⟨g1,g2⟩
  ·exact .inl h
  ·refine .inr (.inl ⟨i,g1,g2,?_⟩)
   rw [Ey hw hj]
   split
   ·rename_i e0;subst e0;rw [h2];exact g3
   ·exact g3
  ·refine .inr (.inr (.inl ?_))
   split<;>omega
  ·by_cases hja:(A4 c e).at_<(j:Int)
   ·have:=(g1 j hja hj).1
    rw [hp] at this
    cases this
   ·refine .inr (.inr (.inr ⟨fun i hi hil=>?_,?_⟩))
    ·have hne:i≠j:=fun e0=>hja Ac
     rw [Ey hw hj,if_neg hne]
     exact g1 i hi Ac
    ·rw [if_pos Ac];omega
 |take j w' hj h1 h2 h3 hw hf ht hd=>
  rw [ht] at hg' ⊢
  rw [I7 hw hj _ Ac,hlen,I7 hw hj _ (Nat.le_refl _),if_pos hj,h1]
  by_cases hja:(A4 c e).at_<(j:Int)
  ·rw [if_neg Ac]
   rcases hS hg' with h|⟨i,g1,g2,g3⟩|h|⟨g1,g2⟩
   ·exact .inl h
   ·refine .inr (.inl ⟨i,g1,g2,?_⟩)
    rw [Ey hw hj,if_neg Ac]
    exact g3
   ·exact .inr (.inr (.inl Ac))
   ·refine .inr (.inr (.inl ?_))
    unfold Ln at hs
    omega
  ·refine .inr (.inl ⟨j,by omega,hj,?_⟩)
   rw [Ey hw hj,if_pos rfl]
   exact h2
 |start hT hg w' h1 h2 h3 h4 hw hf ht hd=>
  rw [ht]
  refine .inr (.inr (.inr ⟨fun i hi hil=>?_,?_⟩))
  ·simp only at hi
   omega
  ·simp only
   rw [hlen,show ((c.workers.length:Int)-1).toNat+1=c.workers.length by omega]
   omega
 |pass hT hg j ha h0 hj w' h1 h2 h3 h4 hw hf ht hd=>
  rw [ht]
  simp only
  have ej:((j:Int)-1).toNat+1=j:=by omega
  have ea:(A4 c e).at_.toNat+1=j+1:=by omega
  have hsS:=hS hg
  rw [ea,Gs hj,ha] at hsS
  rw [hlen,ej,Fa hw hj h1 Ac,Fa hw hj h1 (Nat.le_refl _)]
  rcases hsS with h|⟨i,g1,g2,g3⟩|h|⟨g1,g2⟩
  ·exact .inl (by rw [h];rfl)
  ·by_cases hij:i=j
   ·subst hij
    exact .inl (by rw [g3];simp)
   ·refine .inr (.inl ⟨i,by omega,g2,?_⟩)
    rw [Ey hw hj,if_neg hij]
    exact g3
  ·exact .inr (.inr (.inl Ac))
  ·refine .inr (.inr (.inr ⟨fun i hi hil=>?_,by omega⟩))
   simp only at hi
   rw [Ey hw hj]
   split
   ·rename_i e0
    refine ⟨h4,fun hc=>?_⟩
    rw [h3] at hc
    simp [hc]
   ·rename_i hne
    obtain ⟨p1,p2⟩:=g1 i (by rw [ha];omega) Ac
    exact ⟨p1,fun hc=>by simp [p2 hc]⟩
 |fail hT hg ha hno hw hf ht hd=>rw [ht] at hg';cases hg'
 |told hT hg ha hb hb0 hs0 w' hq hw hf ht hd=>rw [ht] at hg';cases hg'
def A2o (c:A3) (e:Int):Prop:=(Dc (wk c 0) e).2=true→(∀i,i<c.workers.length→De (wk c i) e=true)∧Ev c e=0∧((Dc (wk c 0) e).1.capped=false→∀i,i<c.workers.length→Ck (wk c i) e=false)
theorem Hd {w:Ab}{e:Int}:(Dc w e).2=B1 w e:=by
 unfold Dc
 split
 ·rename_i h;rw [h]
 ·rename_i h;simpa using h
theorem A2o.step {e:Int}{c c':A3}(h:Fl e c c')(hl:0<c.workers.length)(hs:Ln c e)(hS:Sn c e)(hD:A2o c e):A2o c' e:=by
 have hlen:=h.len
 intro hd'
 rw [hlen]
 cases h with
 |quiet j w' hj hq hw hf ht hd=>
  rw [hd] at hd' ⊢
  obtain ⟨d1,d2,d3⟩:=hD hd'
  rw [hf]
  refine ⟨fun i hi=>?_,d2,fun hc i hi=>?_⟩
  ·rw [Ey hw hj]
   split
   ·rename_i e0;subst e0;exact (hq.2.2.2 (d1 i hi)).1
   ·exact d1 i hi
  ·rw [Ey hw hj]
   split
   ·rename_i e0;subst e0;rw [(hq.2.2.2 (d1 i hi)).2];exact d3 hc i hi
   ·exact d3 hc i hi
 |send j w' hj hp h1 h2 h3 hw hf ht hd=>
  rw [hd] at hd'
  have:=(hD hd').1 j hj
  rw [hp] at this
  cases this
 |take j w' hj h1 h2 h3 hw hf ht hd=>
  rw [hd] at hd'
  have:=(hD hd').2.1
  omega
 |start hT hg w' h1 h2 h3 h4 hw hf ht hd=>
  rw [hd,Hd] at hd'
  have:=hT.2.2.1
  rw [Lh] at this
  rw [show (0:Int).toNat=0 from rfl,hd'] at this
  cases this
 |pass hT hg j ha h0 hj w' h1 h2 h3 h4 hw hf ht hd=>
  rw [hd,Hd] at hd'
  have:=hT.2.2.1
  rw [Lh,show (0:Int).toNat=0 from rfl,hd'] at this
  cases this
 |fail hT hg ha hno hw hf ht hd=>
  rw [hd,Hd] at hd'
  have:=hT.2.2.1
  rw [Lh,show (0:Int).toNat=0 from rfl,hd'] at this
  cases this
 |told hT hg ha hb hb0 hs0 w' hq hw hf ht hd=>
  rw [hd,hf]
  have hp0:De (wk c 0) e=true:=by
   have:=hT.2.2.2
   rw [ha] at this
   exact this
  have key:=hS hg
  rw [ha,show (0:Int).toNat+1=0+1 from rfl,Gs hl,Lz,hb] at key
  have hP:Vis c e (A4 c e)∧(A4 c e).sum+(0+Dx (wk c 0) e)=Ep c e c.workers.length:=by
   rcases key with h|⟨i,g1,g2,g3⟩|h|h
   ·cases h
   ·obtain rfl:i=0:=by omega
    rw [hb0] at g3
    cases g3
   ·omega
   ·exact h
  obtain ⟨v1,v2⟩:=hP
  unfold Ln at hs
  have hpas:∀i,i<c.workers.length→De (wk c i) e=true:=fun i hi=>by
   by_cases h0:i=0
   ·subst h0;exact hp0
   ·exact (v1 i (by rw [ha];omega) hi).1
  refine ⟨fun i hi=>?_,by omega,fun hc i hi=>?_⟩
  ·rw [Ey hw hl]
   split
   ·rename_i e0;subst e0;exact (hq.2.2.2 (hpas 0 hl)).1
   ·exact hpas i hi
  ·simp only [Bool.or_eq_false_iff] at hc
   rw [Ey hw hl]
   split
   ·rename_i e0;subst e0;rw [(hq.2.2.2 (hpas 0 hl)).2];exact hc.2
   ·rename_i hne
    have:=(v1 i (by rw [ha];omega) hi).2
    cases hcap:Ck (wk c i) e with
    |false=>rfl
    |true=>rw [this hcap] at hc;cases hc.1
theorem Zh {c:A3}{p:Bl}(h:¬ Ap c):Ag c p=(c,false):=by
 unfold Ag
 repeat' split
 ·unfold Cr;rw [if_neg (fun q=>h q.1)]
 ·unfold Cg;rw [if_neg (fun q=>h q.1)]
 ·unfold C6;rw [if_neg (fun q=>h q.1.1)]
 ·unfold Cd;rw [if_neg (fun q=>h q.1.1)]
 ·unfold Br;rw [if_neg (fun q=>h q.1)]
 ·exact Tj (fun q=>h q.1)
 ·unfold D4;rw [if_neg (fun q=>h q.1)]
 ·rfl
theorem I6 {c d:A3}(h:d.links=c.links)(hg:J9 c):J9 d:=fun l hl=>hg l (h▸hl)
theorem O5 (c:A3)(e:Int):(Bo c e).1.links=c.links:=by
 unfold Bo
 dsimp only
 repeat' split
 all_goals first
  |rfl
  |(unfold Gn;split<;>rfl)
theorem B0g {c:A3}{p:Bl}(hg:J9 c):J9 (Ag c p).1:=by
 by_cases h:Ap c
 ·unfold Ag
  split
  ·unfold Cr;split<;>exact I6 rfl hg
  split
  ·unfold Cg;split<;>exact I6 rfl hg
  split
  ·unfold C6
   split
   ·rename_i hM
    split
    ·exact I6 rfl hg
    ·rename_i hne
     split
     ·refine I6 ?_ (A01 (Wn hM.1 hM.2 hne))
      rfl
     ·exact hg
   ·exact hg
  split
  ·unfold Cd
   split
   ·rename_i hT
    refine I6 ?_ (A01 (Xo hT.1))
    rfl
   ·exact hg
  split
  ·exact A01 (Qe h)
  split
  ·exact I6 (O5 c p.a) hg
  split
  ·unfold D4
   split
   ·split<;>exact I6 rfl hg
   ·exact hg
  ·exact hg
 ·rw [Zh h]
  exact hg
theorem B1e {c:A3}{l:List Bl}{k:Nat}(hk:k<l.length):Bh c (l.take (k+1))=Cl (Bh c (l.take k)) (l.getD k default):=by
 unfold Bh
 have:l.take (k+1)=l.take k++[l.getD k default]:=by
  rw [List.take_succ_eq_append_getElem hk]
  simp [List.getD,hk]
 rw [this,List.foldl_append]
 rfl
theorem B7g (l:List Bl):∀s:A3×List Bool,(l.foldl Cl s).1.w≤s.1.w+4 * l.length:=by
 induction l with
 |nil=>intro s;simp
 |cons p r ih=>
  intro s
  have h1:=ih (Cl s p)
  have h2:=A7n (c:=s.1) (p:=p)
  simp only [List.foldl_cons,List.length_cons]
  have e:(Cl s p).1=(Ag s.1 p).1:=rfl
  rw [e] at h1
  omega
theorem B47 {c:A3}{l:List Bl}:(Bh c l).1.w≤c.w+4 * l.length:=B7g l (c,[])
theorem B1c (l:List Bl):∀s:A3×List Bool,J9 s.1→J9 (l.foldl Cl s).1:=by
 induction l with
 |nil=>intro s h;exact h
 |cons p r ih=>intro s h;exact ih (Cl s p) (B0g h)
theorem A41 {c:A3}{l:List Bl}(h:J9 c):J9 (Bh c l).1:=B1c l (c,[]) h
theorem B1d (l:List Bl):∀s:A3×List Bool,(l.foldl Cl s).2.length=s.2.length+l.length:=by
 induction l with
 |nil=>intro s;simp
 |cons p r ih=>
  intro s
  have h1:=ih (Cl s p)
  simp only [List.foldl_cons,List.length_cons]
  rw [h1]
  simp only [Cl,List.length_append,List.length_cons,List.length_nil]
  omega
theorem A42 {c:A3}{l:List Bl}:(Bh c l).2.length=l.length:=by
 have:=B1d l (c,[])
 simpa [Bh] using this
theorem B4x (c:A3):Co c≤4:=by
 have:=Jq c.graph.workers 0 4 Bu
 unfold Co
 omega
theorem H0 (c:A3):(Gz (Co c)).length≤44:=by
 have h:=B4x c
 have e:Co c=0∨Co c=1∨Co c=2∨Co c=3∨Co c=4:=by omega
 rcases e with e|e|e|e|e<;>rw [e]<;>decide
theorem A89 {c:A3}:(Ba c).1.w≤c.w+176:=by
 have h1:=B47 (c:=c) (l:=Gz (Co c))
 have h2:=H0 c
 show (Bh c (Gz (Co c))).1.w≤_
 omega
theorem B09 {c:A3}(h:J9 c):J9 (Ba c).1:=A41 h
def frN (c:A3):Nat→A3
 | 0=>c
 |k+1=>(Ba (frN c k)).1
theorem B9g (c:A3)(k:Nat):(frN c k).w≤c.w+176 * k:=by
 induction k with
 |zero=>simp [frN]
 |succ k ih=>
  have:=A89 (c:=frN c k)
  simp only [frN]
  omega
theorem B6f {c:A3}(h:J9 c)(k:Nat):J9 (frN c k):=by
 induction k with
 |zero=>exact h
 |succ k ih=>exact B09 ih
theorem Z3 (c:A3)(k:Nat):frN (Ba c).1 k=frN c (k+1):=by
 induction k with
 |zero=>rfl
 |succ k ih=>simp only [frN] at ih ⊢;rw [ih]
theorem Vq (k:Nat):∀(n:Nat) (c:A3),k≤n→(∀i,i<k→(Ba (frN c i)).2≠0)→Di n c=((Di (n-k) (frN c k)).1,(Di (n-k) (frN c k)).2+k):=by
 induction k with
 |zero=>intro n c _ _;simp [frN]
 |succ k ih=>
  intro n c hk h
  obtain ⟨m,rfl⟩:∃m,n=m+1:=⟨n-1,by omega⟩
  have h0:(Ba c).2≠0:=h 0 Ac
  have h1:=ih m (Ba c).1 Ac (fun i hi=>by rw [Z3];exact h (i+1) Ac)
  rw [Z3] at h1
  rw [Di,if_neg h0,h1,show m+1-(k+1)=m-k by omega]
  rfl
theorem N7 {n k:Nat}{c:A3}(hk:k<n)(h:∀i,i<k→(Ba (frN c i)).2≠0)(h0:(Ba (frN c k)).2=0):Di n c=(frN c (k+1),k+1):=by
 rw [Vq k n c Ac h]
 obtain ⟨m,hm⟩:∃m,n-k=m+1:=⟨n-k-1,by omega⟩
 rw [hm,Di,if_pos h0]
 simp only [frN]
 congr 1
 omega
theorem Rq {n:Nat}{c:A3}(h:∀i,i<n→(Ba (frN c i)).2≠0):Di n c=(frN c n,n):=by
 rw [Vq n n c (Nat.le_refl _) h,Nat.sub_self]
 simp [Di]
end Go.Proofs.YtonodkjaoalfjaaGreat
