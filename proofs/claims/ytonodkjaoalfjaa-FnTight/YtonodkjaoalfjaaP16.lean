/- Part 16 of the proof that each of the laws FnTight returns true for every input. No conditions. -/
import Derived.Test.YtonodkjaoalfjaaP15
import Derived.Test.YtonodkjaoalfjaaP14

set_option linter.unusedSimpArgs false
set_option linter.unusedVariables false
set_option maxRecDepth 100000
namespace Go.Proofs.Ytonodkjaoalfjaa
open Go.Sx
def A74 (c:A3) (e:Int) (k:Nat):Int:=((c.workers.take k).map fun w=>A4j w e).sum
theorem A8i {c:A3}{e:Int}{k:Nat}(h:k<c.workers.length):A74 c e (k+1)=A74 c e k+A4j (wk c k) e:=by
 unfold A74
 rw [List.take_add_one,List.map_append,List.sum_append]
 simp [wk,List.getD,h]
theorem A9h {c:A3}{e:Int}:A74 c e 0=0:=by simp [A74]
theorem A8g {c c':A3}{e:Int}{j:Nat}{w:Ad}(h:c'.workers=c.workers.set j w)(hj:j<c.workers.length):∀k,k≤c.workers.length→A74 c' e k=A74 c e k+if j<k then A4j w e-A4j (wk c j) e else 0:=by
 intro k
 induction k with
 |zero=>intro _;simp [A9h]
 |succ k ih=>
  intro hk
  have hlen:c'.workers.length=c.workers.length:=by rw [h,List.length_set]
  rw [A8i Ag,A8i Ag,ih Ag,A62 h hj]
  by_cases h1:k=j
  ·subst h1
   rw [if_pos rfl,if_neg (Nat.lt_irrefl _),if_pos (Nat.lt_succ_self _)]
   omega
  ·rw [if_neg h1]
   by_cases h2:j<k
   ·rw [if_pos h2,if_pos Ag];omega
   ·rw [if_neg h2,if_neg Ag];omega
theorem A64 {c c':A3}{e:Int}{j:Nat}{w:Ad}(h:c'.workers=c.workers.set j w)(hj:j<c.workers.length)(hs:A4j w e=A4j (wk c j) e){k:Nat}(hk:k≤c.workers.length):A74 c' e k=A74 c e k:=by
 rw [A8g h hj k hk,hs]
 split<;>omega
theorem B35 {c c':A3}{e:Int}(h:c'.workers=c.workers)(k:Nat):A74 c' e k=A74 c e k:=by unfold A74;rw [h]
def A81 (c:A3) (e:Int):Prop:=A74 c e c.workers.length=A6l c e
theorem A7t.len {e:Int}{c c':A3}(h:A7t e c c'):c'.workers.length=c.workers.length:=by
 cases h<;>(rename_i hw _ _ _;first|(rw [hw,List.length_set];done)|(rw [hw];done))
theorem A81.step {e:Int}{c c':A3}(h:A7t e c c')(hl:0<c.workers.length)(hs:A81 c e):A81 c' e:=by
 have hlen:=h.len
 unfold A81 at *
 rw [hlen]
 cases h with
 |quiet j w' hj hq hw hf ht hd=>rw [A64 hw hj hq.1 (Nat.le_refl _),hf];exact hs
 |send j w' hj hp h1 h2 h3 hw hf ht hd=>rw [A8g hw hj _ (Nat.le_refl _),if_pos hj,hf,h1];omega
 |take j w' hj h1 h2 h3 hw hf ht hd=>rw [A8g hw hj _ (Nat.le_refl _),if_pos hj,h1];omega
 |start hT hg w' h1 h2 h3 h4 hw hf ht hd=>rw [A64 hw hl h1 (Nat.le_refl _),hf];exact hs
 |pass hT hg j ha h0 hj w' h1 h2 h3 h4 hw hf ht hd=>rw [A64 hw hj h1 (Nat.le_refl _),hf];exact hs
 |fail hT hg ha hno hw hf ht hd=>rw [B35 hw,hf];exact hs
 |told hT hg ha hb hb0 hs0 w' hq hw hf ht hd=>rw [A64 hw hl hq.1 (Nat.le_refl _),hf];exact hs
def Vis (c:A3) (e:Int) (t:Dw):Prop:=∀i:Nat,t.at_<(i:Int)→i<c.workers.length→Hu (wk c i) e=true∧(A70 (wk c i) e=true→t.capped=true)
def A96 (c:A3) (e:Int):Prop:=(Ab c e).going=true→
 (Ab c e).black=true∨(∃i:Nat,(i:Int)≤(Ab c e).at_∧i<c.workers.length∧A51 (wk c i) e=true)∨0<(Ab c e).sum+A74 c e ((Ab c e).at_.toNat+1)∨
  (Vis c e (Ab c e)∧(Ab c e).sum+A74 c e ((Ab c e).at_.toNat+1)=A74 c e c.workers.length)
theorem A96.step {e:Int}{c c':A3}(h:A7t e c c')(hl:0<c.workers.length)(hat:0≤(Ab c e).at_∧(Ab c e).at_<c.workers.length)(hs:A81 c e)(hS:A96 c e):A96 c' e:=by
 have hlen:=h.len
 intro hg'
 cases h with
 |quiet j w' hj hq hw hf ht hd=>
  rw [ht] at hg' ⊢
  rw [A64 hw hj hq.1 Ag,hlen,A64 hw hj hq.1 (Nat.le_refl _)]
  rcases hS hg' with h|⟨i,h1,h2,h3⟩|h|⟨h1,h2⟩
  ·exact .inl h
  ·refine .inr (.inl ⟨i,h1,h2,?_⟩)
   rw [A62 hw hj]
   split
   ·rename_i e0;subst e0;rw [hq.2.1];exact h3
   ·exact h3
  ·exact .inr (.inr (.inl h))
  ·refine .inr (.inr (.inr ⟨fun i hi hil=>?_,h2⟩))
   obtain ⟨p1,p2⟩:=h1 i hi Ag
   rw [A62 hw hj]
   split
   ·rename_i e0
    subst e0
    obtain ⟨q1,q2⟩:=hq.2.2.2 p1
    exact ⟨q1,by rw [q2];exact p2⟩
   ·exact ⟨p1,p2⟩
 |send j w' hj hp h1 h2 h3 hw hf ht hd=>
  rw [ht] at hg' ⊢
  rw [A8g hw hj _ Ag,hlen,A8g hw hj _ (Nat.le_refl _),if_pos hj,h1]
  rcases hS hg' with h|⟨i,g1,g2,g3⟩|h|⟨g1,g2⟩
  ·exact .inl h
  ·refine .inr (.inl ⟨i,g1,g2,?_⟩)
   rw [A62 hw hj]
   split
   ·rename_i e0;subst e0;rw [h2];exact g3
   ·exact g3
  ·refine .inr (.inr (.inl ?_))
   split<;>omega
  ·by_cases hja:(Ab c e).at_<(j:Int)
   ·have:=(g1 j hja hj).1
    rw [hp] at this
    cases this
   ·refine .inr (.inr (.inr ⟨fun i hi hil=>?_,?_⟩))
    ·have hne:i≠j:=fun e0=>hja Ag
     rw [A62 hw hj,if_neg hne]
     exact g1 i hi Ag
    ·rw [if_pos Ag];omega
 |take j w' hj h1 h2 h3 hw hf ht hd=>
  rw [ht] at hg' ⊢
  rw [A8g hw hj _ Ag,hlen,A8g hw hj _ (Nat.le_refl _),if_pos hj,h1]
  by_cases hja:(Ab c e).at_<(j:Int)
  ·rw [if_neg Ag]
   rcases hS hg' with h|⟨i,g1,g2,g3⟩|h|⟨g1,g2⟩
   ·exact .inl h
   ·refine .inr (.inl ⟨i,g1,g2,?_⟩)
    rw [A62 hw hj,if_neg Ag]
    exact g3
   ·exact .inr (.inr (.inl Ag))
   ·refine .inr (.inr (.inl ?_))
    unfold A81 at hs
    omega
  ·refine .inr (.inl ⟨j,by omega,hj,?_⟩)
   rw [A62 hw hj,if_pos rfl]
   exact h2
 |start hT hg w' h1 h2 h3 h4 hw hf ht hd=>
  rw [ht]
  refine .inr (.inr (.inr ⟨fun i hi hil=>?_,?_⟩))
  ·simp only at hi
   omega
  ·simp only
   rw [hlen,show ((c.workers.length:Int)-1).toNat+1=c.workers.length by omega]
   omega
 |pass hT hg j ha h0 hj w' h1 h2 h3 h4 hw hf ht hd=>
  rw [ht]
  simp only
  have ej:((j:Int)-1).toNat+1=j:=by omega
  have ea:(Ab c e).at_.toNat+1=j+1:=by omega
  have hsS:=hS hg
  rw [ea,A8i hj,ha] at hsS
  rw [hlen,ej,A64 hw hj h1 Ag,A64 hw hj h1 (Nat.le_refl _)]
  rcases hsS with h|⟨i,g1,g2,g3⟩|h|⟨g1,g2⟩
  ·exact .inl (by rw [h];rfl)
  ·by_cases hij:i=j
   ·subst hij
    exact .inl (by rw [g3];simp)
   ·refine .inr (.inl ⟨i,by omega,g2,?_⟩)
    rw [A62 hw hj,if_neg hij]
    exact g3
  ·exact .inr (.inr (.inl Ag))
  ·refine .inr (.inr (.inr ⟨fun i hi hil=>?_,by omega⟩))
   simp only at hi
   rw [A62 hw hj]
   split
   ·rename_i e0
    refine ⟨h4,fun hc=>?_⟩
    rw [h3] at hc
    simp [hc]
   ·rename_i hne
    obtain ⟨p1,p2⟩:=g1 i (by rw [ha];omega) Ag
    exact ⟨p1,fun hc=>by simp [p2 hc]⟩
 |fail hT hg ha hno hw hf ht hd=>rw [ht] at hg';cases hg'
 |told hT hg ha hb hb0 hs0 w' hq hw hf ht hd=>rw [ht] at hg';cases hg'
def B2h (c:A3) (e:Int):Prop:=(A6i (wk c 0) e).2=true→(∀i,i<c.workers.length→Hu (wk c i) e=true)∧A6l c e=0∧((A6i (wk c 0) e).1.capped=false→∀i,i<c.workers.length→A70 (wk c i) e=false)
theorem A8f {w:Ad}{e:Int}:(A6i w e).2=En w e:=by
 unfold A6i
 split
 ·rename_i h;rw [h]
 ·rename_i h;simpa using h
theorem B2h.step {e:Int}{c c':A3}(h:A7t e c c')(hl:0<c.workers.length)(hs:A81 c e)(hS:A96 c e)(hD:B2h c e):B2h c' e:=by
 have hlen:=h.len
 intro hd'
 rw [hlen]
 cases h with
 |quiet j w' hj hq hw hf ht hd=>
  rw [hd] at hd' ⊢
  obtain ⟨d1,d2,d3⟩:=hD hd'
  rw [hf]
  refine ⟨fun i hi=>?_,d2,fun hc i hi=>?_⟩
  ·rw [A62 hw hj]
   split
   ·rename_i e0;subst e0;exact (hq.2.2.2 (d1 i hi)).1
   ·exact d1 i hi
  ·rw [A62 hw hj]
   split
   ·rename_i e0;subst e0;rw [(hq.2.2.2 (d1 i hi)).2];exact d3 hc i hi
   ·exact d3 hc i hi
 |send j w' hj hp h1 h2 h3 hw hf ht hd=>
  rw [hd] at hd'
  have:=(hD hd').1 j hj
  rw [hp] at this
  cases this
 |take j w' hj h1 h2 h3 hw hf ht hd=>
  rw [hd] at hd'
  have:=(hD hd').2.1
  omega
 |start hT hg w' h1 h2 h3 h4 hw hf ht hd=>
  rw [hd,A8f] at hd'
  have:=hT.2.2.1
  rw [A8s] at this
  rw [show (0:Int).toNat=0 from rfl,hd'] at this
  cases this
 |pass hT hg j ha h0 hj w' h1 h2 h3 h4 hw hf ht hd=>
  rw [hd,A8f] at hd'
  have:=hT.2.2.1
  rw [A8s,show (0:Int).toNat=0 from rfl,hd'] at this
  cases this
 |fail hT hg ha hno hw hf ht hd=>
  rw [hd,A8f] at hd'
  have:=hT.2.2.1
  rw [A8s,show (0:Int).toNat=0 from rfl,hd'] at this
  cases this
 |told hT hg ha hb hb0 hs0 w' hq hw hf ht hd=>
  rw [hd,hf]
  have hp0:Hu (wk c 0) e=true:=by
   have:=hT.2.2.2
   rw [ha] at this
   exact this
  have key:=hS hg
  rw [ha,show (0:Int).toNat+1=0+1 from rfl,A8i hl,A9h,hb] at key
  have hP:Vis c e (Ab c e)∧(Ab c e).sum+(0+A4j (wk c 0) e)=A74 c e c.workers.length:=by
   rcases key with h|⟨i,g1,g2,g3⟩|h|h
   ·cases h
   ·obtain rfl:i=0:=by omega
    rw [hb0] at g3
    cases g3
   ·omega
   ·exact h
  obtain ⟨v1,v2⟩:=hP
  unfold A81 at hs
  have hpas:∀i,i<c.workers.length→Hu (wk c i) e=true:=fun i hi=>by
   by_cases h0:i=0
   ·subst h0;exact hp0
   ·exact (v1 i (by rw [ha];omega) hi).1
  refine ⟨fun i hi=>?_,by omega,fun hc i hi=>?_⟩
  ·rw [A62 hw hl]
   split
   ·rename_i e0;subst e0;exact (hq.2.2.2 (hpas 0 hl)).1
   ·exact hpas i hi
  ·simp only [Bool.or_eq_false_iff] at hc
   rw [A62 hw hl]
   split
   ·rename_i e0;subst e0;rw [(hq.2.2.2 (hpas 0 hl)).2];exact hc.2
   ·rename_i hne
    have:=(v1 i (by rw [ha];omega) hi).2
    cases hcap:A70 (wk c i) e with
    |false=>rfl
    |true=>rw [this hcap] at hc;cases hc.1
theorem Sz {c:A3}{p:Bl}(h:¬ Ar c):Ao c p=(c,false):=by
 unfold Ao
 repeat' split
 ·unfold Df;rw [if_neg (fun q=>h q.1)]
 ·unfold Ct;rw [if_neg (fun q=>h q.1)]
 ·unfold Br;rw [if_neg (fun q=>h q.1.1)]
 ·unfold Ck;rw [if_neg (fun q=>h q.1.1)]
 ·unfold Cq;rw [if_neg (fun q=>h q.1)]
 ·exact Rl (fun q=>h q.1)
 ·unfold D9;rw [if_neg (fun q=>h q.1)]
 ·rfl
theorem B0n (c:A3)(e:Int):(C2 c e).1.links=c.links:=by
 unfold C2
 dsimp only
 repeat' split
 all_goals first
  |rfl
  |(unfold H2;split<;>rfl)
theorem A0y {c:A3}{l:List Bl}{k:Nat}(hk:k<l.length):Ce c (l.take (k+1))=F2 (Ce c (l.take k)) (l.getD k default):=by
 unfold Ce
 have:l.take (k+1)=l.take k++[l.getD k default]:=by
  rw [List.take_succ_eq_append_getElem hk]
  simp [List.getD,hk]
 rw [this,List.foldl_append]
 rfl
theorem A5o (l:List Bl):∀s:A3×List Bool,(l.foldl F2 s).1.w≤s.1.w+4 * l.length:=by
 induction l with
 |nil=>intro s;simp
 |cons p r ih=>
  intro s
  have h1:=ih (F2 s p)
  have h2:=Xl (c:=s.1) (p:=p)
  simp only [List.foldl_cons,List.length_cons]
  have e:(F2 s p).1=(Ao s.1 p).1:=rfl
  rw [e] at h1
  omega
theorem A3m {c:A3}{l:List Bl}:(Ce c l).1.w≤c.w+4 * l.length:=A5o l (c,[])
theorem A0x (l:List Bl):∀s:A3×List Bool,(l.foldl F2 s).2.length=s.2.length+l.length:=by
 induction l with
 |nil=>intro s;simp
 |cons p r ih=>
  intro s
  have h1:=ih (F2 s p)
  simp only [List.foldl_cons,List.length_cons]
  rw [h1]
  simp only [F2,List.length_append,List.length_cons,List.length_nil]
  omega
theorem A3l {c:A3}{l:List Bl}:(Ce c l).2.length=l.length:=by
 have:=A0x l (c,[])
 simpa [Ce] using this
theorem A3e (c:A3):Ou c≤4:=by
 have:=G1 c.graph.workers 0 4 Cb
 unfold Ou
 omega
theorem Pv (c:A3):(Ru (Ou c)).length≤44:=by
 have h:=A3e c
 have e:Ou c=0∨Ou c=1∨Ou c=2∨Ou c=3∨Ou c=4:=by omega
 rcases e with e|e|e|e|e<;>rw [e]<;>decide
theorem B3q {c:A3}:(A4a c).1.w≤c.w+176:=by
 have h1:=A3m (c:=c) (l:=Ru (Ou c))
 have h2:=Pv c
 show (Ce c (Ru (Ou c))).1.w≤_
 omega
def frN (c:A3):Nat→A3
 | 0=>c
 |k+1=>(A4a (frN c k)).1
theorem B5w (c:A3)(k:Nat):(frN c k).w≤c.w+176 * k:=by
 induction k with
 |zero=>simp [frN]
 |succ k ih=>
  have:=B3q (c:=frN c k)
  simp only [frN]
  omega
theorem B1k (c:A3)(k:Nat):frN (A4a c).1 k=frN c (k+1):=by
 induction k with
 |zero=>rfl
 |succ k ih=>simp only [frN] at ih ⊢;rw [ih]
theorem B0z (k:Nat):∀(n:Nat) (c:A3),k≤n→(∀i,i<k→(A4a (frN c i)).2≠0)→A46 n c=((A46 (n-k) (frN c k)).1,(A46 (n-k) (frN c k)).2+k):=by
 induction k with
 |zero=>intro n c _ _;simp [frN]
 |succ k ih=>
  intro n c hk h
  obtain ⟨m,rfl⟩:∃m,n=m+1:=⟨n-1,by omega⟩
  have h0:(A4a c).2≠0:=h 0 Ag
  have h1:=ih m (A4a c).1 Ag (fun i hi=>by rw [B1k];exact h (i+1) Ag)
  rw [B1k] at h1
  rw [A46,if_neg h0,h1,show m+1-(k+1)=m-k by omega]
  rfl
theorem A90 {n k:Nat}{c:A3}(hk:k<n)(h:∀i,i<k→(A4a (frN c i)).2≠0)(h0:(A4a (frN c k)).2=0):A46 n c=(frN c (k+1),k+1):=by
 rw [B0z k n c Ag h]
 obtain ⟨m,hm⟩:∃m,n-k=m+1:=⟨n-k-1,by omega⟩
 rw [hm,A46,if_pos h0]
 simp only [frN]
 congr 1
 omega
theorem B10 {n:Nat}{c:A3}(h:∀i,i<n→(A4a (frN c i)).2≠0):A46 n c=(frN c n,n):=by
 rw [B0z n n c (Nat.le_refl _) h,Nat.sub_self]
 simp [A46]
end Go.Proofs.Ytonodkjaoalfjaa
