/- Part 38 of the proof that each of the laws FnColours returns true for every input. No conditions. -/
import Derived.Test.YtdendlkeiaccpaaGreatDoorP37

set_option linter.unusedSimpArgs false
set_option linter.unusedVariables false
set_option maxRecDepth 100000
namespace Go.Proofs.YtdendlkeiaccpaaGreatDoor
open Go.Sx
def G6 (c:A3) (e:Int) (k:Nat):Int:=((c.workers.take k).map fun w=>E9 w e).sum
theorem J0 {c:A3}{e:Int}{k:Nat}(h:k<c.workers.length):G6 c e (k+1)=G6 c e k+E9 (wk c k) e:=by
 unfold G6
 rw [List.take_add_one,List.map_append,List.sum_append]
 simp [wk,List.getD,h]
theorem Pf {c:A3}{e:Int}:G6 c e 0=0:=by simp [G6]
theorem Ir {c c':A3}{e:Int}{j:Nat}{w:Aa}(h:c'.workers=c.workers.set j w)(hj:j<c.workers.length):∀k,k≤c.workers.length→G6 c' e k=G6 c e k+if j<k then E9 w e-E9 (wk c j) e else 0:=by
 intro k
 induction k with
 |zero=>intro _;simp [Pf]
 |succ k ih=>
  intro hk
  have hlen:c'.workers.length=c.workers.length:=by rw [h,List.length_set]
  rw [J0 Ac,J0 Ac,ih Ac,En h hj]
  by_cases h1:k=j
  ·subst h1
   rw [if_pos rfl,if_neg (Nat.lt_irrefl _),if_pos (Nat.lt_succ_self _)]
   omega
  rw [if_neg h1]
  by_cases h2:j<k
  ·rw [if_pos h2,if_pos Ac];omega
  rw [if_neg h2,if_neg Ac];omega
theorem F1 {c c':A3}{e:Int}{j:Nat}{w:Aa}(h:c'.workers=c.workers.set j w)(hj:j<c.workers.length)(hs:E9 w e=E9 (wk c j) e){k:Nat}(hk:k≤c.workers.length):G6 c' e k=G6 c e k:=by
 rw [Ir h hj k hk,hs]
 split<;>omega
theorem B0x {c c':A3}{e:Int}(h:c'.workers=c.workers)(k:Nat):G6 c' e k=G6 c e k:=by unfold G6;rw [h]
def Mk (c:A3) (e:Int):Prop:=G6 c e c.workers.length=Eh c e
theorem Fk.len {e:Int}{c c':A3}(h:Fk e c c'):c'.workers.length=c.workers.length:=by
 cases h<;>(rename_i hw _ _ _;first|(rw [hw,List.length_set];done)|(rw [hw];done))
theorem Mk.step {e:Int}{c c':A3}(h:Fk e c c')(hl:0<c.workers.length)(hs:Mk c e):Mk c' e:=by
 have hlen:=h.len
 unfold Mk at *
 rw [hlen]
 cases h with
 |quiet j w' hj hq hw hf ht hd=>rw [F1 hw hj hq.1 (Nat.le_refl _),hf];exact hs
 |send j w' hj hp h1 h2 h3 hw hf ht hd=>rw [Ir hw hj _ (Nat.le_refl _),if_pos hj,hf,h1];omega
 |take j w' hj h1 h2 h3 hw hf ht hd=>rw [Ir hw hj _ (Nat.le_refl _),if_pos hj,h1];omega
 |start hT hg w' h1 h2 h3 h4 hw hf ht hd=>rw [F1 hw hl h1 (Nat.le_refl _),hf];exact hs
 |pass hT hg j ha h0 hj w' h1 h2 h3 h4 hw hf ht hd=>rw [F1 hw hj h1 (Nat.le_refl _),hf];exact hs
 |fail hT hg ha hno hw hf ht hd=>rw [B0x hw,hf];exact hs
 |told hT hg ha hb hb0 hs0 w' hq hw hf ht hd=>rw [F1 hw hl hq.1 (Nat.le_refl _),hf];exact hs
def Vis (c:A3) (e:Int) (t:Cu):Prop:=∀i:Nat,t.at_<(i:Int)→i<c.workers.length→Ch (wk c i) e=true∧(G4 (wk c i) e=true→t.capped=true)
def Ss (c:A3) (e:Int):Prop:=(A9 c e).going=true→
 (A9 c e).black=true∨(∃i:Nat,(i:Int)≤(A9 c e).at_∧i<c.workers.length∧Ee (wk c i) e=true)∨0<(A9 c e).sum+G6 c e ((A9 c e).at_.toNat+1)∨
  (Vis c e (A9 c e)∧(A9 c e).sum+G6 c e ((A9 c e).at_.toNat+1)=G6 c e c.workers.length)
theorem Ss.step {e:Int}{c c':A3}(h:Fk e c c')(hl:0<c.workers.length)(hat:0≤(A9 c e).at_∧(A9 c e).at_<c.workers.length)(hs:Mk c e)(hS:Ss c e):Ss c' e:=by
 have hlen:=h.len
 intro hg'
 cases h with
 |quiet j w' hj hq hw hf ht hd=>
  rw [ht] at hg' ⊢
  rw [F1 hw hj hq.1 Ac,hlen,F1 hw hj hq.1 (Nat.le_refl _)]
  rcases hS hg' with h|⟨i,h1,h2,h3⟩|h|⟨h1,h2⟩
  ·exact .inl h
  ·refine .inr (.inl ⟨i,h1,h2,?_⟩)
   rw [En hw hj]
   split
   ·rename_i e0;subst e0;rw [hq.2.1];exact h3
   exact h3
  ·exact .inr (.inr (.inl h))
  refine .inr (.inr (.inr ⟨fun i hi hil=>?_,h2⟩))
  obtain ⟨p1,p2⟩:=h1 i hi Ac
  rw [En hw hj]
  split
  ·rename_i e0
   subst e0
   obtain ⟨q1,q2⟩:=hq.2.2.2 p1
   exact ⟨q1,by rw [q2];exact p2⟩
  exact ⟨p1,p2⟩
 |send j w' hj hp h1 h2 h3 hw hf ht hd=>
  rw [ht] at hg' ⊢
  rw [Ir hw hj _ Ac,hlen,Ir hw hj _ (Nat.le_refl _),if_pos hj,h1]
  rcases hS hg' with h|⟨i,g1,g2,g3⟩|h|⟨g1,g2⟩
  ·exact .inl h
  ·refine .inr (.inl ⟨i,g1,g2,?_⟩)
   rw [En hw hj]
   split
   ·rename_i e0;subst e0;rw [h2];exact g3
   exact g3
  ·refine .inr (.inr (.inl ?_))
   split<;>omega
  by_cases hja:(A9 c e).at_<(j:Int)
  ·have:=(g1 j hja hj).1
   rw [hp] at this
   cases this
  refine .inr (.inr (.inr ⟨fun i hi hil=>?_,?_⟩))
  ·have hne:i≠j:=fun e0=>hja Ac
   rw [En hw hj,if_neg hne]
   exact g1 i hi Ac
  rw [if_pos Ac];omega
 |take j w' hj h1 h2 h3 hw hf ht hd=>
  rw [ht] at hg' ⊢
  rw [Ir hw hj _ Ac,hlen,Ir hw hj _ (Nat.le_refl _),if_pos hj,h1]
  by_cases hja:(A9 c e).at_<(j:Int)
  ·rw [if_neg Ac]
   rcases hS hg' with h|⟨i,g1,g2,g3⟩|h|⟨g1,g2⟩
   ·exact .inl h
   ·refine .inr (.inl ⟨i,g1,g2,?_⟩)
    rw [En hw hj,if_neg Ac]
    exact g3
   ·exact .inr (.inr (.inl Ac))
   refine .inr (.inr (.inl ?_))
   unfold Mk at hs
   omega
  refine .inr (.inl ⟨j,by omega,hj,?_⟩)
  rw [En hw hj,if_pos rfl]
  exact h2
 |start hT hg w' h1 h2 h3 h4 hw hf ht hd=>
  rw [ht]
  refine .inr (.inr (.inr ⟨fun i hi hil=>?_,?_⟩))
  ·simp only at hi
   omega
  simp only
  rw [hlen,show ((c.workers.length:Int)-1).toNat+1=c.workers.length by omega]
  omega
 |pass hT hg j ha h0 hj w' h1 h2 h3 h4 hw hf ht hd=>
  rw [ht]
  simp only
  have ej:((j:Int)-1).toNat+1=j:=by omega
  have ea:(A9 c e).at_.toNat+1=j+1:=by omega
  have hsS:=hS hg
  rw [ea,J0 hj,ha] at hsS
  rw [hlen,ej,F1 hw hj h1 Ac,F1 hw hj h1 (Nat.le_refl _)]
  rcases hsS with h|⟨i,g1,g2,g3⟩|h|⟨g1,g2⟩
  ·exact .inl (by rw [h];rfl)
  ·by_cases hij:i=j
   ·subst hij
    exact .inl (by rw [g3];simp)
   refine .inr (.inl ⟨i,by omega,g2,?_⟩)
   rw [En hw hj,if_neg hij]
   exact g3
  ·exact .inr (.inr (.inl Ac))
  refine .inr (.inr (.inr ⟨fun i hi hil=>?_,by omega⟩))
  simp only at hi
  rw [En hw hj]
  split
  ·rename_i e0
   refine ⟨h4,fun hc=>?_⟩
   rw [h3] at hc
   simp [hc]
  rename_i hne
  obtain ⟨p1,p2⟩:=g1 i (by rw [ha];omega) Ac
  exact ⟨p1,fun hc=>by simp [p2 hc]⟩
 |fail hT hg ha hno hw hf ht hd=>rw [ht] at hg';cases hg'
 |told hT hg ha hb hb0 hs0 w' hq hw hf ht hd=>rw [ht] at hg';cases hg'
def A2g (c:A3) (e:Int):Prop:=(Eg (wk c 0) e).2=true→(∀i,i<c.workers.length→Ch (wk c i) e=true)∧Eh c e=0∧((Eg (wk c 0) e).1.capped=false→∀i,i<c.workers.length→G4 (wk c i) e=false)
theorem Io {w:Aa}{e:Int}:(Eg w e).2=Bf w e:=by
 unfold Eg
 split
 ·rename_i h;rw [h]
 rename_i h;simpa using h
theorem A2g.step {e:Int}{c c':A3}(h:Fk e c c')(hl:0<c.workers.length)(hs:Mk c e)(hS:Ss c e)(hD:A2g c e):A2g c' e:=by
 have hlen:=h.len
 intro hd'
 rw [hlen]
 cases h with
 |quiet j w' hj hq hw hf ht hd=>
  rw [hd] at hd' ⊢
  obtain ⟨d1,d2,d3⟩:=hD hd'
  rw [hf]
  refine ⟨fun i hi=>?_,d2,fun hc i hi=>?_⟩
  ·rw [En hw hj]
   split
   ·rename_i e0;subst e0;exact (hq.2.2.2 (d1 i hi)).1
   exact d1 i hi
  rw [En hw hj]
  split
  ·rename_i e0;subst e0;rw [(hq.2.2.2 (d1 i hi)).2];exact d3 hc i hi
  exact d3 hc i hi
 |send j w' hj hp h1 h2 h3 hw hf ht hd=>
  rw [hd] at hd'
  have:=(hD hd').1 j hj
  rw [hp] at this
  cases this
 |take j w' hj h1 h2 h3 hw hf ht hd=>
  rw [hd] at hd'
  have:=(hD hd').2.1
  omega
 |start hT hg w' h1 h2 h3 h4 hw hf ht hd=>
  rw [hd,Io] at hd'
  have:=hT.2.2.1
  rw [Li] at this
  rw [show (0:Int).toNat=0 from rfl,hd'] at this
  cases this
 |pass hT hg j ha h0 hj w' h1 h2 h3 h4 hw hf ht hd=>
  rw [hd,Io] at hd'
  have:=hT.2.2.1
  rw [Li,show (0:Int).toNat=0 from rfl,hd'] at this
  cases this
 |fail hT hg ha hno hw hf ht hd=>
  rw [hd,Io] at hd'
  have:=hT.2.2.1
  rw [Li,show (0:Int).toNat=0 from rfl,hd'] at this
  cases this
 |told hT hg ha hb hb0 hs0 w' hq hw hf ht hd=>
  rw [hd,hf]
  have hp0:Ch (wk c 0) e=true:=by
   have:=hT.2.2.2
   rw [ha] at this
   exact this
  have key:=hS hg
  rw [ha,show (0:Int).toNat+1=0+1 from rfl,J0 hl,Pf,hb] at key
  have hP:Vis c e (A9 c e)∧(A9 c e).sum+(0+E9 (wk c 0) e)=G6 c e c.workers.length:=by
   rcases key with h|⟨i,g1,g2,g3⟩|h|h
   ·cases h
   ·obtain rfl:i=0:=by omega
    rw [hb0] at g3
    cases g3
   ·omega
   exact h
  obtain ⟨v1,v2⟩:=hP
  unfold Mk at hs
  have hpas:∀i,i<c.workers.length→Ch (wk c i) e=true:=fun i hi=>by
   by_cases h0:i=0
   ·subst h0;exact hp0
   exact (v1 i (by rw [ha];omega) hi).1
  refine ⟨fun i hi=>?_,by omega,fun hc i hi=>?_⟩
  ·rw [En hw hl]
   split
   ·rename_i e0;subst e0;exact (hq.2.2.2 (hpas 0 hl)).1
   exact hpas i hi
  simp only [Bool.or_eq_false_iff] at hc
  rw [En hw hl]
  split
  ·rename_i e0;subst e0;rw [(hq.2.2.2 (hpas 0 hl)).2];exact hc.2
  rename_i hne
  have:=(v1 i (by rw [ha];omega) hi).2
  cases hcap:G4 (wk c i) e with
  |false=>rfl
  |true=>rw [this hcap] at hc;cases hc.1
end Go.Proofs.YtdendlkeiaccpaaGreatDoor
