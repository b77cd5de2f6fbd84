/- Part 14 of the proof that each of the laws FnTight returns true for every input. No conditions. -/
import Derived.Test.YtonodkjaoalfjaaP13

set_option linter.unusedSimpArgs false
set_option linter.unusedVariables false
set_option maxRecDepth 100000
namespace Go.Proofs.Ytonodkjaoalfjaa
open Go.Sx
theorem Uh {α:Type} [Inhabited α] (f:α→Nat):∀(l:List α) (j:Nat) (x:α),j<l.length→((l.set j x).map f).sum+f (l.getD j default)=(l.map f).sum+f x
 | [],_,_,h=>absurd h (Nat.not_lt_zero _)
 |y::r,0,x,_=>by simp;omega
 |y::r,j+1,x,h=>by
  have:=Uh f r j x (by simpa using h)
  simp only [List.set_cons_succ,List.map_cons,List.sum_cons,List.getD_cons_succ]
  omega
theorem Gq {c:A3}{j:Int}{w:Ad}(h:0≤j∧j<c.workers.length):(Av c j w).w+(A9 c j).w=c.w+w.w:=by
 have:=Uh Ad.w c.workers j.toNat w Ag
 simp only [Av,A3.w,wS,List.length_set,A9]
 omega
theorem R8 {c:A3}{k:Int}{l:C0}(h:0≤k∧k<c.links.length):(Bo c k l).w+(Bc c k).w=c.w+l.w:=by
 have:=Uh C0.w c.links k.toNat l Ag
 simp only [Bo,A3.w,wS,List.length_set,Bc]
 omega
theorem N9 {c:A3}{e:Int}{t:Dw}:(Cs c e t).w=c.w:=by simp only [Cs,A3.w,List.length_set]
theorem A4b {g:An}{w:Ad}:(H4 g w).1.w≤w.w+2:=by
 unfold H4
 split
 ·rename_i h
  have h1:=Xj (g:=g) (cs:=w.cells) (r:=w.queue.getD 0 default)
  have h2:=W1 (g:=g) (cs:=w.cells) (r:=w.queue.getD 0 default)
  have h3:=h.2.2.2
  have h4:(if capped g (w.queue.getD 0 default)=true then w.caps.set (w.queue.getD 0 default).stamp.epoch.toNat true else w.caps).length=w.caps.length:=by split<;>simp
  simp only [J3,Ad.w,List.length_drop,h4]
  omega
 ·simp
theorem W5 {g:An}{w:Ad}:(Et g w).1.w≤w.w:=by
 unfold Et
 split
 ·rename_i h
  have:=h.2.2.2.2
  simp only [Hy,Ad.w,List.length_append,List.length_singleton,List.length_drop]
  omega
 ·simp
theorem X9 {w:Ad}{e:Int}:(G3 w e).w=w.w:=by
 unfold G3 Em
 split
 ·simp only [Ad.w,List.length_set]
 ·rfl
theorem X4 {w:Ad}{r:Ac}:(F1 w r).w=w.w+1:=by
 unfold F1 I1 Em kept
 split
 ·simp only [Ad.w,List.length_set,List.length_append,List.length_singleton];omega
 ·simp only [Ad.w,List.length_append,List.length_singleton];omega
theorem Xl {c:A3}{p:Bl}:(Ao c p).1.w≤c.w+4:=by
 have work:∀w,(Df c w).1.w≤c.w+4:=fun w=>by
  unfold Df
  split
  ·rename_i h
   have h1:=Gq (w:=(H4 c.graph (A9 c w)).1) h.2
   have h2:=A4b (g:=c.graph) (w:=A9 c w)
   simp only
   omega
  ·simp
 have input:∀w,(Ct c w).1.w≤c.w+4:=fun w=>by
  unfold Ct
  split
  ·rename_i h
   have h1:=Gq (w:=(Et c.graph (A9 c w)).1) h.2
   have h2:=W5 (g:=c.graph) (w:=A9 c w)
   simp only
   omega
  ·simp
 have move:∀w,(Br c w).1.w≤c.w+4:=fun w=>by
  unfold Br
  split
  ·rename_i h
   obtain ⟨hW,hs⟩:=h
   have hu:(Dv (A9 c w)).w+1=(A9 c w).w:=by simp only [Dv,Ad.w,List.length_drop];omega
   split
   ·have h1:=Gq (w:=kept (Dv (A9 c w)) (Au c w)) hW.2
    have h2:(kept (Dv (A9 c w)) (Au c w)).w=(Dv (A9 c w)).w+1:=by simp only [kept,Ad.w,List.length_append,List.length_singleton];omega
    simp only
    omega
   ·split
    ·have hb:0≤w∧w<c.graph.workers:=by have:=hW.1.1.2.1;exact ⟨hW.2.1,by have:=hW.2.2;omega⟩
     have h1:=R8 (l:=(C6 (Bc c (Ai c w (As c w))) (Au c w)).1) (I4 hW.1 hb (Ss hW hs)).1
     have h2:=Gq (c:=Bo c (Ai c w (As c w)) (C6 (Bc c (Ai c w (As c w))) (Au c w)).1) (w:=G3 (Dv (A9 c w)) (Au c w).stamp.epoch) hW.2
     have h3:(C6 (Bc c (Ai c w (As c w))) (Au c w)).1.w≤(Bc c (Ai c w (As c w))).w+1:=by
      unfold C6
      split
      ·simp [C0.w]
      ·simp
     have h4:(A9 (Bo c (Ai c w (As c w)) (C6 (Bc c (Ai c w (As c w))) (Au c w)).1) w).w=(A9 c w).w:=rfl
     rw [X9] at h2
     simp only
     omega
    ·simp
  ·simp
 have take:∀f t,(Ck c f t).1.w≤c.w+4:=fun f t=>by
  unfold Ck
  split
  ·rename_i h
   obtain ⟨hL,hk⟩:=h
   have ht:0≤t∧t<c.workers.length:=by have:=hL.1.1.2.1;have:=hL.2.2.2;omega
   have h1:=R8 (l:=(Bn (Bc c (Ai c f t))).1) (I4 hL.1 hL.2.2.1 hL.2.2.2).1
   have h2:=Gq (c:=Bo c (Ai c f t) (Bn (Bc c (Ai c f t))).1) (w:=F1 (A9 c t) (Bn (Bc c (Ai c f t))).2.1) ht
   have h3:(Bn (Bc c (Ai c f t))).1.w≤(Bc c (Ai c f t)).w:=by
    unfold Bn
    split
    ·simp [C0.w]
    ·simp
   have h4:(A9 (Bo c (Ai c f t) (Bn (Bc c (Ai c f t))).1) t).w=(A9 c t).w:=rfl
   rw [X4] at h2
   simp only
   omega
  ·simp
 have credit:∀f t,(Cq c f t).1.w≤c.w+4:=fun f t=>by
  unfold Cq
  split
  ·rename_i hL
   have h1:=R8 (l:=(D4 (Bc c (Ai c f t))).1) (I4 hL.1 hL.2.2.1 hL.2.2.2).1
   have h3:(D4 (Bc c (Ai c f t))).1.w=(Bc c (Ai c f t)).w:=by
    unfold D4
    split<;>simp [C0.w]
   simp only
   omega
  ·simp
 have tok:∀e,(C2 c e).1.w≤c.w+4:=fun e=>by
  unfold C2
  split
  ·rename_i hT
   obtain ⟨hC,he,hD,hP⟩:=hT
   have hTP:Nl c.graph.workers (Ab c e):=hC.2.2.2.1 _ (B9 (d:=default) (show e.toNat<c.tokens.length by have:=hC.1.2.2.2;omega))
   have hn1:=hC.1.1.2.1
   have hwl:=hC.1.2.1
   have hat:0≤(Ab c e).at_∧(Ab c e).at_<c.workers.length:=by have:=hTP.1;omega
   have hwh:(H3 (A9 c (Ab c e).at_) e).w=(A9 c (Ab c e).at_).w:=by simp only [H3,Ad.w,List.length_set]
   simp only
   split
   ·have h1:=Gq (c:=Cs c e ⟨true,(c.workers.length:Int)-1,0,false,(A9 c (Ab c e).at_).caps.getD e.toNat default⟩) (w:=H3 (A9 c (Ab c e).at_) e) hat
    rw [N9,hwh] at h1
    have h2:(A9 (Cs c e ⟨true,(c.workers.length:Int)-1,0,false,(A9 c (Ab c e).at_).caps.getD e.toNat default⟩) (Ab c e).at_).w=(A9 c (Ab c e).at_).w:=rfl
    simp only
    omega
   ·split
    ·split
     ·have h1:=Gq (c:=Cs c e ⟨(Ab c e).going,(Ab c e).at_-1,(Ab c e).sum+(A9 c (Ab c e).at_).sums.getD e.toNat default,(Ab c e).black||(A9 c (Ab c e).at_).black.getD e.toNat default,(Ab c e).capped||(A9 c (Ab c e).at_).caps.getD e.toNat default⟩) (w:=H3 (A9 c (Ab c e).at_) e) hat
      rw [N9,hwh] at h1
      have h2:(A9 (Cs c e ⟨(Ab c e).going,(Ab c e).at_-1,(Ab c e).sum+(A9 c (Ab c e).at_).sums.getD e.toNat default,(Ab c e).black||(A9 c (Ab c e).at_).black.getD e.toNat default,(Ab c e).capped||(A9 c (Ab c e).at_).caps.getD e.toNat default⟩) (Ab c e).at_).w=(A9 c (Ab c e).at_).w:=rfl
      simp only
      omega
     ·simp
    ·rename_i hg ha
     have hA:(Ab c e).at_=0:=by have:=hTP.1;omega
     unfold H2
     split
     ·have h1:=Gq (c:=Cs c e ⟨false,(Ab c e).at_,(Ab c e).sum,(Ab c e).black,(Ab c e).capped⟩) (j:=0) (w:=Fj (A9 c (Ab c e).at_) ⟨e,(Ab c e).capped||(A9 c (Ab c e).at_).caps.getD e.toNat default⟩) (by have:(Cs c e ⟨false,(Ab c e).at_,(Ab c e).sum,(Ab c e).black,(Ab c e).capped⟩).workers.length=c.workers.length:=rfl;omega)
      rw [N9] at h1
      have h2:(A9 (Cs c e ⟨false,(Ab c e).at_,(Ab c e).sum,(Ab c e).black,(Ab c e).capped⟩) 0).w=(A9 c (Ab c e).at_).w:=by rw [hA];rfl
      have h3:(Fj (A9 c (Ab c e).at_) ⟨e,(Ab c e).capped||(A9 c (Ab c e).at_).caps.getD e.toNat default⟩).w=(A9 c (Ab c e).at_).w+1:=by simp only [Fj,Ad.w,List.length_append,List.length_singleton];omega
      have h4:∀(x:A3) l,(Mj x l).w=x.w+l.length:=fun x l=>by simp only [Mj,A3.w,List.length_append];omega
      rw [h4]
      have h5:(K6 e ((Ab c e).capped||(A9 c (Ab c e).at_).caps.getD e.toNat default) ((Cs c e ⟨false,(Ab c e).at_,(Ab c e).sum,(Ab c e).black,(Ab c e).capped⟩).workers.length-1)).length≤3:=by
       have:(Cs c e ⟨false,(Ab c e).at_,(Ab c e).sum,(Ab c e).black,(Ab c e).capped⟩).workers.length=c.workers.length:=rfl
       rw [this]
       simp only [K6,List.length_map,List.length_range]
       omega
      omega
     ·rw [N9];omega
  ·simp
 have hear:∀w,(D9 c w).1.w≤c.w+4:=fun w=>by
  unfold D9
  split
  ·rename_i hn
   obtain ⟨m1,m2⟩:=O0 hn.1 hn.2
   have hN:=hn.1.2.2.2.2 _ m1
   have hw:0≤w∧w<c.workers.length:=by have:=hn.1.1.2.1;have:=hN.1;omega
   have h0:(Ip c w).w≤c.w:=by
    have:=List.length_eraseIdx_le c.news (M6 c w)
    simp only [Ip,A3.w]
    omega
   split
   ·simp only;omega
   ·have h1:=Gq (c:=Ip c w) (w:=Fj (A9 c w) ⟨(Fa c w).epoch,(Fa c w).capped⟩) hw
    have h2:(A9 (Ip c w) w).w=(A9 c w).w:=rfl
    have h3:(Fj (A9 c w) ⟨(Fa c w).epoch,(Fa c w).capped⟩).w=(A9 c w).w+1:=by simp only [Fj,Ad.w,List.length_append,List.length_singleton];omega
    simp only
    omega
  ·simp
 unfold Ao
 split
 ·exact work _
 split
 ·exact input _
 split
 ·exact move _
 split
 ·exact take _ _
 split
 ·exact credit _ _
 split
 ·exact tok _
 split
 ·exact hear _
 ·simp
def A4j (w:Ad) (e:Int):Int:=w.sums.getD e.toNat default
def A51 (w:Ad) (e:Int):Bool:=w.black.getD e.toNat default
def A70 (w:Ad) (e:Int):Bool:=w.caps.getD e.toNat default
theorem A8x {l:List Ac}{e:Int}{r:Ac}:r∈G7 l e↔r∈l∧r.stamp.epoch=e:=by simp [G7]
theorem A4e {w:Ad}{e:Int}:Hu w e=true↔(∀r∈w.inputs,e<r.stamp.epoch)∧(∀r∈w.queue,r.stamp.epoch≠e)∧(∀r∈w.staged,r.stamp.epoch≠e):=by
 have h1:Qp w e=true↔∃r∈w.inputs,r.stamp.epoch≤e:=by simp [Qp]
 have h2:∀l:List Ac,(G7 l e).length=0↔∀r∈l,r.stamp.epoch≠e:=fun l=>by
  rw [List.length_eq_zero_iff,List.eq_nil_iff_forall_not_mem]
  exact ⟨fun h r hr he=>h r (A8x.2 ⟨hr,he⟩),fun h r hr=>h r (A8x.1 hr).1 (A8x.1 hr).2⟩
 unfold Hu Xs
 by_cases ho:Qp w e=true
 ·rw [if_pos ho]
  obtain ⟨r,hr,hle⟩:=h1.1 ho
  constructor
  ·intro h;cases h
  ·rintro ⟨h,_⟩;have:=h r hr;omega
 ·rw [if_neg ho]
  have h3:∀r∈w.inputs,e<r.stamp.epoch:=fun r hr=>by
   by_cases hle:r.stamp.epoch≤e
   ·exact absurd (h1.2 ⟨r,hr,hle⟩) ho
   ·omega
  rw [beq_iff_eq]
  constructor
  ·intro h
   exact ⟨h3,(h2 _).1 Ag,(h2 _).1 Ag⟩
  ·rintro ⟨_,h4,h5⟩
   have:=(h2 _).2 h4
   have:=(h2 _).2 h5
   omega
def A7u (e:Int) (w w':Ad):Prop:=A4j w' e=A4j w e∧A51 w' e=A51 w e∧(A70 w e=true→A70 w' e=true)∧(Hu w e=true→Hu w' e=true∧A70 w' e=A70 w e)
theorem A7u.refl (e:Int)(w:Ad):A7u e w w:=⟨rfl,rfl,id,fun h=>⟨h,rfl⟩⟩
theorem A7u.trans {e:Int}{w w' w'':Ad}(h:A7u e w w')(h':A7u e w' w''):A7u e w w'':=
 ⟨h'.1.trans h.1,h'.2.1.trans h.2.1,fun hc=>h'.2.2.1 (h.2.2.1 hc),fun hp=>⟨(h'.2.2.2 (h.2.2.2 hp).1).1,(h'.2.2.2 (h.2.2.2 hp).1).2.trans (h.2.2.2 hp).2⟩⟩
theorem A63 {α:Type}(l:List α)(i j:Nat)(x d:α):(l.set j x).getD i d=if i=j∧j<l.length then x else l.getD i d:=by
 by_cases h:i=j
 ·subst h
  by_cases hl:i<l.length
  ·rw [if_pos ⟨rfl,hl⟩,Sx.getD_set_self _ _ _ _ hl]
  ·rw [if_neg (fun q=>hl q.2),List.set_eq_of_length_le Ag]
 ·rw [if_neg (fun q=>h q.1),Sx.getD_set_ne _ _ _ _ _ h]
theorem B0h {g:An}{r q:Ac}(h:q∈K4 g r):q.stamp.epoch=r.stamp.epoch:=by
 unfold K4 at h
 split at h
 ·simp at h
 ·rename_i hb
  obtain ⟨k,_,rfl⟩:=List.mem_map.1 h
  simp only
  split
  ·rename_i h7
   have:=Oq (s:=r.stamp) (by simpa [h7] using hb)
   rw [this.1]
  ·rfl
theorem B2e {g:An}{cs:List Ax}{r q:Ac}(h:q∈(Es g cs r).2.1):q.stamp.epoch=r.stamp.epoch:=by
 unfold Es at h
 (repeat' split at h)
 ·simp at h
 ·simp at h
 ·exact B0h h
 ·simp at h
theorem A8c {l:List Ac}{r:Ac}(h:r∈l.drop 1):r∈l:=List.mem_of_mem_drop h
theorem B2f {g:An}{w:Ad}{e:Int}(he:0≤e)(h:Of g w):A7u e w (J3 g w):=by
 obtain ⟨_,hw,hs,hq⟩:=h
 have hr0:=hw.1.1 _ (B9 (d:=default) hq)
 have hcl:=hw.2.1.2.2
 have hce:(w.queue.getD 0 default).stamp.epoch≠e→A70 (J3 g w) e=A70 w e:=fun hne=>by
  unfold A70 J3
  simp only
  split
  ·rw [A63,if_neg]
   rintro ⟨hi,_⟩
   have:=hr0.1.2.1
   omega
  ·rfl
 refine ⟨rfl,rfl,fun hc=>?_,fun hp=>?_⟩
 ·by_cases hne:(w.queue.getD 0 default).stamp.epoch=e
  ·unfold A70 J3 at *
   simp only
   split
   ·rw [hne,A63]
    split
    ·rfl
    ·exact hc
   ·exact hc
  ·rw [hce hne];exact hc
 ·obtain ⟨p1,p2,p3⟩:=A4e.1 hp
  have hne:(w.queue.getD 0 default).stamp.epoch≠e:=p2 _ (B9 hq)
  refine ⟨A4e.2 ⟨p1,fun r hr=>p2 r (A8c hr),fun r hr=>?_⟩,hce hne⟩
  rw [B2e hr]
  exact hne
theorem B0u {w:Ad}{e:Int}(h0:0<w.inputs.length):A7u e w (Hy w):=by
 refine ⟨rfl,rfl,id,fun hp=>⟨?_,rfl⟩⟩
 obtain ⟨p1,p2,p3⟩:=A4e.1 hp
 refine A4e.2 ⟨fun r hr=>p1 r (A8c hr),fun r hr=>?_,p3⟩
 rcases List.mem_append.1 hr with hr|hr
 ·exact p2 r hr
 ·rw [List.mem_singleton.1 hr]
  have:=p1 _ (B9 (d:=default) h0)
  omega
theorem B1h {w:Ad}{e:Int}:A7u e w (Dv w):=by
 refine ⟨rfl,rfl,id,fun hp=>⟨?_,rfl⟩⟩
 obtain ⟨p1,p2,p3⟩:=A4e.1 hp
 exact A4e.2 ⟨p1,p2,fun r hr=>p3 r (A8c hr)⟩
theorem B29 {w:Ad}{e:Int}{r:Ac}(h:r.stamp.epoch≠e):A7u e w (kept w r):=by
 refine ⟨rfl,rfl,id,fun hp=>⟨?_,rfl⟩⟩
 obtain ⟨p1,p2,p3⟩:=A4e.1 hp
 refine A4e.2 ⟨p1,fun q hq=>?_,p3⟩
 rcases List.mem_append.1 hq with hq|hq
 ·exact p2 q hq
 ·rw [List.mem_singleton.1 hq];exact h
theorem B04 {w:Ad}{e:Int}(h:0<w.staged.length):A7u e w (kept (Dv w) (w.staged.getD 0 default)):=by
 refine ⟨rfl,rfl,id,fun hp=>⟨?_,rfl⟩⟩
 obtain ⟨p1,p2,p3⟩:=A4e.1 hp
 refine A4e.2 ⟨p1,fun q hq=>?_,fun r hr=>p3 r (A8c hr)⟩
 rcases List.mem_append.1 hq with hq|hq
 ·exact p2 q hq
 ·rw [List.mem_singleton.1 hq];exact p3 _ (B9 h)
theorem B0v {w:Ad}{e e' k:Int}(h:0≤e)(h':0≤e')(hne:e'≠e):A7u e w (Em w e' k):=by
 refine ⟨?_,rfl,id,fun hp=>⟨hp,rfl⟩⟩
 unfold A4j Em
 simp only
 rw [A63,if_neg]
 rintro ⟨h1,_⟩
 omega
theorem B1w {w:Ad}{e e':Int}(h:0≤e)(h':0≤e')(hne:e'≠e):A7u e w (I1 w e'):=by
 refine ⟨rfl,?_,id,fun hp=>⟨hp,rfl⟩⟩
 unfold A51 I1
 simp only
 rw [A63,if_neg]
 rintro ⟨h1,_⟩
 omega
theorem A95 {w:Ad}{e e':Int}(h:0≤e)(h':0≤e')(hne:e'≠e):A7u e w (H3 w e'):=by
 refine ⟨rfl,?_,id,fun hp=>⟨hp,rfl⟩⟩
 unfold A51 H3
 simp only
 rw [A63,if_neg]
 rintro ⟨h1,_⟩
 omega
theorem A9e {w:Ad}{e:Int}{d:Fv}:A7u e w (Fj w d):=⟨rfl,rfl,id,fun hp=>⟨hp,rfl⟩⟩
end Go.Proofs.Ytonodkjaoalfjaa
