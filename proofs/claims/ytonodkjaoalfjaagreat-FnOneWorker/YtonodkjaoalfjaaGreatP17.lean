/- Part 17 of the proof that each of the laws FnOneWorker returns true for every input. No conditions. -/
import Derived.Test.YtonodkjaoalfjaaGreatP16

set_option linter.unusedSimpArgs false
set_option linter.unusedVariables false
set_option maxRecDepth 100000
namespace Go.Proofs.YtonodkjaoalfjaaGreat
open Go.Sx
theorem Q4 {α:Type} [Inhabited α] (f:α→Nat):∀(l:List α) (j:Nat) (x:α),j<l.length→((l.set j x).map f).sum+f (l.getD j default)=(l.map f).sum+f x
 | [],_,_,h=>absurd h (Nat.not_lt_zero _)
 |y::r,0,x,_=>by simp;omega
 |y::r,j+1,x,h=>by
  have:=Q4 f r j x (by simpa using h)
  simp only [List.set_cons_succ,List.map_cons,List.sum_cons,List.getD_cons_succ]
  omega
theorem J6 {c:A3}{j:Int}{w:Ab}(h:0≤j∧j<c.workers.length):(Av c j w).w+(A6 c j).w=c.w+w.w:=by
 have:=Q4 Ab.w c.workers j.toNat w Ac
 simp only [Av,A3.w,wS,List.length_set,A6]
 omega
theorem Xf {c:A3}{k:Int}{l:C2}(h:0≤k∧k<c.links.length):(B6 c k l).w+(An c k).w=c.w+l.w:=by
 have:=Q4 C2.w c.links k.toNat l Ac
 simp only [B6,A3.w,wS,List.length_set,An]
 omega
theorem Sa {c:A3}{e:Int}{t:Es}:(Cp c e t).w=c.w:=by simp only [Cp,A3.w,List.length_set]
theorem B5s {g:Ad}{w:Ab}:(Fk g w).1.w≤w.w+2:=by
 unfold Fk
 split
 ·rename_i h
  have h1:=A7k (g:=g) (cs:=w.cells) (r:=w.queue.getD 0 default)
  have h2:=A5d (g:=g) (cs:=w.cells) (r:=w.queue.getD 0 default)
  have h3:=h.2.2.2
  have h4:(if capped g (w.queue.getD 0 default)=true then w.caps.set (w.queue.getD 0 default).stamp.epoch.toNat true else w.caps).length=w.caps.length:=by split<;>simp
  simp only [Fx,Ab.w,List.length_drop,h4]
  omega
 ·simp
theorem A5i {g:Ad}{w:Ab}:(Dg g w).1.w≤w.w:=by
 unfold Dg
 split
 ·rename_i h
  have:=h.2.2.2.2
  simp only [Jz,Ab.w,List.length_append,List.length_singleton,List.length_drop]
  omega
 ·simp
theorem A7e {w:Ab}{e:Int}:(Cs w e).w=w.w:=by
 unfold Cs Ib
 split
 ·simp only [Ab.w,List.length_set]
 ·rfl
theorem A69 {w:Ab}{r:A5}:(Cj w r).w=w.w+1:=by
 unfold Cj N2 Ib kept
 split
 ·simp only [Ab.w,List.length_set,List.length_append,List.length_singleton];omega
 ·simp only [Ab.w,List.length_append,List.length_singleton];omega
theorem A7n {c:A3}{p:Bl}:(Ag c p).1.w≤c.w+4:=by
 have work:∀w,(Cr c w).1.w≤c.w+4:=fun w=>by
  unfold Cr
  split
  ·rename_i h
   have h1:=J6 (w:=(Fk c.graph (A6 c w)).1) h.2
   have h2:=B5s (g:=c.graph) (w:=A6 c w)
   simp only
   omega
  ·simp
 have input:∀w,(Cg c w).1.w≤c.w+4:=fun w=>by
  unfold Cg
  split
  ·rename_i h
   have h1:=J6 (w:=(Dg c.graph (A6 c w)).1) h.2
   have h2:=A5i (g:=c.graph) (w:=A6 c w)
   simp only
   omega
  ·simp
 have move:∀w,(C6 c w).1.w≤c.w+4:=fun w=>by
  unfold C6
  split
  ·rename_i h
   obtain ⟨hW,hs⟩:=h
   have hu:(Bt (A6 c w)).w+1=(A6 c w).w:=by simp only [Bt,Ab.w,List.length_drop];omega
   split
   ·have h1:=J6 (w:=kept (Bt (A6 c w)) (B7 c w)) hW.2
    have h2:(kept (Bt (A6 c w)) (B7 c w)).w=(Bt (A6 c w)).w+1:=by simp only [kept,Ab.w,List.length_append,List.length_singleton];omega
    simp only
    omega
   ·split
    ·have hb:0≤w∧w<c.graph.workers:=by have:=hW.1.1.2.1;exact ⟨hW.2.1,by have:=hW.2.2;omega⟩
     have h1:=Xf (l:=(Dn (An c (Ae c w (B8 c w))) (B7 c w)).1) (El hW.1 hb (Km hW hs)).1
     have h2:=J6 (c:=B6 c (Ae c w (B8 c w)) (Dn (An c (Ae c w (B8 c w))) (B7 c w)).1) (w:=Cs (Bt (A6 c w)) (B7 c w).stamp.epoch) hW.2
     have h3:(Dn (An c (Ae c w (B8 c w))) (B7 c w)).1.w≤(An c (Ae c w (B8 c w))).w+1:=by
      unfold Dn
      split
      ·simp [C2.w]
      ·simp
     have h4:(A6 (B6 c (Ae c w (B8 c w)) (Dn (An c (Ae c w (B8 c w))) (B7 c w)).1) w).w=(A6 c w).w:=rfl
     rw [A7e] at h2
     simp only
     omega
    ·simp
  ·simp
 have take:∀f t,(Cd c f t).1.w≤c.w+4:=fun f t=>by
  unfold Cd
  split
  ·rename_i h
   obtain ⟨hL,hk⟩:=h
   have ht:0≤t∧t<c.workers.length:=by have:=hL.1.1.2.1;have:=hL.2.2.2;omega
   have h1:=Xf (l:=(At (An c (Ae c f t))).1) (El hL.1 hL.2.2.1 hL.2.2.2).1
   have h2:=J6 (c:=B6 c (Ae c f t) (At (An c (Ae c f t))).1) (w:=Cj (A6 c t) (At (An c (Ae c f t))).2.1) ht
   have h3:(At (An c (Ae c f t))).1.w≤(An c (Ae c f t)).w:=by
    unfold At
    split
    ·simp [C2.w]
    ·simp
   have h4:(A6 (B6 c (Ae c f t) (At (An c (Ae c f t))).1) t).w=(A6 c t).w:=rfl
   rw [A69] at h2
   simp only
   omega
  ·simp
 have credit:∀f t,(Br c f t).1.w≤c.w+4:=fun f t=>by
  unfold Br
  split
  ·rename_i hL
   have h1:=Xf (l:=(Bn (An c (Ae c f t))).1) (El hL.1 hL.2.2.1 hL.2.2.2).1
   have h3:(Bn (An c (Ae c f t))).1.w=(An c (Ae c f t)).w:=by
    unfold Bn
    split<;>simp [C2.w]
   simp only
   omega
  ·simp
 have tok:∀e,(Bo c e).1.w≤c.w+4:=fun e=>by
  unfold Bo
  split
  ·rename_i hT
   obtain ⟨hC,he,hD,hP⟩:=hT
   have hTP:O7 c.graph.workers (A4 c e):=hC.2.2.2.1 _ (Aq (d:=default) (show e.toNat<c.tokens.length by have:=hC.1.2.2.2;omega))
   have hn1:=hC.1.1.2.1
   have hwl:=hC.1.2.1
   have hat:0≤(A4 c e).at_∧(A4 c e).at_<c.workers.length:=by have:=hTP.1;omega
   have hwh:(G8 (A6 c (A4 c e).at_) e).w=(A6 c (A4 c e).at_).w:=by simp only [G8,Ab.w,List.length_set]
   simp only
   split
   ·have h1:=J6 (c:=Cp c e ⟨true,(c.workers.length:Int)-1,0,false,(A6 c (A4 c e).at_).caps.getD e.toNat default⟩) (w:=G8 (A6 c (A4 c e).at_) e) hat
    rw [Sa,hwh] at h1
    have h2:(A6 (Cp c e ⟨true,(c.workers.length:Int)-1,0,false,(A6 c (A4 c e).at_).caps.getD e.toNat default⟩) (A4 c e).at_).w=(A6 c (A4 c e).at_).w:=rfl
    simp only
    omega
   ·split
    ·split
     ·have h1:=J6 (c:=Cp c e ⟨(A4 c e).going,(A4 c e).at_-1,(A4 c e).sum+(A6 c (A4 c e).at_).sums.getD e.toNat default,(A4 c e).black||(A6 c (A4 c e).at_).black.getD e.toNat default,(A4 c e).capped||(A6 c (A4 c e).at_).caps.getD e.toNat default⟩) (w:=G8 (A6 c (A4 c e).at_) e) hat
      rw [Sa,hwh] at h1
      have h2:(A6 (Cp c e ⟨(A4 c e).going,(A4 c e).at_-1,(A4 c e).sum+(A6 c (A4 c e).at_).sums.getD e.toNat default,(A4 c e).black||(A6 c (A4 c e).at_).black.getD e.toNat default,(A4 c e).capped||(A6 c (A4 c e).at_).caps.getD e.toNat default⟩) (A4 c e).at_).w=(A6 c (A4 c e).at_).w:=rfl
      simp only
      omega
     ·simp
    ·rename_i hg ha
     have hA:(A4 c e).at_=0:=by have:=hTP.1;omega
     unfold Gn
     split
     ·have h1:=J6 (c:=Cp c e ⟨false,(A4 c e).at_,(A4 c e).sum,(A4 c e).black,(A4 c e).capped⟩) (j:=0) (w:=Cx (A6 c (A4 c e).at_) ⟨e,(A4 c e).capped||(A6 c (A4 c e).at_).caps.getD e.toNat default⟩) (by have:(Cp c e ⟨false,(A4 c e).at_,(A4 c e).sum,(A4 c e).black,(A4 c e).capped⟩).workers.length=c.workers.length:=rfl;omega)
      rw [Sa] at h1
      have h2:(A6 (Cp c e ⟨false,(A4 c e).at_,(A4 c e).sum,(A4 c e).black,(A4 c e).capped⟩) 0).w=(A6 c (A4 c e).at_).w:=by rw [hA];rfl
      have h3:(Cx (A6 c (A4 c e).at_) ⟨e,(A4 c e).capped||(A6 c (A4 c e).at_).caps.getD e.toNat default⟩).w=(A6 c (A4 c e).at_).w+1:=by simp only [Cx,Ab.w,List.length_append,List.length_singleton];omega
      have h4:∀(x:A3) l,(I0 x l).w=x.w+l.length:=fun x l=>by simp only [I0,A3.w,List.length_append];omega
      rw [h4]
      have h5:(H1 e ((A4 c e).capped||(A6 c (A4 c e).at_).caps.getD e.toNat default) ((Cp c e ⟨false,(A4 c e).at_,(A4 c e).sum,(A4 c e).black,(A4 c e).capped⟩).workers.length-1)).length≤3:=by
       have:(Cp c e ⟨false,(A4 c e).at_,(A4 c e).sum,(A4 c e).black,(A4 c e).capped⟩).workers.length=c.workers.length:=rfl
       rw [this]
       simp only [H1,List.length_map,List.length_range]
       omega
      omega
     ·rw [Sa];omega
  ·simp
 have hear:∀w,(D4 c w).1.w≤c.w+4:=fun w=>by
  unfold D4
  split
  ·rename_i hn
   obtain ⟨m1,m2⟩:=Jk hn.1 hn.2
   have hN:=hn.1.2.2.2.2 _ m1
   have hw:0≤w∧w<c.workers.length:=by have:=hn.1.1.2.1;have:=hN.1;omega
   have h0:(Ih c w).w≤c.w:=by
    have:=List.length_eraseIdx_le c.news (Ej c w)
    simp only [Ih,A3.w]
    omega
   split
   ·simp only;omega
   ·have h1:=J6 (c:=Ih c w) (w:=Cx (A6 c w) ⟨(Dd c w).epoch,(Dd c w).capped⟩) hw
    have h2:(A6 (Ih c w) w).w=(A6 c w).w:=rfl
    have h3:(Cx (A6 c w) ⟨(Dd c w).epoch,(Dd c w).capped⟩).w=(A6 c w).w+1:=by simp only [Cx,Ab.w,List.length_append,List.length_singleton];omega
    simp only
    omega
  ·simp
 unfold Ag
 split
 ·exact work _
 split
 ·exact input _
 split
 ·exact move _
 split
 ·exact take _ _
 split
 ·exact credit _ _
 split
 ·exact tok _
 split
 ·exact hear _
 ·simp
theorem A01 {c:A3}(h:Ap c):J9 c:=fun l hl=>by
 obtain ⟨i,hi,rfl⟩:=List.getElem_of_mem hl
 have:=(h.2.2.1 i hi).1.1
 have e:c.links.getD i default=c.links[i]:=by simp [List.getD,hi]
 rw [e] at this
 simp only [Tl] at this
 omega
def Dx (w:Ab) (e:Int):Int:=w.sums.getD e.toNat default
def Em (w:Ab) (e:Int):Bool:=w.black.getD e.toNat default
def Ck (w:Ab) (e:Int):Bool:=w.caps.getD e.toNat default
theorem Ik {l:List A5}{e:Int}{r:A5}:r∈Bs l e↔r∈l∧r.stamp.epoch=e:=by simp [Bs]
theorem Dw {w:Ab}{e:Int}:De w e=true↔(∀r∈w.inputs,e<r.stamp.epoch)∧(∀r∈w.queue,r.stamp.epoch≠e)∧(∀r∈w.staged,r.stamp.epoch≠e):=by
 have h1:R5 w e=true↔∃r∈w.inputs,r.stamp.epoch≤e:=by simp [R5]
 have h2:∀l:List A5,(Bs l e).length=0↔∀r∈l,r.stamp.epoch≠e:=fun l=>by
  rw [List.length_eq_zero_iff,List.eq_nil_iff_forall_not_mem]
  exact ⟨fun h r hr he=>h r (Ik.2 ⟨hr,he⟩),fun h r hr=>h r (Ik.1 hr).1 (Ik.1 hr).2⟩
 unfold De Xs
 by_cases ho:R5 w e=true
 ·rw [if_pos ho]
  obtain ⟨r,hr,hle⟩:=h1.1 ho
  constructor
  ·intro h;cases h
  ·rintro ⟨h,_⟩;have:=h r hr;omega
 ·rw [if_neg ho]
  have h3:∀r∈w.inputs,e<r.stamp.epoch:=fun r hr=>by
   by_cases hle:r.stamp.epoch≤e
   ·exact absurd (h1.2 ⟨r,hr,hle⟩) ho
   ·omega
  rw [beq_iff_eq]
  constructor
  ·intro h
   exact ⟨h3,(h2 _).1 Ac,(h2 _).1 Ac⟩
  ·rintro ⟨_,h4,h5⟩
   have:=(h2 _).2 h4
   have:=(h2 _).2 h5
   omega
def Fs (e:Int) (w w':Ab):Prop:=Dx w' e=Dx w e∧Em w' e=Em w e∧(Ck w e=true→Ck w' e=true)∧(De w e=true→De w' e=true∧Ck w' e=Ck w e)
theorem Fs.refl (e:Int)(w:Ab):Fs e w w:=⟨rfl,rfl,id,fun h=>⟨h,rfl⟩⟩
theorem Fs.trans {e:Int}{w w' w'':Ab}(h:Fs e w w')(h':Fs e w' w''):Fs e w w'':=
 ⟨h'.1.trans h.1,h'.2.1.trans h.2.1,fun hc=>h'.2.2.1 (h.2.2.1 hc),fun hp=>⟨(h'.2.2.2 (h.2.2.2 hp).1).1,(h'.2.2.2 (h.2.2.2 hp).1).2.trans (h.2.2.2 hp).2⟩⟩
theorem Dr {α:Type}(l:List α)(i j:Nat)(x d:α):(l.set j x).getD i d=if i=j∧j<l.length then x else l.getD i d:=by
 by_cases h:i=j
 ·subst h
  by_cases hl:i<l.length
  ·rw [if_pos ⟨rfl,hl⟩,Sx.getD_set_self _ _ _ _ hl]
  ·rw [if_neg (fun q=>hl q.2),List.set_eq_of_length_le Ac]
 ·rw [if_neg (fun q=>h q.1),Sx.getD_set_ne _ _ _ _ _ h]
theorem Ok {g:Ad}{r q:A5}(h:q∈Gf g r):q.stamp.epoch=r.stamp.epoch:=by
 unfold Gf at h
 split at h
 ·simp at h
 ·rename_i hb
  obtain ⟨k,_,rfl⟩:=List.mem_map.1 h
  simp only
  split
  ·rename_i h7
   have:=Lx (s:=r.stamp) (by simpa [h7] using hb)
   rw [this.1]
  ·rfl
theorem Sd {g:Ad}{cs:List A7}{r q:A5}(h:q∈(Bv g cs r).2.1):q.stamp.epoch=r.stamp.epoch:=by
 unfold Bv at h
 (repeat' split at h)
 ·simp at h
 ·simp at h
 ·exact Ok h
 ·simp at h
theorem Hm {l:List A5}{r:A5}(h:r∈l.drop 1):r∈l:=List.mem_of_mem_drop h
theorem A2j {g:Ad}{w:Ab}{e:Int}(he:0≤e)(h:V5 g w):Fs e w (Fx g w):=by
 obtain ⟨_,hw,hs,hq⟩:=h
 have hr0:=hw.1.1 _ (Aq (d:=default) hq)
 have hcl:=hw.2.1.2.2
 have hce:(w.queue.getD 0 default).stamp.epoch≠e→Ck (Fx g w) e=Ck w e:=fun hne=>by
  unfold Ck Fx
  simp only
  split
  ·rw [Dr,if_neg]
   rintro ⟨hi,_⟩
   have:=hr0.1.2.1
   omega
  ·rfl
 refine ⟨rfl,rfl,fun hc=>?_,fun hp=>?_⟩
 ·by_cases hne:(w.queue.getD 0 default).stamp.epoch=e
  ·unfold Ck Fx at *
   simp only
   split
   ·rw [hne,Dr]
    split
    ·rfl
    ·exact hc
   ·exact hc
  ·rw [hce hne];exact hc
 ·obtain ⟨p1,p2,p3⟩:=Dw.1 hp
  have hne:(w.queue.getD 0 default).stamp.epoch≠e:=p2 _ (Aq hq)
  refine ⟨Dw.2 ⟨p1,fun r hr=>p2 r (Hm hr),fun r hr=>?_⟩,hce hne⟩
  rw [Sd hr]
  exact hne
theorem V8 {w:Ab}{e:Int}(h0:0<w.inputs.length):Fs e w (Jz w):=by
 refine ⟨rfl,rfl,id,fun hp=>⟨?_,rfl⟩⟩
 obtain ⟨p1,p2,p3⟩:=Dw.1 hp
 refine Dw.2 ⟨fun r hr=>p1 r (Hm hr),fun r hr=>?_,p3⟩
 rcases List.mem_append.1 hr with hr|hr
 ·exact p2 r hr
 ·rw [List.mem_singleton.1 hr]
  have:=p1 _ (Aq (d:=default) h0)
  omega
theorem Yi {w:Ab}{e:Int}:Fs e w (Bt w):=by
 refine ⟨rfl,rfl,id,fun hp=>⟨?_,rfl⟩⟩
 obtain ⟨p1,p2,p3⟩:=Dw.1 hp
 exact Dw.2 ⟨p1,p2,fun r hr=>p3 r (Hm hr)⟩
theorem A6t {w:Ab}{e:Int}{r:A5}(h:r.stamp.epoch≠e):Fs e w (kept w r):=by
 refine ⟨rfl,rfl,id,fun hp=>⟨?_,rfl⟩⟩
 obtain ⟨p1,p2,p3⟩:=Dw.1 hp
 refine Dw.2 ⟨p1,fun q hq=>?_,p3⟩
 rcases List.mem_append.1 hq with hq|hq
 ·exact p2 q hq
 ·rw [List.mem_singleton.1 hq];exact h
theorem Wj {w:Ab}{e:Int}(h:0<w.staged.length):Fs e w (kept (Bt w) (w.staged.getD 0 default)):=by
 refine ⟨rfl,rfl,id,fun hp=>⟨?_,rfl⟩⟩
 obtain ⟨p1,p2,p3⟩:=Dw.1 hp
 refine Dw.2 ⟨p1,fun q hq=>?_,fun r hr=>p3 r (Hm hr)⟩
 rcases List.mem_append.1 hq with hq|hq
 ·exact p2 q hq
 ·rw [List.mem_singleton.1 hq];exact p3 _ (Aq h)
theorem Vh {w:Ab}{e e' k:Int}(h:0≤e)(h':0≤e')(hne:e'≠e):Fs e w (Ib w e' k):=by
 refine ⟨?_,rfl,id,fun hp=>⟨hp,rfl⟩⟩
 unfold Dx Ib
 simp only
 rw [Dr,if_neg]
 rintro ⟨h1,_⟩
 omega
theorem A0l {w:Ab}{e e':Int}(h:0≤e)(h':0≤e')(hne:e'≠e):Fs e w (N2 w e'):=by
 refine ⟨rfl,?_,id,fun hp=>⟨hp,rfl⟩⟩
 unfold Em N2
 simp only
 rw [Dr,if_neg]
 rintro ⟨h1,_⟩
 omega
theorem Sg {w:Ab}{e e':Int}(h:0≤e)(h':0≤e')(hne:e'≠e):Fs e w (G8 w e'):=by
 refine ⟨rfl,?_,id,fun hp=>⟨hp,rfl⟩⟩
 unfold Em G8
 simp only
 rw [Dr,if_neg]
 rintro ⟨h1,_⟩
 omega
theorem Oj {w:Ab}{e:Int}{d:E3}:Fs e w (Cx w d):=⟨rfl,rfl,id,fun hp=>⟨hp,rfl⟩⟩
end Go.Proofs.YtonodkjaoalfjaaGreat
