/- Part 11 of the proof that each of the laws FnSpread returns true for every input. No conditions. -/
import Derived.Test.YtdendlkeiaccpaaGreatQ10

set_option linter.unusedSimpArgs false
set_option linter.unusedVariables false
set_option maxRecDepth 100000
namespace Go.Proofs.YtdendlkeiaccpaaGreat
open Go.Sx
def Fc (w:Ab) (e:Int):Int:=w.sums.getD e.toNat default
def Hg (w:Ab) (e:Int):Bool:=w.black.getD e.toNat default
def Dl (w:Ab) (e:Int):Bool:=w.caps.getD e.toNat default
theorem Lx {l:List Aa}{e:Int}{r:Aa}:r∈Cz l e↔r∈l∧r.stamp.epoch=e:=by simp [Cz]
theorem Fm {w:Ab}{e:Int}:Dx w e=true↔(∀r∈w.inputs,e<r.stamp.epoch)∧(∀r∈w.queue,r.stamp.epoch≠e)∧(∀r∈w.staged,r.stamp.epoch≠e):=by
 have h1:U2 w e=true↔∃r∈w.inputs,r.stamp.epoch≤e:=by simp [U2]
 have h2:∀l:List Aa,(Cz l e).length=0↔∀r∈l,r.stamp.epoch≠e:=fun l=>by
  rw [List.length_eq_zero_iff,List.eq_nil_iff_forall_not_mem];exact ⟨fun h r hr he=>h r (Lx.2 ⟨hr,he⟩),fun h r hr=>h r (Lx.1 hr).1 (Lx.1 hr).2⟩
 unfold Dx Ue
 by_cases ho:U2 w e=true
 ·rw [if_pos ho]
  obtain ⟨r,hr,hle⟩:=h1.1 ho
  constructor
  ·intro h;cases h
  rintro ⟨h,_⟩;have:=h r hr;omega
 rw [if_neg ho]
 have h3:∀r∈w.inputs,e<r.stamp.epoch:=fun r hr=>by
  by_cases hle:r.stamp.epoch≤e
  ·exact absurd (h1.2 ⟨r,hr,hle⟩) ho
  omega
 rw [beq_iff_eq]
 constructor
 ·intro h
  exact ⟨h3,(h2 _).1 Ad,(h2 _).1 Ad⟩
 rintro ⟨_,h4,h5⟩
 have:=(h2 _).2 h4
 have:=(h2 _).2 h5
 omega
def Gp (e:Int) (w w':Ab):Prop:=Fc w' e=Fc w e∧Hg w' e=Hg w e∧(Dl w e=true→Dl w' e=true)∧(Dx w e=true→Dx w' e=true∧Dl w' e=Dl w e)
theorem Gp.refl (e:Int)(w:Ab):Gp e w w:=⟨rfl,rfl,id,fun h=>⟨h,rfl⟩⟩
theorem Gp.trans {e:Int}{w w' w'':Ab}(h:Gp e w w')(h':Gp e w' w''):Gp e w w'':=
 ⟨h'.1.trans h.1,h'.2.1.trans h.2.1,fun hc=>h'.2.2.1 (h.2.2.1 hc),fun hp=>⟨(h'.2.2.2 (h.2.2.2 hp).1).1,(h'.2.2.2 (h.2.2.2 hp).1).2.trans (h.2.2.2 hp).2⟩⟩
theorem Ep {α:Type}(l:List α)(i j:Nat)(x d:α):(l.set j x).getD i d=if i=j∧j<l.length then x else l.getD i d:=by
 by_cases h:i=j
 ·subst h
  by_cases hl:i<l.length
  ·rw [if_pos ⟨rfl,hl⟩,Sx.getD_set_self _ _ _ _ hl]
  rw [if_neg (fun q=>hl q.2),List.set_eq_of_length_le Ad]
 rw [if_neg (fun q=>h q.1),Sx.getD_set_ne _ _ _ _ _ h]
theorem R3 {g:Ah}{r q:Aa}(h:q∈Hj g r):q.stamp.epoch=r.stamp.epoch:=by
 unfold Hj at h
 split at h
 ·simp at h
 rename_i hb
 obtain ⟨k,_,rfl⟩:=List.mem_map.1 h
 simp only
 split
 ·rename_i h7
  have:=Nz (s:=r.stamp) (by simpa [h7] using hb)
  rw [this.1]
 rfl
theorem W4 {g:Ah}{cs:List Ae}{r q:Aa}(h:q∈(Cj g cs r).2.1):q.stamp.epoch=r.stamp.epoch:=by
 unfold Cj at h
 (repeat' split at h)
 ·simp at h
 ·simp at h
 ·exact R3 h
 simp at h
theorem J1 {l:List Aa}{r:Aa}(h:r∈l.drop 1):r∈l:=List.mem_of_mem_drop h
theorem A67 {g:Ah}{w:Ab}{e:Int}(he:0≤e)(h:Qu g w):Gp e w (F9 g w):=by
 obtain ⟨_,hw,hs,hq⟩:=h;have hr0:=hw.1.1 _ (At (d:=default) hq);have hcl:=hw.2.1.2.2
 have hce:(w.queue.getD 0 default).stamp.epoch≠e→Dl (F9 g w) e=Dl w e:=fun hne=>by
  unfold Dl F9
  simp only
  split
  ·rw [Ep,if_neg]
   rintro ⟨hi,_⟩
   have:=hr0.1.2.1
   omega
  rfl
 refine ⟨rfl,rfl,fun hc=>?_,fun hp=>?_⟩
 ·by_cases hne:(w.queue.getD 0 default).stamp.epoch=e
  ·unfold Dl F9 at *
   simp only
   split
   ·rw [hne,Ep]
    split
    ·rfl
    exact hc
   exact hc
  rw [hce hne];exact hc
 obtain ⟨p1,p2,p3⟩:=Fm.1 hp;have hne:(w.queue.getD 0 default).stamp.epoch≠e:=p2 _ (At hq);refine ⟨Fm.2 ⟨p1,fun r hr=>p2 r (J1 hr),fun r hr=>?_⟩,hce hne⟩;rw [W4 hr];exact hne
theorem Zi {w:Ab}{e:Int}(h0:0<w.inputs.length):Gp e w (I7 w):=by
 refine ⟨rfl,rfl,id,fun hp=>⟨?_,rfl⟩⟩
 obtain ⟨p1,p2,p3⟩:=Fm.1 hp;refine Fm.2 ⟨fun r hr=>p1 r (J1 hr),fun r hr=>?_,p3⟩
 rcases List.mem_append.1 hr with hr|hr
 ·exact p2 r hr
 rw [List.mem_singleton.1 hr]
 have:=p1 _ (At (d:=default) h0)
 omega
theorem A3f {w:Ab}{e:Int}:Gp e w (Cd w):=by
 refine ⟨rfl,rfl,id,fun hp=>⟨?_,rfl⟩⟩
 obtain ⟨p1,p2,p3⟩:=Fm.1 hp;exact Fm.2 ⟨p1,p2,fun r hr=>p3 r (J1 hr)⟩
theorem B1c {w:Ab}{e:Int}{r:Aa}(h:r.stamp.epoch≠e):Gp e w (kept w r):=by
 refine ⟨rfl,rfl,id,fun hp=>⟨?_,rfl⟩⟩
 obtain ⟨p1,p2,p3⟩:=Fm.1 hp;refine Fm.2 ⟨p1,fun q hq=>?_,p3⟩
 rcases List.mem_append.1 hq with hq|hq
 ·exact p2 q hq
 rw [List.mem_singleton.1 hq];exact h
theorem A1d {w:Ab}{e:Int}(h:0<w.staged.length):Gp e w (kept (Cd w) (w.staged.getD 0 default)):=by
 refine ⟨rfl,rfl,id,fun hp=>⟨?_,rfl⟩⟩
 obtain ⟨p1,p2,p3⟩:=Fm.1 hp;refine Fm.2 ⟨p1,fun q hq=>?_,fun r hr=>p3 r (J1 hr)⟩
 rcases List.mem_append.1 hq with hq|hq
 ·exact p2 q hq
 rw [List.mem_singleton.1 hq];exact p3 _ (At h)
theorem Zr {w:Ab}{e e' k:Int}(h:0≤e)(h':0≤e')(hne:e'≠e):Gp e w (Fk w e' k):=by
 refine ⟨?_,rfl,id,fun hp=>⟨hp,rfl⟩⟩
 unfold Fc Fk
 simp only
 rw [Ep,if_neg]
 rintro ⟨h1,_⟩
 omega
theorem A5a {w:Ab}{e e':Int}(h:0≤e)(h':0≤e')(hne:e'≠e):Gp e w (Hw w e'):=by
 refine ⟨rfl,?_,id,fun hp=>⟨hp,rfl⟩⟩
 unfold Hg Hw
 simp only
 rw [Ep,if_neg]
 rintro ⟨h1,_⟩
 omega
theorem W8 {w:Ab}{e e':Int}(h:0≤e)(h':0≤e')(hne:e'≠e):Gp e w (G2 w e'):=by
 refine ⟨rfl,?_,id,fun hp=>⟨hp,rfl⟩⟩
 unfold Hg G2
 simp only
 rw [Ep,if_neg]
 rintro ⟨h1,_⟩
 omega
theorem R0 {w:Ab}{e:Int}{d:F6}:Gp e w (Ef w d):=⟨rfl,rfl,id,fun hp=>⟨hp,rfl⟩⟩
def G7 (c:A3) (e:Int):Nat:=(c.links.map fun l=>(Cz l.queue e).length).sum
theorem Tr {c:A3}{k:Int}{l:Ca}{e:Int}(h:0≤k∧k<c.links.length):G7 (Bi c k l) e+(Cz (Ba c k).queue e).length=G7 c e+(Cz l.queue e).length:=
 Sm (fun l:Ca=>(Cz l.queue e).length) c.links k.toNat l Ad
theorem A6b {l:List Aa}{r:Aa}{e:Int}:(Cz (l++[r]) e).length=(Cz l e).length+if r.stamp.epoch=e then 1 else 0:=by
 simp only [Cz,List.filter_append,List.length_append,List.filter_cons,List.filter_nil]
 by_cases h:r.stamp.epoch=e<;>simp [h]
theorem A6a {l:List Aa}{e:Int}(h:0<l.length):(Cz (l.drop 1) e).length+(if (l.getD 0 default).stamp.epoch=e then 1 else 0)=(Cz l e).length:=by
 cases l with
 |nil=>simp at h
 |cons x r=>
  simp only [Cz,List.drop_succ_cons,List.drop_zero,List.getD_cons_zero,List.filter_cons]
  by_cases h:x.stamp.epoch=e<;>simp [h]
def wk (c:A3) (i:Nat):Ab:=c.workers.getD i default
inductive Gz (e:Int) (c c':A3):Prop
 |quiet (j:Nat) (w':Ab) (hj:j<c.workers.length) (hq:Gp e (wk c j) w') (hw:c'.workers=c.workers.set j w') (hf:G7 c' e=G7 c e) (ht:A9 c' e=A9 c e) (hd:Ee (wk c' 0) e=Ee (wk c 0) e)
 |send (j:Nat) (w':Ab) (hj:j<c.workers.length) (hp:Dx (wk c j) e=false) (h1:Fc w' e=Fc (wk c j) e+1) (h2:Hg w' e=Hg (wk c j) e) (h3:Dl w' e=Dl (wk c j) e) (hw:c'.workers=c.workers.set j w')
   (hf:G7 c' e=G7 c e+1) (ht:A9 c' e=A9 c e) (hd:Ee (wk c' 0) e=Ee (wk c 0) e)
 |take (j:Nat) (w':Ab) (hj:j<c.workers.length) (h1:Fc w' e=Fc (wk c j) e-1) (h2:Hg w' e=true) (h3:Dl w' e=Dl (wk c j) e) (hw:c'.workers=c.workers.set j w')
   (hf:G7 c' e+1=G7 c e) (ht:A9 c' e=A9 c e) (hd:Ee (wk c' 0) e=Ee (wk c 0) e)
 |start (hT:Nk c e) (hg:(A9 c e).going=false) (w':Ab) (h1:Fc w' e=Fc (wk c 0) e) (h2:Hg w' e=false) (h3:Dl w' e=Dl (wk c 0) e) (h4:Dx w' e=true) (hw:c'.workers=c.workers.set 0 w')
   (hf:G7 c' e=G7 c e) (ht:A9 c' e=⟨true,(c.workers.length:Int)-1,0,false,Dl (wk c 0) e⟩) (hd:Ee (wk c' 0) e=Ee (wk c 0) e)
 |pass (hT:Nk c e) (hg:(A9 c e).going=true) (j:Nat) (ha:(A9 c e).at_=j) (h0:0<j) (hj:j<c.workers.length) (w':Ab) (h1:Fc w' e=Fc (wk c j) e) (h2:Hg w' e=false) (h3:Dl w' e=Dl (wk c j) e) (h4:Dx w' e=true) (hw:c'.workers=c.workers.set j w')
   (hf:G7 c' e=G7 c e) (ht:A9 c' e=⟨true,(j:Int)-1,(A9 c e).sum+Fc (wk c j) e,(A9 c e).black||Hg (wk c j) e,(A9 c e).capped||Dl (wk c j) e⟩) (hd:Ee (wk c' 0) e=Ee (wk c 0) e)
 |fail (hT:Nk c e) (hg:(A9 c e).going=true) (ha:(A9 c e).at_=0) (hno:¬ ((A9 c e).black=false∧Hg (wk c 0) e=false∧(A9 c e).sum+Fc (wk c 0) e=0)) (hw:c'.workers=c.workers)
   (hf:G7 c' e=G7 c e) (ht:A9 c' e=⟨false,0,(A9 c e).sum,(A9 c e).black,(A9 c e).capped⟩) (hd:Ee (wk c' 0) e=Ee (wk c 0) e)
 |told (hT:Nk c e) (hg:(A9 c e).going=true) (ha:(A9 c e).at_=0) (hb:(A9 c e).black=false) (hb0:Hg (wk c 0) e=false) (hs:(A9 c e).sum+Fc (wk c 0) e=0) (w':Ab) (hq:Gp e (wk c 0) w') (hw:c'.workers=c.workers.set 0 w')
   (hf:G7 c' e=G7 c e) (ht:A9 c' e=⟨false,0,(A9 c e).sum,(A9 c e).black,(A9 c e).capped⟩) (hd:Ee (wk c' 0) e=(⟨e,(A9 c e).capped||Dl (wk c 0) e⟩,true))
def B6s (c:A3):Prop:=(∀x∈c.news,Cv (wk c 0) x.epoch=true)∧∀i,i<c.workers.length→∀e,Cv (wk c i) e=true→Cv (wk c 0) e=true
theorem H4 {c c':A3}{j i:Nat}{w:Ab}(h:c'.workers=c.workers.set j w)(hj:j<c.workers.length):wk c' i=if i=j then w else wk c i:=by
 unfold wk;rw [h,Ep]
 by_cases e:i=j
 ·rw [if_pos ⟨e,hj⟩,if_pos e]
 rw [if_neg (fun q=>e q.1),if_neg e]
theorem P3 {c:A3}{w:Int}:A8 c w=wk c w.toNat:=rfl
theorem A5i {w w':Ab}(h:w'.dones=w.dones)(e:Int):Ee w' e=Ee w e:=by unfold Ee Cv;rw [h]
theorem V4 {w w':Ab}(h:w'.dones=w.dones)(e:Int):Cv w' e=Cv w e:=by unfold Cv;rw [h]
theorem Hi {c c':A3}{j:Nat}{w:Ab}{e:Int}(h:c'.workers=c.workers.set j w)(hj:j<c.workers.length)(hd:w.dones=(wk c j).dones):Ee (wk c' 0) e=Ee (wk c 0) e:=by
 rw [H4 h hj]
 split
 ·rename_i e0;subst e0;exact A5i hd e
 rfl
theorem Gz.same {e:Int}{c:A3}(h:B7 c):Gz e c c:=by
 have hl:0<c.workers.length:=by have:=h.1.2.1;have:=h.1.1.2.1;omega
 refine .quiet 0 (wk c 0) hl (Gp.refl e _) ?_ rfl rfl rfl
 apply List.ext_getElem?
 intro i;rw [List.getElem?_set]
 split
 ·rename_i h0;subst h0;rw [List.getElem?_eq_getElem hl];simp [wk,List.getD,hl]
 rfl
theorem C4r {c:A3}{w e:Int}(h:B7 c)(he:0≤e):Gz e c (Dk c w).1:=by
 unfold Dk
 split
 ·rename_i hW
  have hj:w.toNat<c.workers.length:=by have:=hW.2;omega
  unfold Fi
  split
  ·rename_i hP
   exact .quiet w.toNat _ hj (A67 he hP) rfl rfl rfl (Hi rfl hj rfl)
  exact .quiet w.toNat (wk c w.toNat) hj (Gp.refl e _) rfl rfl rfl (Hi rfl hj rfl)
 exact Gz.same h
theorem C1j {c:A3}{w e:Int}(h:B7 c):Gz e c (D9 c w).1:=by
 unfold D9
 split
 ·rename_i hW
  have hj:w.toNat<c.workers.length:=by have:=hW.2;omega
  unfold Df
  split
  ·rename_i hP
   exact .quiet w.toNat _ hj (Zi hP.2.2.2.2) rfl rfl rfl (Hi rfl hj rfl)
  exact .quiet w.toNat (wk c w.toNat) hj (Gp.refl e _) rfl rfl rfl (Hi rfl hj rfl)
 exact Gz.same h
theorem C33 {c:A3}{w e:Int}(h:B7 c)(he:0≤e):Gz e c (C7 c w).1:=by
 unfold C7
 split
 ·rename_i hm
  obtain ⟨hW,hs⟩:=hm;have hj:w.toNat<c.workers.length:=by have:=hW.2;omega
  split
  ·exact .quiet w.toNat _ hj (A1d hs) rfl rfl rfl (Hi rfl hj rfl)
  split
  ·rename_i hne hsend
   have hfo:=(N1 hW hs).1;have hb:0≤w∧w<c.graph.workers:=by have:=hW.1.1.2.1;exact ⟨hW.2.1,by have:=hW.2.2;omega⟩
   have hk:=(Ge hW.1 hb (Ox hW hs)).1;have hfl:=Tr (l:=(Cf (Ba c (Ao c w (B8 c w))) (B1 c w)).1) (e:=e) hk
   have hq:(Cf (Ba c (Ao c w (B8 c w))) (B1 c w)).1.queue=(Ba c (Ao c w (B8 c w))).queue++[B1 c w]:=by
    unfold Cf at hsend ⊢
    split at hsend
    ·rename_i hp;rw [if_pos hp]
    cases hsend
   rw [hq,A6b] at hfl;have hwo:=Mc h hW.2;have hsl:=hwo.2.1.1;rw [Rt (Qh hwo) hfo.2.1]
   by_cases hre:(B1 c w).stamp.epoch=e
   ·rw [if_pos hre] at hfl
    refine .send w.toNat (Fk (Cd (A8 c w)) (B1 c w).stamp.epoch 1) hj ?_ ?_ rfl rfl rfl ?_ rfl (Hi rfl hj rfl)
    ·cases hp:Dx (wk c w.toNat) e with
     |false=>rfl
     |true=>exact absurd hre ((Fm.1 hp).2.2 _ (At hs))
    ·unfold Fc Fk
     simp only
     rw [hre,Ep,if_pos ⟨rfl,by have:=hfo.2.1;show e.toNat<(A8 c w).sums.length;omega⟩]
     rfl
    show G7 (Bi c _ _) e=_
    omega
   rw [if_neg hre] at hfl;refine .quiet w.toNat _ hj (A3f.trans (Zr he hfo.2.1.1 hre)) rfl ?_ rfl (Hi rfl hj rfl)
   show G7 (Bi c _ _) e=_
   omega
  exact Gz.same h
 exact Gz.same h
theorem C4i {c:A3}{f t e:Int}(h:B7 c)(he:0≤e):Gz e c (Ct c f t).1:=by
 unfold Ct
 split
 ·rename_i hm
  obtain ⟨hL,hk⟩:=hm;have ht:0≤t∧t<c.workers.length:=by have:=h.1.2.1;have:=hL.2.2.2;omega
  have hj:t.toNat<c.workers.length:=by omega
  have hto:=(W6 hL hk).1;have hkb:=(Ge hL.1 hL.2.2.1 hL.2.2.2).1;have hfl:=Tr (l:=(Bc (Ba c (Ao c f t))).1) (e:=e) hkb
  have hq:(Bc (Ba c (Ao c f t))).1.queue=(Ba c (Ao c f t)).queue.drop 1∧(Bc (Ba c (Ao c f t))).2.1=(Ba c (Ao c f t)).queue.getD 0 default∧0<(Ba c (Ao c f t)).queue.length:=by
   unfold Bc at hk ⊢
   split at hk
   ·rename_i hp;rw [if_pos hp];exact ⟨rfl,rfl,hp.2⟩
   cases hk
  have hdr:=A6a (e:=e) hq.2.2;rw [hq.1] at hfl;rw [←hq.2.1] at hdr;have hwo:=Mc h ht;obtain ⟨hsl1,hsl2,hsl3⟩:=hwo.2.1;have hre:=Rn hwo (r:=Hq c f t) hto.2.1
  show Gz e c (Av _ t (D0 (A8 c t) (Hq c f t)))
  rw [hre]
  by_cases hee:(Hq c f t).stamp.epoch=e
  ·have hee':(Bc (Ba c (Ao c f t))).2.1.stamp.epoch=e:=hee
   rw [if_pos hee'] at hdr;have hew:=hto.2.1;refine .take t.toNat (Hw (Fk (kept (A8 c t) (Hq c f t)) (Hq c f t).stamp.epoch (-1)) (Hq c f t).stamp.epoch) hj ?_ ?_ rfl rfl ?_ rfl (Hi rfl hj rfl)
   ·unfold Fc Hw Fk kept
    simp only
    rw [hee,Ep,if_pos ⟨rfl,by show e.toNat<(A8 c t).sums.length;omega⟩]
    rfl
   ·unfold Hg Hw Fk kept
    simp only
    rw [hee,Ep,if_pos ⟨rfl,by show e.toNat<(A8 c t).black.length;omega⟩]
   show G7 (Bi c _ _) e+1=_
   omega
  have hee':¬ (Bc (Ba c (Ao c f t))).2.1.stamp.epoch=e:=hee;rw [if_neg hee'] at hdr;refine .quiet t.toNat _ hj (((B1c hee).trans (Zr he hto.2.1.1 hee)).trans (A5a he hto.2.1.1 hee)) rfl ?_ rfl (Hi rfl hj rfl)
  show G7 (Bi c _ _) e=_
  omega
 exact Gz.same h
theorem B7m {c:A3}{f t e:Int}(h:B7 c):Gz e c (D4 c f t).1:=by
 unfold D4
 split
 ·rename_i hL
  have hl:0<c.workers.length:=by have:=h.1.2.1;have:=h.1.1.2.1;omega
  have hkb:=(Ge h hL.2.2.1 hL.2.2.2).1;have hfl:=Tr (l:=(Ce (Ba c (Ao c f t))).1) (e:=e) hkb
  have hq:(Ce (Ba c (Ao c f t))).1.queue=(Ba c (Ao c f t)).queue:=by
   unfold Ce
   split<;>rfl
  rw [hq] at hfl;refine .quiet 0 (wk c 0) hl (Gp.refl e _) ?_ ?_ rfl rfl
  ·apply List.ext_getElem?
   intro i;rw [List.getElem?_set]
   split
   ·rename_i h0;subst h0;simp only [Bi];rw [List.getElem?_eq_getElem hl];simp [wk,List.getD,hl]
   rfl
  show G7 (Bi c _ _) e=_
  omega
 exact Gz.same h
theorem C3z {c:A3}{w e:Int}(h:B7 c)(hN:B6s c):Gz e c (Dj c w).1:=by
 unfold Dj
 split
 ·rename_i hn
  obtain ⟨m1,m2⟩:=Sa hn.1 hn.2;have hNw:=hn.1.2.2.2.2 _ m1;have hw:0≤w∧w<c.workers.length:=by have:=hn.1.1.2.1;have:=hNw.1;omega
  have hl:0<c.workers.length:=by omega
  split
  ·refine .quiet 0 (wk c 0) hl (Gp.refl e _) ?_ rfl rfl rfl
   apply List.ext_getElem?
   intro i;rw [List.getElem?_set]
   split
   ·rename_i h0;subst h0;simp only [Jd];rw [List.getElem?_eq_getElem hl];simp [wk,List.getD,hl]
   rfl
  rename_i hd
  have hj:w.toNat<c.workers.length:=by omega
  refine .quiet w.toNat _ hj (R0 (d:=⟨(Eg c w).epoch,(Eg c w).capped⟩)) rfl rfl rfl ?_
  have hne:w.toNat≠0:=fun e0=>by
   have:=hN.1 _ m1
   rw [P3,e0] at hd;exact hd this
  rw [H4 (c:=c) (c':=Av (Jd c w) w (Ef (A8 c w) ⟨(Eg c w).epoch,(Eg c w).capped⟩)) rfl hj,if_neg (Ne.symm hne)]
 exact Gz.same h
theorem K6 {c:A3}{e e':Int}{t:Fs}(he:0≤e)(he':0≤e'):A9 (De c e' t) e=if e=e'∧e'.toNat<c.tokens.length then t else A9 c e:=by
 unfold A9 De
 simp only
 rw [Ep]
 by_cases h:e=e'
 ·subst h;simp
 rw [if_neg (fun q=>h (by have:=q.1;omega)),if_neg (fun q=>h q.1)]
theorem So {c:A3}{j e:Int}{w:Ab}:A9 (Av c j w) e=A9 c e:=rfl
theorem B0u {w:Ab}{e:Int}{b:Bool}(h:Cv w e=false):Ee (Ef w ⟨e,b⟩) e=(⟨e,b⟩,true):=by
 have h1:Cv (Ef w ⟨e,b⟩) e=true:=by simp [Cv,Ef]
 have h2:∀(l:List F6),(l.any fun d=>d.epoch==e)=false→Fa (fun d:F6=>d.epoch==e) (l++[⟨e,b⟩])=l.length:=by
  intro l
  induction l with
  |nil=>intro _;simp [Fa]
  |cons x r ih=>
   intro hx;simp only [List.any_cons,Bool.or_eq_false_iff] at hx;simp only [List.cons_append,Fa,hx.1,Bool.false_eq_true,if_false,List.length_cons];rw [ih hx.2]
 unfold Ee;rw [if_pos h1];simp only [Ef];rw [h2 w.dones h]
 simp [List.getD]
theorem A5j {w:Ab}{e e':Int}{b:Bool}(hne:e'≠e):Ee (Ef w ⟨e',b⟩) e=Ee w e:=by
 have h2:∀(l:List F6),((l++[(⟨e',b⟩:F6)]).any fun d=>d.epoch==e)=l.any fun d=>d.epoch==e:=by
  intro l
  simp [hne]
 have h3:∀(l:List F6),(l.any fun d=>d.epoch==e)=true→Fa (fun d:F6=>d.epoch==e) (l++[⟨e',b⟩])=Fa (fun d:F6=>d.epoch==e) l∧Fa (fun d:F6=>d.epoch==e) l<l.length:=by
  intro l
  induction l with
  |nil=>intro h;simp at h
  |cons x r ih=>
   intro hx;simp only [List.cons_append,Fa]
   by_cases hxe:(x.epoch==e)=true
   ·simp [hxe]
   simp only [List.any_cons,Bool.or_eq_true] at hx
   have:=ih (hx.resolve_left hxe)
   rw [if_neg hxe,if_neg hxe];simp only [List.length_cons];omega
 unfold Ee Cv Ef
 simp only
 rw [h2]
 split
 ·rename_i hd
  obtain ⟨q1,q2⟩:=h3 _ hd;rw [q1]
  congr 1
  simp only [List.getD];rw [List.getElem?_append_left q2]
 rfl
theorem Vi {w w':Ab}{e:Int}(h1:w'.inputs=w.inputs)(h2:w'.queue=w.queue)(h3:w'.staged=w.staged):Dx w' e=Dx w e:=by
 unfold Dx U2 Ue;rw [h1,h2,h3]
theorem C2v {c:A3}{e e':Int}(h:B7 c)(he:0≤e∧e≤3):Gz e c (Ci c e').1:=by
 unfold Ci
 split
 ·rename_i hT
  obtain ⟨_,he',hD,hP⟩:=hT;have htl:=h.1.2.2.2;have hTP:Lt c.graph.workers (A9 c e'):=h.2.2.2.1 _ (At (d:=default) (show e'.toNat<c.tokens.length by omega))
  have hn1:=h.1.1.2.1;have hwl:=h.1.2.1;have hat:0≤(A9 c e').at_∧(A9 c e').at_<c.workers.length:=by have:=hTP.1;omega
  have hj:(A9 c e').at_.toNat<c.workers.length:=by omega
  obtain ⟨hwo1,hwo2,hwo3⟩:=(Mc h hat).2.1
  have hwb:(G2 (A8 c (A9 c e').at_) e').black.getD e'.toNat default=false:=by
   unfold G2
   simp only
   rw [Ep,if_pos ⟨rfl,by omega⟩]
  simp only
  split
  ·rename_i hg
   have hA:=hTP.2.1 hg
   by_cases hee:e'=e
   ·subst hee
    refine .start ⟨h,he',hD,hP⟩ hg (G2 (A8 c (A9 c e').at_) e') (by rw [hA];rfl) hwb (by rw [hA];rfl) ?_ (by rw [hA];rfl) rfl ?_ (Hi (j:=(A9 c e').at_.toNat) rfl hj rfl)
    ·exact (Vi (w:=A8 c (A9 c e').at_) (w':=G2 (A8 c (A9 c e').at_) e') rfl rfl rfl).trans hP
    rw [So,K6 he.1 he.1,if_pos ⟨rfl,by omega⟩,hA];rfl
   refine .quiet (A9 c e').at_.toNat _ hj (W8 he.1 he'.1 hee) rfl rfl ?_ (Hi (j:=(A9 c e').at_.toNat) rfl hj rfl);rw [So,K6 he.1 he'.1,if_neg (fun q=>hee q.1.symm)]
  rename_i hg
  have hg:(A9 c e').going=true:=by simpa using hg
  split
  ·rename_i ha
   split
   ·by_cases hee:e'=e
    ·subst hee
     have hca:(((A9 c e').at_.toNat:Nat):Int)=(A9 c e').at_:=by omega
     refine .pass ⟨h,he',hD,hP⟩ hg (A9 c e').at_.toNat Ad Ad hj (G2 (A8 c (A9 c e').at_) e') rfl hwb rfl ?_ rfl rfl ?_ (Hi (j:=(A9 c e').at_.toNat) rfl hj rfl)
     ·exact (Vi (w:=A8 c (A9 c e').at_) (w':=G2 (A8 c (A9 c e').at_) e') rfl rfl rfl).trans hP
     rw [So,K6 he.1 he.1,if_pos ⟨rfl,by omega⟩,hca,hg];rfl
    refine .quiet (A9 c e').at_.toNat _ hj (W8 he.1 he'.1 hee) rfl rfl ?_ (Hi (j:=(A9 c e').at_.toNat) rfl hj rfl);rw [So,K6 he.1 he'.1,if_neg (fun q=>hee q.1.symm)]
   exact Gz.same h
  rename_i ha
  have hA:(A9 c e').at_=0:=by omega
  have hl:0<c.workers.length:=by omega
  unfold Gw
  split
  ·rename_i hyes
   have hD':Cv (A8 c (A9 c e').at_) e'=false:=by rw [hA];exact hD
   by_cases hee:e'=e
   ·subst hee
    have hwk:A8 c (A9 c e').at_=wk c 0:=by rw [hA];rfl
    rw [hwk] at hyes hD' ⊢;refine .told ⟨h,he',hD,hP⟩ hg hA hyes.1 hyes.2.1 hyes.2.2 _ (R0 (d:=⟨e',(A9 c e').capped||(wk c 0).caps.getD e'.toNat default⟩)) rfl rfl ?_ ?_
    ·show A9 (De c e' _) e'=_
     rw [K6 he.1 he.1,if_pos ⟨rfl,by omega⟩,hA]
    rw [H4 (c:=c) (c':=Jl (Av (De c e' _) 0 (Ef (wk c 0) ⟨e',(A9 c e').capped||(wk c 0).caps.getD e'.toNat default⟩)) _) (j:=0) rfl hl,if_pos rfl];exact B0u hD'
   have hwk:A8 c (A9 c e').at_=wk c 0:=by rw [hA];rfl
   rw [hwk];refine .quiet 0 _ hl (R0 (d:=⟨e',(A9 c e').capped||(wk c 0).caps.getD e'.toNat default⟩)) rfl rfl ?_ ?_
   ·show A9 (De c e' _) e=_
    rw [K6 he.1 he'.1,if_neg (fun q=>hee q.1.symm)]
   rw [H4 (c:=c) (c':=Jl (Av (De c e' _) 0 (Ef (wk c 0) ⟨e',(A9 c e').capped||(wk c 0).caps.getD e'.toNat default⟩)) _) (j:=0) rfl hl,if_pos rfl];exact A5j hee
  rename_i hno
  by_cases hee:e'=e
  ·subst hee
   refine .fail ⟨h,he',hD,hP⟩ hg hA (fun q=>hno (by rw [hA];exact q)) rfl rfl ?_ rfl;rw [K6 he.1 he.1,if_pos ⟨rfl,by omega⟩,hA]
  have:=Gz.same (e:=e) h
  refine .quiet 0 (wk c 0) hl (Gp.refl e _) ?_ rfl ?_ rfl
  ·apply List.ext_getElem?
   intro i;rw [List.getElem?_set]
   split
   ·rename_i h0;subst h0;simp only [De];rw [List.getElem?_eq_getElem hl];simp [wk,List.getD,hl]
   rfl
  rw [K6 he.1 he'.1,if_neg (fun q=>hee q.1.symm)]
 exact Gz.same h
theorem B2d {c:A3}{p:D7}{e:Int}(h:B7 c)(hN:B6s c)(he:0≤e∧e≤3):Gz e c (Aq c p).1:=by
 unfold Aq
 split
 ·exact C4r h he.1
 split
 ·exact C1j h
 split
 ·exact C33 h he.1
 split
 ·exact C4i h he.1
 split
 ·exact B7m h
 split
 ·exact C2v h he
 split
 ·exact C3z h hN
 exact Gz.same h
def I3 (c:A3) (e:Int) (k:Nat):Int:=((c.workers.take k).map fun w=>Fc w e).sum
theorem O3 {c:A3}{e:Int}{k:Nat}(h:k<c.workers.length):I3 c e (k+1)=I3 c e k+Fc (wk c k) e:=by
 unfold I3;rw [List.take_add_one,List.map_append,List.sum_append]
 simp [wk,List.getD,h]
theorem Yg {c:A3}{e:Int}:I3 c e 0=0:=by simp [I3]
theorem Jt {c c':A3}{e:Int}{j:Nat}{w:Ab}(h:c'.workers=c.workers.set j w)(hj:j<c.workers.length):∀k,k≤c.workers.length→I3 c' e k=I3 c e k+if j<k then Fc w e-Fc (wk c j) e else 0:=by
 intro k
 induction k with
 |zero=>intro _;simp [Yg]
 |succ k ih=>
  intro hk;have hlen:c'.workers.length=c.workers.length:=by rw [h,List.length_set]
  rw [O3 Ad,O3 Ad,ih Ad,H4 h hj]
  by_cases h1:k=j
  ·subst h1
   rw [if_pos rfl,if_neg (Nat.lt_irrefl _),if_pos (Nat.lt_succ_self _)];omega
  rw [if_neg h1]
  by_cases h2:j<k
  ·rw [if_pos h2,if_pos Ad];omega
  rw [if_neg h2,if_neg Ad];omega
theorem Hv {c c':A3}{e:Int}{j:Nat}{w:Ab}(h:c'.workers=c.workers.set j w)(hj:j<c.workers.length)(hs:Fc w e=Fc (wk c j) e){k:Nat}(hk:k≤c.workers.length):I3 c' e k=I3 c e k:=by
 rw [Jt h hj k hk,hs]
 split<;>omega
theorem B6g {c c':A3}{e:Int}(h:c'.workers=c.workers)(k:Nat):I3 c' e k=I3 c e k:=by unfold I3;rw [h]
def Qt (c:A3) (e:Int):Prop:=I3 c e c.workers.length=G7 c e
theorem Gz.len {e:Int}{c c':A3}(h:Gz e c c'):c'.workers.length=c.workers.length:=by
 cases h<;>(rename_i hw _ _ _;first|(rw [hw,List.length_set];done)|(rw [hw];done))
theorem Qt.step {e:Int}{c c':A3}(h:Gz e c c')(hl:0<c.workers.length)(hs:Qt c e):Qt c' e:=by
 have hlen:=h.len;unfold Qt at *;rw [hlen]
 cases h with
 |quiet j w' hj hq hw hf ht hd=>rw [Hv hw hj hq.1 (Nat.le_refl _),hf];exact hs
 |send j w' hj hp h1 h2 h3 hw hf ht hd=>rw [Jt hw hj _ (Nat.le_refl _),if_pos hj,hf,h1];omega
 |take j w' hj h1 h2 h3 hw hf ht hd=>rw [Jt hw hj _ (Nat.le_refl _),if_pos hj,h1];omega
 |start hT hg w' h1 h2 h3 h4 hw hf ht hd=>rw [Hv hw hl h1 (Nat.le_refl _),hf];exact hs
 |pass hT hg j ha h0 hj w' h1 h2 h3 h4 hw hf ht hd=>rw [Hv hw hj h1 (Nat.le_refl _),hf];exact hs
 |fail hT hg ha hno hw hf ht hd=>rw [B6g hw,hf];exact hs
 |told hT hg ha hb hb0 hs0 w' hq hw hf ht hd=>rw [Hv hw hl hq.1 (Nat.le_refl _),hf];exact hs
def Vis (c:A3) (e:Int) (t:Fs):Prop:=∀i:Nat,t.at_<(i:Int)→i<c.workers.length→Dx (wk c i) e=true∧(Dl (wk c i) e=true→t.capped=true)
def Wf (c:A3) (e:Int):Prop:=(A9 c e).going=true→
 (A9 c e).black=true∨(∃i:Nat,(i:Int)≤(A9 c e).at_∧i<c.workers.length∧Hg (wk c i) e=true)∨0<(A9 c e).sum+I3 c e ((A9 c e).at_.toNat+1)∨
  (Vis c e (A9 c e)∧(A9 c e).sum+I3 c e ((A9 c e).at_.toNat+1)=I3 c e c.workers.length)
theorem Wf.step {e:Int}{c c':A3}(h:Gz e c c')(hl:0<c.workers.length)(hat:0≤(A9 c e).at_∧(A9 c e).at_<c.workers.length)(hs:Qt c e)(hS:Wf c e):Wf c' e:=by
 have hlen:=h.len;intro hg'
 cases h with
 |quiet j w' hj hq hw hf ht hd=>
  rw [ht] at hg' ⊢;rw [Hv hw hj hq.1 Ad,hlen,Hv hw hj hq.1 (Nat.le_refl _)]
  rcases hS hg' with h|⟨i,h1,h2,h3⟩|h|⟨h1,h2⟩
  ·exact .inl h
  ·refine .inr (.inl ⟨i,h1,h2,?_⟩)
   rw [H4 hw hj]
   split
   ·rename_i e0;subst e0;rw [hq.2.1];exact h3
   exact h3
  ·exact .inr (.inr (.inl h))
  refine .inr (.inr (.inr ⟨fun i hi hil=>?_,h2⟩));obtain ⟨p1,p2⟩:=h1 i hi Ad;rw [H4 hw hj]
  split
  ·rename_i e0
   subst e0;obtain ⟨q1,q2⟩:=hq.2.2.2 p1;exact ⟨q1,by rw [q2];exact p2⟩
  exact ⟨p1,p2⟩
 |send j w' hj hp h1 h2 h3 hw hf ht hd=>
  rw [ht] at hg' ⊢;rw [Jt hw hj _ Ad,hlen,Jt hw hj _ (Nat.le_refl _),if_pos hj,h1]
  rcases hS hg' with h|⟨i,g1,g2,g3⟩|h|⟨g1,g2⟩
  ·exact .inl h
  ·refine .inr (.inl ⟨i,g1,g2,?_⟩)
   rw [H4 hw hj]
   split
   ·rename_i e0;subst e0;rw [h2];exact g3
   exact g3
  ·refine .inr (.inr (.inl ?_))
   split<;>omega
  by_cases hja:(A9 c e).at_<(j:Int)
  ·have:=(g1 j hja hj).1
   rw [hp] at this
   cases this
  refine .inr (.inr (.inr ⟨fun i hi hil=>?_,?_⟩))
  ·have hne:i≠j:=fun e0=>hja Ad
   rw [H4 hw hj,if_neg hne];exact g1 i hi Ad
  rw [if_pos Ad];omega
 |take j w' hj h1 h2 h3 hw hf ht hd=>
  rw [ht] at hg' ⊢;rw [Jt hw hj _ Ad,hlen,Jt hw hj _ (Nat.le_refl _),if_pos hj,h1]
  by_cases hja:(A9 c e).at_<(j:Int)
  ·rw [if_neg Ad]
   rcases hS hg' with h|⟨i,g1,g2,g3⟩|h|⟨g1,g2⟩
   ·exact .inl h
   ·refine .inr (.inl ⟨i,g1,g2,?_⟩)
    rw [H4 hw hj,if_neg Ad];exact g3
   ·exact .inr (.inr (.inl Ad))
   refine .inr (.inr (.inl ?_));unfold Qt at hs;omega
  refine .inr (.inl ⟨j,by omega,hj,?_⟩);rw [H4 hw hj,if_pos rfl];exact h2
 |start hT hg w' h1 h2 h3 h4 hw hf ht hd=>
  rw [ht];refine .inr (.inr (.inr ⟨fun i hi hil=>?_,?_⟩))
  ·simp only at hi
   omega
  simp only
  rw [hlen,show ((c.workers.length:Int)-1).toNat+1=c.workers.length by omega]
  omega
 |pass hT hg j ha h0 hj w' h1 h2 h3 h4 hw hf ht hd=>
  rw [ht]
  simp only
  have ej:((j:Int)-1).toNat+1=j:=by omega
  have ea:(A9 c e).at_.toNat+1=j+1:=by omega
  have hsS:=hS hg;rw [ea,O3 hj,ha] at hsS;rw [hlen,ej,Hv hw hj h1 Ad,Hv hw hj h1 (Nat.le_refl _)]
  rcases hsS with h|⟨i,g1,g2,g3⟩|h|⟨g1,g2⟩
  ·exact .inl (by rw [h];rfl)
  ·by_cases hij:i=j
   ·subst hij
    exact .inl (by rw [g3];simp)
   refine .inr (.inl ⟨i,by omega,g2,?_⟩);rw [H4 hw hj,if_neg hij];exact g3
  ·exact .inr (.inr (.inl Ad))
  refine .inr (.inr (.inr ⟨fun i hi hil=>?_,by omega⟩))
  simp only at hi
  rw [H4 hw hj]
  split
  ·rename_i e0
   refine ⟨h4,fun hc=>?_⟩;rw [h3] at hc
   simp [hc]
  rename_i hne
  obtain ⟨p1,p2⟩:=g1 i (by rw [ha];omega) Ad;exact ⟨p1,fun hc=>by simp [p2 hc]⟩
 |fail hT hg ha hno hw hf ht hd=>rw [ht] at hg';cases hg'
 |told hT hg ha hb hb0 hs0 w' hq hw hf ht hd=>rw [ht] at hg';cases hg'
def A7b (c:A3) (e:Int):Prop:=(Ee (wk c 0) e).2=true→(∀i,i<c.workers.length→Dx (wk c i) e=true)∧G7 c e=0∧((Ee (wk c 0) e).1.capped=false→∀i,i<c.workers.length→Dl (wk c i) e=false)
theorem Ph {w:Ab}{e:Int}:(Ee w e).2=Cv w e:=by
 unfold Ee
 split
 ·rename_i h;rw [h]
 rename_i h;simpa using h
theorem A7b.step {e:Int}{c c':A3}(h:Gz e c c')(hl:0<c.workers.length)(hs:Qt c e)(hS:Wf c e)(hD:A7b c e):A7b c' e:=by
 have hlen:=h.len;intro hd';rw [hlen]
 cases h with
 |quiet j w' hj hq hw hf ht hd=>
  rw [hd] at hd' ⊢;obtain ⟨d1,d2,d3⟩:=hD hd';rw [hf];refine ⟨fun i hi=>?_,d2,fun hc i hi=>?_⟩
  ·rw [H4 hw hj]
   split
   ·rename_i e0;subst e0;exact (hq.2.2.2 (d1 i hi)).1
   exact d1 i hi
  rw [H4 hw hj]
  split
  ·rename_i e0;subst e0;rw [(hq.2.2.2 (d1 i hi)).2];exact d3 hc i hi
  exact d3 hc i hi
 |send j w' hj hp h1 h2 h3 hw hf ht hd=>
  rw [hd] at hd'
  have:=(hD hd').1 j hj
  rw [hp] at this
  cases this
 |take j w' hj h1 h2 h3 hw hf ht hd=>
  rw [hd] at hd'
  have:=(hD hd').2.1
  omega
 |start hT hg w' h1 h2 h3 h4 hw hf ht hd=>
  rw [hd,Ph] at hd'
  have:=hT.2.2.1
  rw [P3] at this;rw [show (0:Int).toNat=0 from rfl,hd'] at this
  cases this
 |pass hT hg j ha h0 hj w' h1 h2 h3 h4 hw hf ht hd=>
  rw [hd,Ph] at hd'
  have:=hT.2.2.1
  rw [P3,show (0:Int).toNat=0 from rfl,hd'] at this
  cases this
 |fail hT hg ha hno hw hf ht hd=>
  rw [hd,Ph] at hd'
  have:=hT.2.2.1
  rw [P3,show (0:Int).toNat=0 from rfl,hd'] at this
  cases this
 |told hT hg ha hb hb0 hs0 w' hq hw hf ht hd=>
  rw [hd,hf]
  have hp0:Dx (wk c 0) e=true:=by
   have:=hT.2.2.2
   rw [ha] at this;exact this
  have key:=hS hg;rw [ha,show (0:Int).toNat+1=0+1 from rfl,O3 hl,Yg,hb] at key
  have hP:Vis c e (A9 c e)∧(A9 c e).sum+(0+Fc (wk c 0) e)=I3 c e c.workers.length:=by
   rcases key with h|⟨i,g1,g2,g3⟩|h|h
   ·cases h
   ·obtain rfl:i=0:=by omega
    rw [hb0] at g3
    cases g3
   ·omega
   exact h
  obtain ⟨v1,v2⟩:=hP;unfold Qt at hs
  have hpas:∀i,i<c.workers.length→Dx (wk c i) e=true:=fun i hi=>by
   by_cases h0:i=0
   ·subst h0;exact hp0
   exact (v1 i (by rw [ha];omega) hi).1
  refine ⟨fun i hi=>?_,by omega,fun hc i hi=>?_⟩
  ·rw [H4 hw hl]
   split
   ·rename_i e0;subst e0;exact (hq.2.2.2 (hpas 0 hl)).1
   exact hpas i hi
  simp only [Bool.or_eq_false_iff] at hc;rw [H4 hw hl]
  split
  ·rename_i e0;subst e0;rw [(hq.2.2.2 (hpas 0 hl)).2];exact hc.2
  rename_i hne
  have:=(v1 i (by rw [ha];omega) hi).2
  cases hcap:Dl (wk c i) e with
  |false=>rfl
  |true=>rw [this hcap] at hc;cases hc.1
theorem Sf {c:A3}{p:D7}(h:¬ B7 c):Aq c p=(c,false):=by
 unfold Aq
 repeat' split
 ·unfold Dk;rw [if_neg (fun q=>h q.1)]
 ·unfold D9;rw [if_neg (fun q=>h q.1)]
 ·unfold C7;rw [if_neg (fun q=>h q.1.1)]
 ·unfold Ct;rw [if_neg (fun q=>h q.1.1)]
 ·unfold D4;rw [if_neg (fun q=>h q.1)]
 ·exact Qg (fun q=>h q.1)
 ·unfold Dj;rw [if_neg (fun q=>h q.1)]
 rfl
theorem Js {c d:A3}(h:d.links=c.links)(hg:Kw c):Kw d:=fun l hl=>hg l (h▸hl)
theorem Qo (c:A3)(e:Int):(Ci c e).1.links=c.links:=by
 unfold Ci
 dsimp only
 repeat' split
 all_goals first
  |rfl
  |(unfold Gw;split<;>rfl)
theorem B49 {c:A3}{p:D7}(hg:Kw c):Kw (Aq c p).1:=by
 by_cases h:B7 c
 ·unfold Aq
  split
  ·unfold Dk;split<;>exact Js rfl hg
  split
  ·unfold D9;split<;>exact Js rfl hg
  split
  ·unfold C7
   split
   ·rename_i hM
    split
    ·exact Js rfl hg
    rename_i hne
    split
    ·refine Js ?_ (A5r (Tx hM.1 hM.2 hne))
     rfl
    exact hg
   exact hg
  split
  ·unfold Ct
   split
   ·rename_i hT
    refine Js ?_ (A5r (Uc hT.1));rfl
   exact hg
  split
  ·exact A5r (T3 h)
  split
  ·exact Js (Qo c p.a) hg
  split
  ·unfold Dj
   split
   ·split<;>exact Js rfl hg
   exact hg
  exact hg
 rw [Sf h];exact hg
theorem X8 {c:A3}{l:List D7}{k:Nat}(hk:k<l.length):Bb c (l.take (k+1))=G8 (Bb c (l.take k)) (l.getD k default):=by
 unfold Bb
 have:l.take (k+1)=l.take k++[l.getD k default]:=by
  rw [List.take_succ_eq_append_getElem hk]
  simp [List.getD,hk]
 rw [this,List.foldl_append];rfl
theorem C2o (l:List D7):∀s:A3×List Bool,(l.foldl G8 s).1.w≤s.1.w+4 * l.length:=by
 induction l with
 |nil=>intro s;simp
 |cons p r ih=>
  intro s;have h1:=ih (G8 s p);have h2:=B2e (c:=s.1) (p:=p);simp only [List.foldl_cons,List.length_cons];have e:(G8 s p).1=(Aq s.1 p).1:=rfl;rw [e] at h1;omega
theorem X9 {c:A3}{l:List D7}:(Bb c l).1.w≤c.w+4 * l.length:=C2o l (c,[])
theorem B50 (l:List D7):∀s:A3×List Bool,Kw s.1→Kw (l.foldl G8 s).1:=by
 induction l with
 |nil=>intro s h;exact h
 |cons p r ih=>intro s h;exact ih (G8 s p) (B49 h)
theorem A9l {c:A3}{l:List D7}(h:Kw c):Kw (Bb c l).1:=B50 l (c,[]) h
theorem B51 (l:List D7):∀s:A3×List Bool,(l.foldl G8 s).2.length=s.2.length+l.length:=by
 induction l with
 |nil=>intro s;simp
 |cons p r ih=>
  intro s;have h1:=ih (G8 s p);simp only [List.foldl_cons,List.length_cons];rw [h1];simp only [G8,List.length_append,List.length_cons,List.length_nil];omega
theorem Vs {c:A3}{l:List D7}:(Bb c l).2.length=l.length:=by
 have:=B51 l (c,[])
 simpa [Bb] using this
theorem B9n (c:A3):H1 c≤4:=by
 have:=Fe c.graph.workers 0 4 B5
 unfold H1;omega
theorem Oi (c:A3):(Mh (H1 c)).length≤44:=by
 have h:=B9n c;have e:H1 c=0∨H1 c=1∨H1 c=2∨H1 c=3∨H1 c=4:=by omega
 rcases e with e|e|e|e|e<;>rw [e]<;>decide
theorem B3v {c:A3}:(C5 c).1.w≤c.w+176:=by
 have h1:=X9 (c:=c) (l:=Mh (H1 c));have h2:=Oi c
 show (Bb c (Mh (H1 c))).1.w≤_
 omega
theorem B5y {c:A3}(h:Kw c):Kw (C5 c).1:=A9l h
def frN (c:A3):Nat→A3
 | 0=>c
 |k+1=>(C5 (frN c k)).1
theorem C25 (c:A3)(k:Nat):(frN c k).w≤c.w+176 * k:=by
 induction k with
 |zero=>simp [frN]
 |succ k ih=>
  have:=B3v (c:=frN c k)
  simp only [frN];omega
theorem C1f {c:A3}(h:Kw c)(k:Nat):Kw (frN c k):=by
 induction k with
 |zero=>exact h
 |succ k ih=>exact B5y ih
theorem A35 (c:A3)(k:Nat):frN (C5 c).1 k=frN c (k+1):=by
 induction k with
 |zero=>rfl
 |succ k ih=>simp only [frN] at ih ⊢;rw [ih]
theorem A0i (k:Nat):∀(n:Nat) (c:A3),k≤n→(∀i,i<k→(C5 (frN c i)).2≠0)→Cy n c=((Cy (n-k) (frN c k)).1,(Cy (n-k) (frN c k)).2+k):=by
 induction k with
 |zero=>intro n c _ _;simp [frN]
 |succ k ih=>
  intro n c hk h;obtain ⟨m,rfl⟩:∃m,n=m+1:=⟨n-1,by omega⟩;have h0:(C5 c).2≠0:=h 0 Ad;have h1:=ih m (C5 c).1 Ad (fun i hi=>by rw [A35];exact h (i+1) Ad);rw [A35] at h1;rw [Cy,if_neg h0,h1,show m+1-(k+1)=m-k by omega]
  rfl
theorem Pk {n k:Nat}{c:A3}(hk:k<n)(h:∀i,i<k→(C5 (frN c i)).2≠0)(h0:(C5 (frN c k)).2=0):Cy n c=(frN c (k+1),k+1):=by
 rw [A0i k n c Ad h];obtain ⟨m,hm⟩:∃m,n-k=m+1:=⟨n-k-1,by omega⟩;rw [hm,Cy,if_pos h0];simp only [frN]
 congr 1
 omega
theorem Pj {n:Nat}{c:A3}(h:∀i,i<n→(C5 (frN c i)).2≠0):Cy n c=(frN c n,n):=by
 rw [A0i n n c (Nat.le_refl _) h,Nat.sub_self]
 simp [Cy]
end Go.Proofs.YtdendlkeiaccpaaGreat
