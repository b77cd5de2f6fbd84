/- Part 37 of the proof that each of the laws FnColours returns true for every input. No conditions. -/
import Derived.Test.YtdendlkeiaccpaaGreatDoorP36

set_option linter.unusedSimpArgs false
set_option linter.unusedVariables false
set_option maxRecDepth 100000
namespace Go.Proofs.YtdendlkeiaccpaaGreatDoor
open Go.Sx
def Eh (c:A3) (e:Int):Nat:=(c.links.map fun l=>(Cp l.queue e).length).sum
theorem Qu {c:A3}{k:Int}{l:Bz}{e:Int}(h:0≤k∧k<c.links.length):Eh (C2 c k l) e+(Cp (Br c k).queue e).length=Eh c e+(Cp l.queue e).length:=
 V0 (fun l:Bz=>(Cp l.queue e).length) c.links k.toNat l Ac
theorem A1j {l:List Ae}{r:Ae}{e:Int}:(Cp (l++[r]) e).length=(Cp l e).length+if r.stamp.epoch=e then 1 else 0:=by
 simp only [Cp,List.filter_append,List.length_append,List.filter_cons,List.filter_nil]
 by_cases h:r.stamp.epoch=e<;>simp [h]
theorem A1i {l:List Ae}{e:Int}(h:0<l.length):(Cp (l.drop 1) e).length+(if (l.getD 0 default).stamp.epoch=e then 1 else 0)=(Cp l e).length:=by
 cases l with
 |nil=>simp at h
 |cons x r=>
  simp only [Cp,List.drop_succ_cons,List.drop_zero,List.getD_cons_zero,List.filter_cons]
  by_cases h:x.stamp.epoch=e<;>simp [h]
def wk (c:A3) (i:Nat):Aa:=c.workers.getD i default
inductive Fk (e:Int) (c c':A3):Prop
 |quiet (j:Nat) (w':Aa) (hj:j<c.workers.length) (hq:Fu e (wk c j) w') (hw:c'.workers=c.workers.set j w') (hf:Eh c' e=Eh c e) (ht:A9 c' e=A9 c e) (hd:Eg (wk c' 0) e=Eg (wk c 0) e)
 |send (j:Nat) (w':Aa) (hj:j<c.workers.length) (hp:Ch (wk c j) e=false) (h1:E9 w' e=E9 (wk c j) e+1) (h2:Ee w' e=Ee (wk c j) e) (h3:G4 w' e=G4 (wk c j) e) (hw:c'.workers=c.workers.set j w')
   (hf:Eh c' e=Eh c e+1) (ht:A9 c' e=A9 c e) (hd:Eg (wk c' 0) e=Eg (wk c 0) e)
 |take (j:Nat) (w':Aa) (hj:j<c.workers.length) (h1:E9 w' e=E9 (wk c j) e-1) (h2:Ee w' e=true) (h3:G4 w' e=G4 (wk c j) e) (hw:c'.workers=c.workers.set j w')
   (hf:Eh c' e+1=Eh c e) (ht:A9 c' e=A9 c e) (hd:Eg (wk c' 0) e=Eg (wk c 0) e)
 |start (hT:K7 c e) (hg:(A9 c e).going=false) (w':Aa) (h1:E9 w' e=E9 (wk c 0) e) (h2:Ee w' e=false) (h3:G4 w' e=G4 (wk c 0) e) (h4:Ch w' e=true) (hw:c'.workers=c.workers.set 0 w')
   (hf:Eh c' e=Eh c e) (ht:A9 c' e=⟨true,(c.workers.length:Int)-1,0,false,G4 (wk c 0) e⟩) (hd:Eg (wk c' 0) e=Eg (wk c 0) e)
 |pass (hT:K7 c e) (hg:(A9 c e).going=true) (j:Nat) (ha:(A9 c e).at_=j) (h0:0<j) (hj:j<c.workers.length) (w':Aa) (h1:E9 w' e=E9 (wk c j) e) (h2:Ee w' e=false) (h3:G4 w' e=G4 (wk c j) e) (h4:Ch w' e=true) (hw:c'.workers=c.workers.set j w')
   (hf:Eh c' e=Eh c e) (ht:A9 c' e=⟨true,(j:Int)-1,(A9 c e).sum+E9 (wk c j) e,(A9 c e).black||Ee (wk c j) e,(A9 c e).capped||G4 (wk c j) e⟩) (hd:Eg (wk c' 0) e=Eg (wk c 0) e)
 |fail (hT:K7 c e) (hg:(A9 c e).going=true) (ha:(A9 c e).at_=0) (hno:¬ ((A9 c e).black=false∧Ee (wk c 0) e=false∧(A9 c e).sum+E9 (wk c 0) e=0)) (hw:c'.workers=c.workers)
   (hf:Eh c' e=Eh c e) (ht:A9 c' e=⟨false,0,(A9 c e).sum,(A9 c e).black,(A9 c e).capped⟩) (hd:Eg (wk c' 0) e=Eg (wk c 0) e)
 |told (hT:K7 c e) (hg:(A9 c e).going=true) (ha:(A9 c e).at_=0) (hb:(A9 c e).black=false) (hb0:Ee (wk c 0) e=false) (hs:(A9 c e).sum+E9 (wk c 0) e=0) (w':Aa) (hq:Fu e (wk c 0) w') (hw:c'.workers=c.workers.set 0 w')
   (hf:Eh c' e=Eh c e) (ht:A9 c' e=⟨false,0,(A9 c e).sum,(A9 c e).black,(A9 c e).capped⟩) (hd:Eg (wk c' 0) e=(⟨e,(A9 c e).capped||G4 (wk c 0) e⟩,true))
def B1c (c:A3):Prop:=(∀x∈c.news,Bf (wk c 0) x.epoch=true)∧∀i,i<c.workers.length→∀e,Bf (wk c i) e=true→Bf (wk c 0) e=true
theorem En {c c':A3}{j i:Nat}{w:Aa}(h:c'.workers=c.workers.set j w)(hj:j<c.workers.length):wk c' i=if i=j then w else wk c i:=by
 unfold wk
 rw [h,H3]
 by_cases e:i=j
 ·rw [if_pos ⟨e,hj⟩,if_pos e]
 rw [if_neg (fun q=>e q.1),if_neg e]
theorem Li {c:A3}{w:Int}:Ab c w=wk c w.toNat:=rfl
theorem A0t {w w':Aa}(h:w'.dones=w.dones)(e:Int):Eg w' e=Eg w e:=by unfold Eg Bf;rw [h]
theorem Ng {w w':Aa}(h:w'.dones=w.dones)(e:Int):Bf w' e=Bf w e:=by unfold Bf;rw [h]
theorem Gp {c c':A3}{j:Nat}{w:Aa}{e:Int}(h:c'.workers=c.workers.set j w)(hj:j<c.workers.length)(hd:w.dones=(wk c j).dones):Eg (wk c' 0) e=Eg (wk c 0) e:=by
 rw [En h hj]
 split
 ·rename_i e0;subst e0;exact A0t hd e
 rfl
theorem Fk.same {e:Int}{c:A3}(h:As c):Fk e c c:=by
 have hl:0<c.workers.length:=by have:=h.1.2.1;have:=h.1.1.2.1;omega
 refine .quiet 0 (wk c 0) hl (Fu.refl e _) ?_ rfl rfl rfl
 apply List.ext_getElem?
 intro i
 rw [List.getElem?_set]
 split
 ·rename_i h0;subst h0;rw [List.getElem?_eq_getElem hl];simp [wk,List.getD,hl]
 rfl
theorem B8u {c:A3}{w e:Int}(h:As c)(he:0≤e):Fk e c (Df c w).1:=by
 unfold Df
 split
 ·rename_i hW
  have hj:w.toNat<c.workers.length:=by have:=hW.2;omega
  unfold F3
  split
  ·rename_i hP
   exact .quiet w.toNat _ hj (A2c he hP) rfl rfl rfl (Gp rfl hj rfl)
  exact .quiet w.toNat (wk c w.toNat) hj (Fu.refl e _) rfl rfl rfl (Gp rfl hj rfl)
 exact Fk.same h
theorem B5r {c:A3}{w e:Int}(h:As c):Fk e c (Cz c w).1:=by
 unfold Cz
 split
 ·rename_i hW
  have hj:w.toNat<c.workers.length:=by have:=hW.2;omega
  unfold D8
  split
  ·rename_i hP
   exact .quiet w.toNat _ hj (Ve hP.2.2.2.2) rfl rfl rfl (Gp rfl hj rfl)
  exact .quiet w.toNat (wk c w.toNat) hj (Fu.refl e _) rfl rfl rfl (Gp rfl hj rfl)
 exact Fk.same h
theorem B79 {c:A3}{w e:Int}(h:As c)(he:0≤e):Fk e c (C3 c w).1:=by
 unfold C3
 split
 ·rename_i hm
  obtain ⟨hW,hs⟩:=hm
  have hj:w.toNat<c.workers.length:=by have:=hW.2;omega
  split
  ·exact .quiet w.toNat _ hj (Wg hs) rfl rfl rfl (Gp rfl hj rfl)
  split
  ·rename_i hne hsend
   have hfo:=(Mm hW hs).1
   have hb:0≤w∧w<c.graph.workers:=by have:=hW.1.1.2.1;exact ⟨hW.2.1,by have:=hW.2.2;omega⟩
   have hk:=(I9 hW.1 hb (T8 hW hs)).1
   have hfl:=Qu (l:=(Cs (Br c (B0 c w (Bi c w))) (Bl c w)).1) (e:=e) hk
   have hq:(Cs (Br c (B0 c w (Bi c w))) (Bl c w)).1.queue=(Br c (B0 c w (Bi c w))).queue++[Bl c w]:=by
    unfold Cs at hsend ⊢
    split at hsend
    ·rename_i hp;rw [if_pos hp]
    cases hsend
   rw [hq,A1j] at hfl
   have hwo:=Jy h hW.2
   have hsl:=hwo.2.1.1
   rw [P8 (Ny hwo) hfo.2.1]
   by_cases hre:(Bl c w).stamp.epoch=e
   ·rw [if_pos hre] at hfl
    refine .send w.toNat (El (Dz (Ab c w)) (Bl c w).stamp.epoch 1) hj ?_ ?_ rfl rfl rfl ?_ rfl (Gp rfl hj rfl)
    ·cases hp:Ch (wk c w.toNat) e with
     |false=>rfl
     |true=>exact absurd hre ((Ey.1 hp).2.2 _ (Ay hs))
    ·unfold E9 El
     simp only
     rw [hre,H3,if_pos ⟨rfl,by have:=hfo.2.1;show e.toNat<(Ab c w).sums.length;omega⟩]
     rfl
    show Eh (C2 c _ _) e=_
    omega
   rw [if_neg hre] at hfl
   refine .quiet w.toNat _ hj (Yl.trans (Vn he hfo.2.1.1 hre)) rfl ?_ rfl (Gp rfl hj rfl)
   show Eh (C2 c _ _) e=_
   omega
  exact Fk.same h
 exact Fk.same h
theorem B8k {c:A3}{f t e:Int}(h:As c)(he:0≤e):Fk e c (Cm c f t).1:=by
 unfold Cm
 split
 ·rename_i hm
  obtain ⟨hL,hk⟩:=hm
  have ht:0≤t∧t<c.workers.length:=by have:=h.1.2.1;have:=hL.2.2.2;omega
  have hj:t.toNat<c.workers.length:=by omega
  have hto:=(Sk hL hk).1
  have hkb:=(I9 hL.1 hL.2.2.1 hL.2.2.2).1
  have hfl:=Qu (l:=(Bw (Br c (B0 c f t))).1) (e:=e) hkb
  have hq:(Bw (Br c (B0 c f t))).1.queue=(Br c (B0 c f t)).queue.drop 1∧(Bw (Br c (B0 c f t))).2.1=(Br c (B0 c f t)).queue.getD 0 default∧0<(Br c (B0 c f t)).queue.length:=by
   unfold Bw at hk ⊢
   split at hk
   ·rename_i hp;rw [if_pos hp];exact ⟨rfl,rfl,hp.2⟩
   cases hk
  have hdr:=A1i (e:=e) hq.2.2
  rw [hq.1] at hfl
  rw [←hq.2.1] at hdr
  have hwo:=Jy h ht
  obtain ⟨hsl1,hsl2,hsl3⟩:=hwo.2.1
  have hre:=P3 hwo (r:=Gu c f t) hto.2.1
  show Fk e c (B3 _ t (E8 (Ab c t) (Gu c f t)))
  rw [hre]
  by_cases hee:(Gu c f t).stamp.epoch=e
  ·have hee':(Bw (Br c (B0 c f t))).2.1.stamp.epoch=e:=hee
   rw [if_pos hee'] at hdr
   have hew:=hto.2.1
   refine .take t.toNat (Gy (El (kept (Ab c t) (Gu c f t)) (Gu c f t).stamp.epoch (-1)) (Gu c f t).stamp.epoch) hj ?_ ?_ rfl rfl ?_ rfl (Gp rfl hj rfl)
   ·unfold E9 Gy El kept
    simp only
    rw [hee,H3,if_pos ⟨rfl,by show e.toNat<(Ab c t).sums.length;omega⟩]
    rfl
   ·unfold Ee Gy El kept
    simp only
    rw [hee,H3,if_pos ⟨rfl,by show e.toNat<(Ab c t).black.length;omega⟩]
   show Eh (C2 c _ _) e+1=_
   omega
  have hee':¬ (Bw (Br c (B0 c f t))).2.1.stamp.epoch=e:=hee
  rw [if_neg hee'] at hdr
  refine .quiet t.toNat _ hj (((A57 hee).trans (Vn he hto.2.1.1 hee)).trans (A0n he hto.2.1.1 hee)) rfl ?_ rfl (Gp rfl hj rfl)
  show Eh (C2 c _ _) e=_
  omega
 exact Fk.same h
theorem B13 {c:A3}{f t e:Int}(h:As c):Fk e c (Cy c f t).1:=by
 unfold Cy
 split
 ·rename_i hL
  have hl:0<c.workers.length:=by have:=h.1.2.1;have:=h.1.1.2.1;omega
  have hkb:=(I9 h hL.2.2.1 hL.2.2.2).1
  have hfl:=Qu (l:=(Cr (Br c (B0 c f t))).1) (e:=e) hkb
  have hq:(Cr (Br c (B0 c f t))).1.queue=(Br c (B0 c f t)).queue:=by
   unfold Cr
   split<;>rfl
  rw [hq] at hfl
  refine .quiet 0 (wk c 0) hl (Fu.refl e _) ?_ ?_ rfl rfl
  ·apply List.ext_getElem?
   intro i
   rw [List.getElem?_set]
   split
   ·rename_i h0;subst h0;simp only [C2];rw [List.getElem?_eq_getElem hl];simp [wk,List.getD,hl]
   rfl
  show Eh (C2 c _ _) e=_
  omega
 exact Fk.same h
theorem B73 {c:A3}{w e:Int}(h:As c)(hN:B1c c):Fk e c (D5 c w).1:=by
 unfold D5
 split
 ·rename_i hn
  obtain ⟨m1,m2⟩:=L4 hn.1 hn.2
  have hNw:=hn.1.2.2.2.2 _ m1
  have hw:0≤w∧w<c.workers.length:=by have:=hn.1.1.2.1;have:=hNw.1;omega
  have hl:0<c.workers.length:=by omega
  split
  ·refine .quiet 0 (wk c 0) hl (Fu.refl e _) ?_ rfl rfl rfl
   apply List.ext_getElem?
   intro i
   rw [List.getElem?_set]
   split
   ·rename_i h0;subst h0;simp only [I8];rw [List.getElem?_eq_getElem hl];simp [wk,List.getD,hl]
   rfl
  rename_i hd
  have hj:w.toNat<c.workers.length:=by omega
  refine .quiet w.toNat _ hj (Oj (d:=⟨(Dt c w).epoch,(Dt c w).capped⟩)) rfl rfl rfl ?_
  have hne:w.toNat≠0:=fun e0=>by
   have:=hN.1 _ m1
   rw [Li,e0] at hd
   exact hd this
  rw [En (c:=c) (c':=B3 (I8 c w) w (Ct (Ab c w) ⟨(Dt c w).epoch,(Dt c w).capped⟩)) rfl hj,if_neg (Ne.symm hne)]
 exact Fk.same h
theorem G9 {c:A3}{e e':Int}{t:Cu}(he:0≤e)(he':0≤e'):A9 (C9 c e' t) e=if e=e'∧e'.toNat<c.tokens.length then t else A9 c e:=by
 unfold A9 C9
 simp only
 rw [H3]
 by_cases h:e=e'
 ·subst h;simp
 rw [if_neg (fun q=>h (by have:=q.1;omega)),if_neg (fun q=>h q.1)]
theorem L7 {c:A3}{j e:Int}{w:Aa}:A9 (B3 c j w) e=A9 c e:=rfl
theorem A5m {w:Aa}{e:Int}{b:Bool}(h:Bf w e=false):Eg (Ct w ⟨e,b⟩) e=(⟨e,b⟩,true):=by
 have h1:Bf (Ct w ⟨e,b⟩) e=true:=by simp [Bf,Ct]
 have h2:∀(l:List Dn),(l.any fun d=>d.epoch==e)=false→Fm (fun d:Dn=>d.epoch==e) (l++[⟨e,b⟩])=l.length:=by
  intro l
  induction l with
  |nil=>intro _;simp [Fm]
  |cons x r ih=>
   intro hx
   simp only [List.any_cons,Bool.or_eq_false_iff] at hx
   simp only [List.cons_append,Fm,hx.1,Bool.false_eq_true,if_false,List.length_cons]
   rw [ih hx.2]
 unfold Eg
 rw [if_pos h1]
 simp only [Ct]
 rw [h2 w.dones h]
 simp [List.getD]
theorem A0u {w:Aa}{e e':Int}{b:Bool}(hne:e'≠e):Eg (Ct w ⟨e',b⟩) e=Eg w e:=by
 have h2:∀(l:List Dn),((l++[(⟨e',b⟩:Dn)]).any fun d=>d.epoch==e)=l.any fun d=>d.epoch==e:=by
  intro l
  simp [hne]
 have h3:∀(l:List Dn),(l.any fun d=>d.epoch==e)=true→Fm (fun d:Dn=>d.epoch==e) (l++[⟨e',b⟩])=Fm (fun d:Dn=>d.epoch==e) l∧Fm (fun d:Dn=>d.epoch==e) l<l.length:=by
  intro l
  induction l with
  |nil=>intro h;simp at h
  |cons x r ih=>
   intro hx
   simp only [List.cons_append,Fm]
   by_cases hxe:(x.epoch==e)=true
   ·simp [hxe]
   simp only [List.any_cons,Bool.or_eq_true] at hx
   have:=ih (hx.resolve_left hxe)
   rw [if_neg hxe,if_neg hxe]
   simp only [List.length_cons]
   omega
 unfold Eg Bf Ct
 simp only
 rw [h2]
 split
 ·rename_i hd
  obtain ⟨q1,q2⟩:=h3 _ hd
  rw [q1]
  congr 1
  simp only [List.getD]
  rw [List.getElem?_append_left q2]
 rfl
theorem S8 {w w':Aa}{e:Int}(h1:w'.inputs=w.inputs)(h2:w'.queue=w.queue)(h3:w'.staged=w.staged):Ch w' e=Ch w e:=by
 unfold Ch Oy Rb
 rw [h1,h2,h3]
theorem B66 {c:A3}{e e':Int}(h:As c)(he:0≤e∧e≤3):Fk e c (Bc c e').1:=by
 unfold Bc
 split
 ·rename_i hT
  obtain ⟨_,he',hD,hP⟩:=hT
  have htl:=h.1.2.2.2
  have hTP:Jm c.graph.workers (A9 c e'):=h.2.2.2.1 _ (Ay (d:=default) (show e'.toNat<c.tokens.length by omega))
  have hn1:=h.1.1.2.1
  have hwl:=h.1.2.1
  have hat:0≤(A9 c e').at_∧(A9 c e').at_<c.workers.length:=by have:=hTP.1;omega
  have hj:(A9 c e').at_.toNat<c.workers.length:=by omega
  obtain ⟨hwo1,hwo2,hwo3⟩:=(Jy h hat).2.1
  have hwb:(Ef (Ab c (A9 c e').at_) e').black.getD e'.toNat default=false:=by
   unfold Ef
   simp only
   rw [H3,if_pos ⟨rfl,by omega⟩]
  simp only
  split
  ·rename_i hg
   have hA:=hTP.2.1 hg
   by_cases hee:e'=e
   ·subst hee
    refine .start ⟨h,he',hD,hP⟩ hg (Ef (Ab c (A9 c e').at_) e') (by rw [hA];rfl) hwb (by rw [hA];rfl) ?_ (by rw [hA];rfl) rfl ?_ (Gp (j:=(A9 c e').at_.toNat) rfl hj rfl)
    ·exact (S8 (w:=Ab c (A9 c e').at_) (w':=Ef (Ab c (A9 c e').at_) e') rfl rfl rfl).trans hP
    rw [L7,G9 he.1 he.1,if_pos ⟨rfl,by omega⟩,hA]
    rfl
   refine .quiet (A9 c e').at_.toNat _ hj (Sm he.1 he'.1 hee) rfl rfl ?_ (Gp (j:=(A9 c e').at_.toNat) rfl hj rfl)
   rw [L7,G9 he.1 he'.1,if_neg (fun q=>hee q.1.symm)]
  rename_i hg
  have hg:(A9 c e').going=true:=by simpa using hg
  split
  ·rename_i ha
   split
   ·by_cases hee:e'=e
    ·subst hee
     have hca:(((A9 c e').at_.toNat:Nat):Int)=(A9 c e').at_:=by omega
     refine .pass ⟨h,he',hD,hP⟩ hg (A9 c e').at_.toNat Ac Ac hj (Ef (Ab c (A9 c e').at_) e') rfl hwb rfl ?_ rfl rfl ?_ (Gp (j:=(A9 c e').at_.toNat) rfl hj rfl)
     ·exact (S8 (w:=Ab c (A9 c e').at_) (w':=Ef (Ab c (A9 c e').at_) e') rfl rfl rfl).trans hP
     rw [L7,G9 he.1 he.1,if_pos ⟨rfl,by omega⟩,hca,hg]
     rfl
    refine .quiet (A9 c e').at_.toNat _ hj (Sm he.1 he'.1 hee) rfl rfl ?_ (Gp (j:=(A9 c e').at_.toNat) rfl hj rfl)
    rw [L7,G9 he.1 he'.1,if_neg (fun q=>hee q.1.symm)]
   exact Fk.same h
  rename_i ha
  have hA:(A9 c e').at_=0:=by omega
  have hl:0<c.workers.length:=by omega
  unfold F2
  split
  ·rename_i hyes
   have hD':Bf (Ab c (A9 c e').at_) e'=false:=by rw [hA];exact hD
   by_cases hee:e'=e
   ·subst hee
    have hwk:Ab c (A9 c e').at_=wk c 0:=by rw [hA];rfl
    rw [hwk] at hyes hD' ⊢
    refine .told ⟨h,he',hD,hP⟩ hg hA hyes.1 hyes.2.1 hyes.2.2 _ (Oj (d:=⟨e',(A9 c e').capped||(wk c 0).caps.getD e'.toNat default⟩)) rfl rfl ?_ ?_
    ·show A9 (C9 c e' _) e'=_
     rw [G9 he.1 he.1,if_pos ⟨rfl,by omega⟩,hA]
    rw [En (c:=c) (c':=Gk (B3 (C9 c e' _) 0 (Ct (wk c 0) ⟨e',(A9 c e').capped||(wk c 0).caps.getD e'.toNat default⟩)) _) (j:=0) rfl hl,if_pos rfl]
    exact A5m hD'
   have hwk:Ab c (A9 c e').at_=wk c 0:=by rw [hA];rfl
   rw [hwk]
   refine .quiet 0 _ hl (Oj (d:=⟨e',(A9 c e').capped||(wk c 0).caps.getD e'.toNat default⟩)) rfl rfl ?_ ?_
   ·show A9 (C9 c e' _) e=_
    rw [G9 he.1 he'.1,if_neg (fun q=>hee q.1.symm)]
   rw [En (c:=c) (c':=Gk (B3 (C9 c e' _) 0 (Ct (wk c 0) ⟨e',(A9 c e').capped||(wk c 0).caps.getD e'.toNat default⟩)) _) (j:=0) rfl hl,if_pos rfl]
   exact A0u hee
  rename_i hno
  by_cases hee:e'=e
  ·subst hee
   refine .fail ⟨h,he',hD,hP⟩ hg hA (fun q=>hno (by rw [hA];exact q)) rfl rfl ?_ rfl
   rw [G9 he.1 he.1,if_pos ⟨rfl,by omega⟩,hA]
  have:=Fk.same (e:=e) h
  refine .quiet 0 (wk c 0) hl (Fu.refl e _) ?_ rfl ?_ rfl
  ·apply List.ext_getElem?
   intro i
   rw [List.getElem?_set]
   split
   ·rename_i h0;subst h0;simp only [C9];rw [List.getElem?_eq_getElem hl];simp [wk,List.getD,hl]
   rfl
  rw [G9 he.1 he'.1,if_neg (fun q=>hee q.1.symm)]
 exact Fk.same h
theorem Nu {c:A3}{p:C7}{e:Int}(h:As c)(hN:B1c c)(he:0≤e∧e≤3):Fk e c (Aj c p).1:=by
 unfold Aj
 split
 ·exact B8u h he.1
 split
 ·exact B5r h
 split
 ·exact B79 h he.1
 split
 ·exact B8k h he.1
 split
 ·exact B13 h
 split
 ·exact B66 h he
 split
 ·exact B73 h hN
 exact Fk.same h
end Go.Proofs.YtdendlkeiaccpaaGreatDoor
