/- Part 18 of the proof that each of the laws FnOneWorker returns true for every input. No conditions. -/
import Derived.Test.YtonodkjaoalfjaaGreatP17

set_option linter.unusedSimpArgs false
set_option linter.unusedVariables false
set_option maxRecDepth 100000
namespace Go.Proofs.YtonodkjaoalfjaaGreat
open Go.Sx
def Ev (c:A3) (e:Int):Nat:=(c.links.map fun l=>(Bs l.queue e).length).sum
theorem Qy {c:A3}{k:Int}{l:C2}{e:Int}(h:0≤k∧k<c.links.length):Ev (B6 c k l) e+(Bs (An c k).queue e).length=Ev c e+(Bs l.queue e).length:=
 Q4 (fun l:C2=>(Bs l.queue e).length) c.links k.toNat l Ac
theorem A1m {l:List A5}{r:A5}{e:Int}:(Bs (l++[r]) e).length=(Bs l e).length+if r.stamp.epoch=e then 1 else 0:=by
 simp only [Bs,List.filter_append,List.length_append,List.filter_cons,List.filter_nil]
 by_cases h:r.stamp.epoch=e<;>simp [h]
theorem A1l {l:List A5}{e:Int}(h:0<l.length):(Bs (l.drop 1) e).length+(if (l.getD 0 default).stamp.epoch=e then 1 else 0)=(Bs l e).length:=by
 cases l with
 |nil=>simp at h
 |cons x r=>
  simp only [Bs,List.drop_succ_cons,List.drop_zero,List.getD_cons_zero,List.filter_cons]
  by_cases h:x.stamp.epoch=e<;>simp [h]
def wk (c:A3) (i:Nat):Ab:=c.workers.getD i default
inductive Fl (e:Int) (c c':A3):Prop
 |quiet (j:Nat) (w':Ab) (hj:j<c.workers.length) (hq:Fs e (wk c j) w') (hw:c'.workers=c.workers.set j w') (hf:Ev c' e=Ev c e) (ht:A4 c' e=A4 c e) (hd:Dc (wk c' 0) e=Dc (wk c 0) e)
 |send (j:Nat) (w':Ab) (hj:j<c.workers.length) (hp:De (wk c j) e=false) (h1:Dx w' e=Dx (wk c j) e+1) (h2:Em w' e=Em (wk c j) e) (h3:Ck w' e=Ck (wk c j) e) (hw:c'.workers=c.workers.set j w')
   (hf:Ev c' e=Ev c e+1) (ht:A4 c' e=A4 c e) (hd:Dc (wk c' 0) e=Dc (wk c 0) e)
 |take (j:Nat) (w':Ab) (hj:j<c.workers.length) (h1:Dx w' e=Dx (wk c j) e-1) (h2:Em w' e=true) (h3:Ck w' e=Ck (wk c j) e) (hw:c'.workers=c.workers.set j w')
   (hf:Ev c' e+1=Ev c e) (ht:A4 c' e=A4 c e) (hd:Dc (wk c' 0) e=Dc (wk c 0) e)
 |start (hT:Kv c e) (hg:(A4 c e).going=false) (w':Ab) (h1:Dx w' e=Dx (wk c 0) e) (h2:Em w' e=false) (h3:Ck w' e=Ck (wk c 0) e) (h4:De w' e=true) (hw:c'.workers=c.workers.set 0 w')
   (hf:Ev c' e=Ev c e) (ht:A4 c' e=⟨true,(c.workers.length:Int)-1,0,false,Ck (wk c 0) e⟩) (hd:Dc (wk c' 0) e=Dc (wk c 0) e)
 |pass (hT:Kv c e) (hg:(A4 c e).going=true) (j:Nat) (ha:(A4 c e).at_=j) (h0:0<j) (hj:j<c.workers.length) (w':Ab) (h1:Dx w' e=Dx (wk c j) e) (h2:Em w' e=false) (h3:Ck w' e=Ck (wk c j) e) (h4:De w' e=true) (hw:c'.workers=c.workers.set j w')
   (hf:Ev c' e=Ev c e) (ht:A4 c' e=⟨true,(j:Int)-1,(A4 c e).sum+Dx (wk c j) e,(A4 c e).black||Em (wk c j) e,(A4 c e).capped||Ck (wk c j) e⟩) (hd:Dc (wk c' 0) e=Dc (wk c 0) e)
 |fail (hT:Kv c e) (hg:(A4 c e).going=true) (ha:(A4 c e).at_=0) (hno:¬ ((A4 c e).black=false∧Em (wk c 0) e=false∧(A4 c e).sum+Dx (wk c 0) e=0)) (hw:c'.workers=c.workers)
   (hf:Ev c' e=Ev c e) (ht:A4 c' e=⟨false,0,(A4 c e).sum,(A4 c e).black,(A4 c e).capped⟩) (hd:Dc (wk c' 0) e=Dc (wk c 0) e)
 |told (hT:Kv c e) (hg:(A4 c e).going=true) (ha:(A4 c e).at_=0) (hb:(A4 c e).black=false) (hb0:Em (wk c 0) e=false) (hs:(A4 c e).sum+Dx (wk c 0) e=0) (w':Ab) (hq:Fs e (wk c 0) w') (hw:c'.workers=c.workers.set 0 w')
   (hf:Ev c' e=Ev c e) (ht:A4 c' e=⟨false,0,(A4 c e).sum,(A4 c e).black,(A4 c e).capped⟩) (hd:Dc (wk c' 0) e=(⟨e,(A4 c e).capped||Ck (wk c 0) e⟩,true))
def B12 (c:A3):Prop:=(∀x∈c.news,B1 (wk c 0) x.epoch=true)∧∀i,i<c.workers.length→∀e,B1 (wk c i) e=true→B1 (wk c 0) e=true
theorem Ey {c c':A3}{j i:Nat}{w:Ab}(h:c'.workers=c.workers.set j w)(hj:j<c.workers.length):wk c' i=if i=j then w else wk c i:=by
 unfold wk
 rw [h,Dr]
 by_cases e:i=j
 ·rw [if_pos ⟨e,hj⟩,if_pos e]
 ·rw [if_neg (fun q=>e q.1),if_neg e]
theorem Lh {c:A3}{w:Int}:A6 c w=wk c w.toNat:=rfl
theorem A0r {w w':Ab}(h:w'.dones=w.dones)(e:Int):Dc w' e=Dc w e:=by unfold Dc B1;rw [h]
theorem Nj {w w':Ab}(h:w'.dones=w.dones)(e:Int):B1 w' e=B1 w e:=by unfold B1;rw [h]
theorem Ge {c c':A3}{j:Nat}{w:Ab}{e:Int}(h:c'.workers=c.workers.set j w)(hj:j<c.workers.length)(hd:w.dones=(wk c j).dones):Dc (wk c' 0) e=Dc (wk c 0) e:=by
 rw [Ey h hj]
 split
 ·rename_i e0;subst e0;exact A0r hd e
 ·rfl
theorem Fl.same {e:Int}{c:A3}(h:Ap c):Fl e c c:=by
 have hl:0<c.workers.length:=by have:=h.1.2.1;have:=h.1.1.2.1;omega
 refine .quiet 0 (wk c 0) hl (Fs.refl e _) ?_ rfl rfl rfl
 apply List.ext_getElem?
 intro i
 rw [List.getElem?_set]
 split
 ·rename_i h0;subst h0;rw [List.getElem?_eq_getElem hl];simp [wk,List.getD,hl]
 ·rfl
theorem B83 {c:A3}{w e:Int}(h:Ap c)(he:0≤e):Fl e c (Cr c w).1:=by
 unfold Cr
 split
 ·rename_i hW
  have hj:w.toNat<c.workers.length:=by have:=hW.2;omega
  unfold Fk
  split
  ·rename_i hP
   exact .quiet w.toNat _ hj (A2j he hP) rfl rfl rfl (Ge rfl hj rfl)
  ·exact .quiet w.toNat (wk c w.toNat) hj (Fs.refl e _) rfl rfl rfl (Ge rfl hj rfl)
 ·exact Fl.same h
theorem B6k {c:A3}{w e:Int}(h:Ap c):Fl e c (Cg c w).1:=by
 unfold Cg
 split
 ·rename_i hW
  have hj:w.toNat<c.workers.length:=by have:=hW.2;omega
  unfold Dg
  split
  ·rename_i hP
   exact .quiet w.toNat _ hj (V8 hP.2.2.2.2) rfl rfl rfl (Ge rfl hj rfl)
  ·exact .quiet w.toNat (wk c w.toNat) hj (Fs.refl e _) rfl rfl rfl (Ge rfl hj rfl)
 ·exact Fl.same h
theorem B8l {c:A3}{w e:Int}(h:Ap c)(he:0≤e):Fl e c (C6 c w).1:=by
 unfold C6
 split
 ·rename_i hm
  obtain ⟨hW,hs⟩:=hm
  have hj:w.toNat<c.workers.length:=by have:=hW.2;omega
  split
  ·exact .quiet w.toNat _ hj (Wj hs) rfl rfl rfl (Ge rfl hj rfl)
  ·split
   ·rename_i hne hsend
    have hfo:=(L5 hW hs).1
    have hb:0≤w∧w<c.graph.workers:=by have:=hW.1.1.2.1;exact ⟨hW.2.1,by have:=hW.2.2;omega⟩
    have hk:=(El hW.1 hb (Km hW hs)).1
    have hfl:=Qy (l:=(Dn (An c (Ae c w (B8 c w))) (B7 c w)).1) (e:=e) hk
    have hq:(Dn (An c (Ae c w (B8 c w))) (B7 c w)).1.queue=(An c (Ae c w (B8 c w))).queue++[B7 c w]:=by
     unfold Dn at hsend ⊢
     split at hsend
     ·rename_i hp;rw [if_pos hp]
     ·cases hsend
    rw [hq,A1m] at hfl
    have hwo:=Kb h hW.2
    have hsl:=hwo.2.1.1
    rw [U6 (Ra hwo) hfo.2.1]
    by_cases hre:(B7 c w).stamp.epoch=e
    ·rw [if_pos hre] at hfl
     refine .send w.toNat (Ib (Bt (A6 c w)) (B7 c w).stamp.epoch 1) hj ?_ ?_ rfl rfl rfl ?_ rfl (Ge rfl hj rfl)
     ·cases hp:De (wk c w.toNat) e with
      |false=>rfl
      |true=>exact absurd hre ((Dw.1 hp).2.2 _ (Aq hs))
     ·unfold Dx Ib
      simp only
      rw [hre,Dr,if_pos ⟨rfl,by have:=hfo.2.1;show e.toNat<(A6 c w).sums.length;omega⟩]
      rfl
     ·show Ev (B6 c _ _) e=_
      omega
    ·rw [if_neg hre] at hfl
     refine .quiet w.toNat _ hj (Yi.trans (Vh he hfo.2.1.1 hre)) rfl ?_ rfl (Ge rfl hj rfl)
     show Ev (B6 c _ _) e=_
     omega
   ·exact Fl.same h
 ·exact Fl.same h
theorem B8y {c:A3}{f t e:Int}(h:Ap c)(he:0≤e):Fl e c (Cd c f t).1:=by
 unfold Cd
 split
 ·rename_i hm
  obtain ⟨hL,hk⟩:=hm
  have ht:0≤t∧t<c.workers.length:=by have:=h.1.2.1;have:=hL.2.2.2;omega
  have hj:t.toNat<c.workers.length:=by omega
  have hto:=(Xp hL hk).1
  have hkb:=(El hL.1 hL.2.2.1 hL.2.2.2).1
  have hfl:=Qy (l:=(At (An c (Ae c f t))).1) (e:=e) hkb
  have hq:(At (An c (Ae c f t))).1.queue=(An c (Ae c f t)).queue.drop 1∧(At (An c (Ae c f t))).2.1=(An c (Ae c f t)).queue.getD 0 default∧0<(An c (Ae c f t)).queue.length:=by
   unfold At at hk ⊢
   split at hk
   ·rename_i hp;rw [if_pos hp];exact ⟨rfl,rfl,hp.2⟩
   ·cases hk
  have hdr:=A1l (e:=e) hq.2.2
  rw [hq.1] at hfl
  rw [←hq.2.1] at hdr
  have hwo:=Kb h ht
  obtain ⟨hsl1,hsl2,hsl3⟩:=hwo.2.1
  have hre:=U3 hwo (r:=I8 c f t) hto.2.1
  show Fl e c (Av _ t (Cj (A6 c t) (I8 c f t)))
  rw [hre]
  by_cases hee:(I8 c f t).stamp.epoch=e
  ·have hee':(At (An c (Ae c f t))).2.1.stamp.epoch=e:=hee
   rw [if_pos hee'] at hdr
   have hew:=hto.2.1
   refine .take t.toNat (N2 (Ib (kept (A6 c t) (I8 c f t)) (I8 c f t).stamp.epoch (-1)) (I8 c f t).stamp.epoch) hj ?_ ?_ rfl rfl ?_ rfl (Ge rfl hj rfl)
   ·unfold Dx N2 Ib kept
    simp only
    rw [hee,Dr,if_pos ⟨rfl,by show e.toNat<(A6 c t).sums.length;omega⟩]
    rfl
   ·unfold Em N2 Ib kept
    simp only
    rw [hee,Dr,if_pos ⟨rfl,by show e.toNat<(A6 c t).black.length;omega⟩]
   ·show Ev (B6 c _ _) e+1=_
    omega
  ·have hee':¬ (At (An c (Ae c f t))).2.1.stamp.epoch=e:=hee
   rw [if_neg hee'] at hdr
   refine .quiet t.toNat _ hj (((A6t hee).trans (Vh he hto.2.1.1 hee)).trans (A0l he hto.2.1.1 hee)) rfl ?_ rfl (Ge rfl hj rfl)
   show Ev (B6 c _ _) e=_
   omega
 ·exact Fl.same h
theorem B2v {c:A3}{f t e:Int}(h:Ap c):Fl e c (Br c f t).1:=by
 unfold Br
 split
 ·rename_i hL
  have hl:0<c.workers.length:=by have:=h.1.2.1;have:=h.1.1.2.1;omega
  have hkb:=(El h hL.2.2.1 hL.2.2.2).1
  have hfl:=Qy (l:=(Bn (An c (Ae c f t))).1) (e:=e) hkb
  have hq:(Bn (An c (Ae c f t))).1.queue=(An c (Ae c f t)).queue:=by
   unfold Bn
   split<;>rfl
  rw [hq] at hfl
  refine .quiet 0 (wk c 0) hl (Fs.refl e _) ?_ ?_ rfl rfl
  ·apply List.ext_getElem?
   intro i
   rw [List.getElem?_set]
   split
   ·rename_i h0;subst h0;simp only [B6];rw [List.getElem?_eq_getElem hl];simp [wk,List.getD,hl]
   ·rfl
  ·show Ev (B6 c _ _) e=_
   omega
 ·exact Fl.same h
theorem B8g {c:A3}{w e:Int}(h:Ap c)(hN:B12 c):Fl e c (D4 c w).1:=by
 unfold D4
 split
 ·rename_i hn
  obtain ⟨m1,m2⟩:=Jk hn.1 hn.2
  have hNw:=hn.1.2.2.2.2 _ m1
  have hw:0≤w∧w<c.workers.length:=by have:=hn.1.1.2.1;have:=hNw.1;omega
  have hl:0<c.workers.length:=by omega
  split
  ·refine .quiet 0 (wk c 0) hl (Fs.refl e _) ?_ rfl rfl rfl
   apply List.ext_getElem?
   intro i
   rw [List.getElem?_set]
   split
   ·rename_i h0;subst h0;simp only [Ih];rw [List.getElem?_eq_getElem hl];simp [wk,List.getD,hl]
   ·rfl
  ·rename_i hd
   have hj:w.toNat<c.workers.length:=by omega
   refine .quiet w.toNat _ hj (Oj (d:=⟨(Dd c w).epoch,(Dd c w).capped⟩)) rfl rfl rfl ?_
   have hne:w.toNat≠0:=fun e0=>by
    have:=hN.1 _ m1
    rw [Lh,e0] at hd
    exact hd this
   rw [Ey (c:=c) (c':=Av (Ih c w) w (Cx (A6 c w) ⟨(Dd c w).epoch,(Dd c w).capped⟩)) rfl hj,if_neg (Ne.symm hne)]
 ·exact Fl.same h
theorem G2 {c:A3}{e e':Int}{t:Es}(he:0≤e)(he':0≤e'):A4 (Cp c e' t) e=if e=e'∧e'.toNat<c.tokens.length then t else A4 c e:=by
 unfold A4 Cp
 simp only
 rw [Dr]
 by_cases h:e=e'
 ·subst h;simp
 ·rw [if_neg (fun q=>h (by have:=q.1;omega)),if_neg (fun q=>h q.1)]
theorem Kp {c:A3}{j e:Int}{w:Ab}:A4 (Av c j w) e=A4 c e:=rfl
theorem A58 {w:Ab}{e:Int}{b:Bool}(h:B1 w e=false):Dc (Cx w ⟨e,b⟩) e=(⟨e,b⟩,true):=by
 have h1:B1 (Cx w ⟨e,b⟩) e=true:=by simp [B1,Cx]
 have h2:∀(l:List E3),(l.any fun d=>d.epoch==e)=false→Ek (fun d:E3=>d.epoch==e) (l++[⟨e,b⟩])=l.length:=by
  intro l
  induction l with
  |nil=>intro _;simp [Ek]
  |cons x r ih=>
   intro hx
   simp only [List.any_cons,Bool.or_eq_false_iff] at hx
   simp only [List.cons_append,Ek,hx.1,Bool.false_eq_true,if_false,List.length_cons]
   rw [ih hx.2]
 unfold Dc
 rw [if_pos h1]
 simp only [Cx]
 rw [h2 w.dones h]
 simp [List.getD]
theorem A0s {w:Ab}{e e':Int}{b:Bool}(hne:e'≠e):Dc (Cx w ⟨e',b⟩) e=Dc w e:=by
 have h2:∀(l:List E3),((l++[(⟨e',b⟩:E3)]).any fun d=>d.epoch==e)=l.any fun d=>d.epoch==e:=by
  intro l
  simp [hne]
 have h3:∀(l:List E3),(l.any fun d=>d.epoch==e)=true→Ek (fun d:E3=>d.epoch==e) (l++[⟨e',b⟩])=Ek (fun d:E3=>d.epoch==e) l∧Ek (fun d:E3=>d.epoch==e) l<l.length:=by
  intro l
  induction l with
  |nil=>intro h;simp at h
  |cons x r ih=>
   intro hx
   simp only [List.cons_append,Ek]
   by_cases hxe:(x.epoch==e)=true
   ·simp [hxe]
   ·simp only [List.any_cons,Bool.or_eq_true] at hx
    have:=ih (hx.resolve_left hxe)
    rw [if_neg hxe,if_neg hxe]
    simp only [List.length_cons]
    omega
 unfold Dc B1 Cx
 simp only
 rw [h2]
 split
 ·rename_i hd
  obtain ⟨q1,q2⟩:=h3 _ hd
  rw [q1]
  congr 1
  simp only [List.getD]
  rw [List.getElem?_append_left q2]
 ·rfl
theorem S5 {w w':Ab}{e:Int}(h1:w'.inputs=w.inputs)(h2:w'.queue=w.queue)(h3:w'.staged=w.staged):De w' e=De w e:=by
 unfold De R5 Xs
 rw [h1,h2,h3]
theorem B7n {c:A3}{e e':Int}(h:Ap c)(he:0≤e∧e≤3):Fl e c (Bo c e').1:=by
 unfold Bo
 split
 ·rename_i hT
  obtain ⟨_,he',hD,hP⟩:=hT
  have htl:=h.1.2.2.2
  have hTP:O7 c.graph.workers (A4 c e'):=h.2.2.2.1 _ (Aq (d:=default) (show e'.toNat<c.tokens.length by omega))
  have hn1:=h.1.1.2.1
  have hwl:=h.1.2.1
  have hat:0≤(A4 c e').at_∧(A4 c e').at_<c.workers.length:=by have:=hTP.1;omega
  have hj:(A4 c e').at_.toNat<c.workers.length:=by omega
  obtain ⟨hwo1,hwo2,hwo3⟩:=(Kb h hat).2.1
  have hwb:(G8 (A6 c (A4 c e').at_) e').black.getD e'.toNat default=false:=by
   unfold G8
   simp only
   rw [Dr,if_pos ⟨rfl,by omega⟩]
  simp only
  split
  ·rename_i hg
   have hA:=hTP.2.1 hg
   by_cases hee:e'=e
   ·subst hee
    refine .start ⟨h,he',hD,hP⟩ hg (G8 (A6 c (A4 c e').at_) e') (by rw [hA];rfl) hwb (by rw [hA];rfl) ?_ (by rw [hA];rfl) rfl ?_ (Ge (j:=(A4 c e').at_.toNat) rfl hj rfl)
    ·exact (S5 (w:=A6 c (A4 c e').at_) (w':=G8 (A6 c (A4 c e').at_) e') rfl rfl rfl).trans hP
    ·rw [Kp,G2 he.1 he.1,if_pos ⟨rfl,by omega⟩,hA]
     rfl
   ·refine .quiet (A4 c e').at_.toNat _ hj (Sg he.1 he'.1 hee) rfl rfl ?_ (Ge (j:=(A4 c e').at_.toNat) rfl hj rfl)
    rw [Kp,G2 he.1 he'.1,if_neg (fun q=>hee q.1.symm)]
  ·rename_i hg
   have hg:(A4 c e').going=true:=by simpa using hg
   split
   ·rename_i ha
    split
    ·by_cases hee:e'=e
     ·subst hee
      have hca:(((A4 c e').at_.toNat:Nat):Int)=(A4 c e').at_:=by omega
      refine .pass ⟨h,he',hD,hP⟩ hg (A4 c e').at_.toNat Ac Ac hj (G8 (A6 c (A4 c e').at_) e') rfl hwb rfl ?_ rfl rfl ?_ (Ge (j:=(A4 c e').at_.toNat) rfl hj rfl)
      ·exact (S5 (w:=A6 c (A4 c e').at_) (w':=G8 (A6 c (A4 c e').at_) e') rfl rfl rfl).trans hP
      ·rw [Kp,G2 he.1 he.1,if_pos ⟨rfl,by omega⟩,hca,hg]
       rfl
     ·refine .quiet (A4 c e').at_.toNat _ hj (Sg he.1 he'.1 hee) rfl rfl ?_ (Ge (j:=(A4 c e').at_.toNat) rfl hj rfl)
      rw [Kp,G2 he.1 he'.1,if_neg (fun q=>hee q.1.symm)]
    ·exact Fl.same h
   ·rename_i ha
    have hA:(A4 c e').at_=0:=by omega
    have hl:0<c.workers.length:=by omega
    unfold Gn
    split
    ·rename_i hyes
     have hD':B1 (A6 c (A4 c e').at_) e'=false:=by rw [hA];exact hD
     by_cases hee:e'=e
     ·subst hee
      have hwk:A6 c (A4 c e').at_=wk c 0:=by rw [hA];rfl
      rw [hwk] at hyes hD' ⊢
      refine .told ⟨h,he',hD,hP⟩ hg hA hyes.1 hyes.2.1 hyes.2.2 _ (Oj (d:=⟨e',(A4 c e').capped||(wk c 0).caps.getD e'.toNat default⟩)) rfl rfl ?_ ?_
      ·show A4 (Cp c e' _) e'=_
       rw [G2 he.1 he.1,if_pos ⟨rfl,by omega⟩,hA]
      ·rw [Ey (c:=c) (c':=I0 (Av (Cp c e' _) 0 (Cx (wk c 0) ⟨e',(A4 c e').capped||(wk c 0).caps.getD e'.toNat default⟩)) _) (j:=0) rfl hl,if_pos rfl]
       exact A58 hD'
     ·have hwk:A6 c (A4 c e').at_=wk c 0:=by rw [hA];rfl
      rw [hwk]
      refine .quiet 0 _ hl (Oj (d:=⟨e',(A4 c e').capped||(wk c 0).caps.getD e'.toNat default⟩)) rfl rfl ?_ ?_
      ·show A4 (Cp c e' _) e=_
       rw [G2 he.1 he'.1,if_neg (fun q=>hee q.1.symm)]
      ·rw [Ey (c:=c) (c':=I0 (Av (Cp c e' _) 0 (Cx (wk c 0) ⟨e',(A4 c e').capped||(wk c 0).caps.getD e'.toNat default⟩)) _) (j:=0) rfl hl,if_pos rfl]
       exact A0s hee
    ·rename_i hno
     by_cases hee:e'=e
     ·subst hee
      refine .fail ⟨h,he',hD,hP⟩ hg hA (fun q=>hno (by rw [hA];exact q)) rfl rfl ?_ rfl
      rw [G2 he.1 he.1,if_pos ⟨rfl,by omega⟩,hA]
     ·have:=Fl.same (e:=e) h
      refine .quiet 0 (wk c 0) hl (Fs.refl e _) ?_ rfl ?_ rfl
      ·apply List.ext_getElem?
       intro i
       rw [List.getElem?_set]
       split
       ·rename_i h0;subst h0;simp only [Cp];rw [List.getElem?_eq_getElem hl];simp [wk,List.getD,hl]
       ·rfl
      ·rw [G2 he.1 he'.1,if_neg (fun q=>hee q.1.symm)]
 ·exact Fl.same h
theorem Nz {c:A3}{p:Bl}{e:Int}(h:Ap c)(hN:B12 c)(he:0≤e∧e≤3):Fl e c (Ag c p).1:=by
 unfold Ag
 split
 ·exact B83 h he.1
 split
 ·exact B6k h
 split
 ·exact B8l h he.1
 split
 ·exact B8y h he.1
 split
 ·exact B2v h
 split
 ·exact B7n h he
 split
 ·exact B8g h hN
 ·exact Fl.same h
end Go.Proofs.YtonodkjaoalfjaaGreat
