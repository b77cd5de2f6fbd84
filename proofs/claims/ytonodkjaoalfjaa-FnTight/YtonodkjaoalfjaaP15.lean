/- Part 15 of the proof that each of the laws FnTight returns true for every input. No conditions. -/
import Derived.Test.YtonodkjaoalfjaaP14

set_option linter.unusedSimpArgs false
set_option linter.unusedVariables false
set_option maxRecDepth 100000
namespace Go.Proofs.Ytonodkjaoalfjaa
open Go.Sx
def A6l (c:A3) (e:Int):Nat:=(c.links.map fun l=>(G7 l.queue e).length).sum
theorem A9u {c:A3}{k:Int}{l:C0}{e:Int}(h:0≤k∧k<c.links.length):A6l (Bo c k l) e+(G7 (Bc c k).queue e).length=A6l c e+(G7 l.queue e).length:=
 Uh (fun l:C0=>(G7 l.queue e).length) c.links k.toNat l Ag
theorem B18 {l:List Ac}{r:Ac}{e:Int}:(G7 (l++[r]) e).length=(G7 l e).length+if r.stamp.epoch=e then 1 else 0:=by
 simp only [G7,List.filter_append,List.length_append,List.filter_cons,List.filter_nil]
 by_cases h:r.stamp.epoch=e<;>simp [h]
theorem B17 {l:List Ac}{e:Int}(h:0<l.length):(G7 (l.drop 1) e).length+(if (l.getD 0 default).stamp.epoch=e then 1 else 0)=(G7 l e).length:=by
 cases l with
 |nil=>simp at h
 |cons x r=>
  simp only [G7,List.drop_succ_cons,List.drop_zero,List.getD_cons_zero,List.filter_cons]
  by_cases h:x.stamp.epoch=e<;>simp [h]
def wk (c:A3) (i:Nat):Ad:=c.workers.getD i default
inductive A7t (e:Int) (c c':A3):Prop
 |quiet (j:Nat) (w':Ad) (hj:j<c.workers.length) (hq:A7u e (wk c j) w') (hw:c'.workers=c.workers.set j w') (hf:A6l c' e=A6l c e) (ht:Ab c' e=Ab c e) (hd:A6i (wk c' 0) e=A6i (wk c 0) e)
 |send (j:Nat) (w':Ad) (hj:j<c.workers.length) (hp:Hu (wk c j) e=false) (h1:A4j w' e=A4j (wk c j) e+1) (h2:A51 w' e=A51 (wk c j) e) (h3:A70 w' e=A70 (wk c j) e) (hw:c'.workers=c.workers.set j w')
   (hf:A6l c' e=A6l c e+1) (ht:Ab c' e=Ab c e) (hd:A6i (wk c' 0) e=A6i (wk c 0) e)
 |take (j:Nat) (w':Ad) (hj:j<c.workers.length) (h1:A4j w' e=A4j (wk c j) e-1) (h2:A51 w' e=true) (h3:A70 w' e=A70 (wk c j) e) (hw:c'.workers=c.workers.set j w')
   (hf:A6l c' e+1=A6l c e) (ht:Ab c' e=Ab c e) (hd:A6i (wk c' 0) e=A6i (wk c 0) e)
 |start (hT:Mf c e) (hg:(Ab c e).going=false) (w':Ad) (h1:A4j w' e=A4j (wk c 0) e) (h2:A51 w' e=false) (h3:A70 w' e=A70 (wk c 0) e) (h4:Hu w' e=true) (hw:c'.workers=c.workers.set 0 w')
   (hf:A6l c' e=A6l c e) (ht:Ab c' e=⟨true,(c.workers.length:Int)-1,0,false,A70 (wk c 0) e⟩) (hd:A6i (wk c' 0) e=A6i (wk c 0) e)
 |pass (hT:Mf c e) (hg:(Ab c e).going=true) (j:Nat) (ha:(Ab c e).at_=j) (h0:0<j) (hj:j<c.workers.length) (w':Ad) (h1:A4j w' e=A4j (wk c j) e) (h2:A51 w' e=false) (h3:A70 w' e=A70 (wk c j) e) (h4:Hu w' e=true) (hw:c'.workers=c.workers.set j w')
   (hf:A6l c' e=A6l c e) (ht:Ab c' e=⟨true,(j:Int)-1,(Ab c e).sum+A4j (wk c j) e,(Ab c e).black||A51 (wk c j) e,(Ab c e).capped||A70 (wk c j) e⟩) (hd:A6i (wk c' 0) e=A6i (wk c 0) e)
 |fail (hT:Mf c e) (hg:(Ab c e).going=true) (ha:(Ab c e).at_=0) (hno:¬ ((Ab c e).black=false∧A51 (wk c 0) e=false∧(Ab c e).sum+A4j (wk c 0) e=0)) (hw:c'.workers=c.workers)
   (hf:A6l c' e=A6l c e) (ht:Ab c' e=⟨false,0,(Ab c e).sum,(Ab c e).black,(Ab c e).capped⟩) (hd:A6i (wk c' 0) e=A6i (wk c 0) e)
 |told (hT:Mf c e) (hg:(Ab c e).going=true) (ha:(Ab c e).at_=0) (hb:(Ab c e).black=false) (hb0:A51 (wk c 0) e=false) (hs:(Ab c e).sum+A4j (wk c 0) e=0) (w':Ad) (hq:A7u e (wk c 0) w') (hw:c'.workers=c.workers.set 0 w')
   (hf:A6l c' e=A6l c e) (ht:Ab c' e=⟨false,0,(Ab c e).sum,(Ab c e).black,(Ab c e).capped⟩) (hd:A6i (wk c' 0) e=(⟨e,(Ab c e).capped||A70 (wk c 0) e⟩,true))
def B4b (c:A3):Prop:=(∀x∈c.news,En (wk c 0) x.epoch=true)∧∀i,i<c.workers.length→∀e,En (wk c i) e=true→En (wk c 0) e=true
theorem A62 {c c':A3}{j i:Nat}{w:Ad}(h:c'.workers=c.workers.set j w)(hj:j<c.workers.length):wk c' i=if i=j then w else wk c i:=by
 unfold wk
 rw [h,A63]
 by_cases e:i=j
 ·rw [if_pos ⟨e,hj⟩,if_pos e]
 ·rw [if_neg (fun q=>e q.1),if_neg e]
theorem A8s {c:A3}{w:Int}:A9 c w=wk c w.toNat:=rfl
theorem B1y {w w':Ad}(h:w'.dones=w.dones)(e:Int):A6i w' e=A6i w e:=by unfold A6i En;rw [h]
theorem A88 {w w':Ad}(h:w'.dones=w.dones)(e:Int):En w' e=En w e:=by unfold En;rw [h]
theorem A76 {c c':A3}{j:Nat}{w:Ad}{e:Int}(h:c'.workers=c.workers.set j w)(hj:j<c.workers.length)(hd:w.dones=(wk c j).dones):A6i (wk c' 0) e=A6i (wk c 0) e:=by
 rw [A62 h hj]
 split
 ·rename_i e0;subst e0;exact B1y hd e
 ·rfl
theorem A7t.same {e:Int}{c:A3}(h:Ar c):A7t e c c:=by
 have hl:0<c.workers.length:=by have:=h.1.2.1;have:=h.1.1.2.1;omega
 refine .quiet 0 (wk c 0) hl (A7u.refl e _) ?_ rfl rfl rfl
 apply List.ext_getElem?
 intro i
 rw [List.getElem?_set]
 split
 ·rename_i h0;subst h0;rw [List.getElem?_eq_getElem hl];simp [wk,List.getD,hl]
 ·rfl
theorem B5q {c:A3}{w e:Int}(h:Ar c)(he:0≤e):A7t e c (Df c w).1:=by
 unfold Df
 split
 ·rename_i hW
  have hj:w.toNat<c.workers.length:=by have:=hW.2;omega
  unfold H4
  split
  ·rename_i hP
   exact .quiet w.toNat _ hj (B2f he hP) rfl rfl rfl (A76 rfl hj rfl)
  ·exact .quiet w.toNat (wk c w.toNat) hj (A7u.refl e _) rfl rfl rfl (A76 rfl hj rfl)
 ·exact A7t.same h
theorem B45 {c:A3}{w e:Int}(h:Ar c):A7t e c (Ct c w).1:=by
 unfold Ct
 split
 ·rename_i hW
  have hj:w.toNat<c.workers.length:=by have:=hW.2;omega
  unfold Et
  split
  ·rename_i hP
   exact .quiet w.toNat _ hj (B0u hP.2.2.2.2) rfl rfl rfl (A76 rfl hj rfl)
  ·exact .quiet w.toNat (wk c w.toNat) hj (A7u.refl e _) rfl rfl rfl (A76 rfl hj rfl)
 ·exact A7t.same h
theorem B5l {c:A3}{w e:Int}(h:Ar c)(he:0≤e):A7t e c (Br c w).1:=by
 unfold Br
 split
 ·rename_i hm
  obtain ⟨hW,hs⟩:=hm
  have hj:w.toNat<c.workers.length:=by have:=hW.2;omega
  split
  ·exact .quiet w.toNat _ hj (B04 hs) rfl rfl rfl (A76 rfl hj rfl)
  ·split
   ·rename_i hne hsend
    have hfo:=(Q7 hW hs).1
    have hb:0≤w∧w<c.graph.workers:=by have:=hW.1.1.2.1;exact ⟨hW.2.1,by have:=hW.2.2;omega⟩
    have hk:=(I4 hW.1 hb (Ss hW hs)).1
    have hfl:=A9u (l:=(C6 (Bc c (Ai c w (As c w))) (Au c w)).1) (e:=e) hk
    have hq:(C6 (Bc c (Ai c w (As c w))) (Au c w)).1.queue=(Bc c (Ai c w (As c w))).queue++[Au c w]:=by
     unfold C6 at hsend ⊢
     split at hsend
     ·rename_i hp;rw [if_pos hp]
     ·cases hsend
    rw [hq,B18] at hfl
    have hwo:=Oc h hW.2
    have hsl:=hwo.2.1.1
    rw [Vw (Rm hwo) hfo.2.1]
    by_cases hre:(Au c w).stamp.epoch=e
    ·rw [if_pos hre] at hfl
     refine .send w.toNat (Em (Dv (A9 c w)) (Au c w).stamp.epoch 1) hj ?_ ?_ rfl rfl rfl ?_ rfl (A76 rfl hj rfl)
     ·cases hp:Hu (wk c w.toNat) e with
      |false=>rfl
      |true=>exact absurd hre ((A4e.1 hp).2.2 _ (B9 hs))
     ·unfold A4j Em
      simp only
      rw [hre,A63,if_pos ⟨rfl,by have:=hfo.2.1;show e.toNat<(A9 c w).sums.length;omega⟩]
      rfl
     ·show A6l (Bo c _ _) e=_
      omega
    ·rw [if_neg hre] at hfl
     refine .quiet w.toNat _ hj (B1h.trans (B0v he hfo.2.1.1 hre)) rfl ?_ rfl (A76 rfl hj rfl)
     show A6l (Bo c _ _) e=_
     omega
   ·exact A7t.same h
 ·exact A7t.same h
theorem B5n {c:A3}{f t e:Int}(h:Ar c)(he:0≤e):A7t e c (Ck c f t).1:=by
 unfold Ck
 split
 ·rename_i hm
  obtain ⟨hL,hk⟩:=hm
  have ht:0≤t∧t<c.workers.length:=by have:=h.1.2.1;have:=hL.2.2.2;omega
  have hj:t.toNat<c.workers.length:=by omega
  have hto:=(A35 hL hk).1
  have hkb:=(I4 hL.1 hL.2.2.1 hL.2.2.2).1
  have hfl:=A9u (l:=(Bn (Bc c (Ai c f t))).1) (e:=e) hkb
  have hq:(Bn (Bc c (Ai c f t))).1.queue=(Bc c (Ai c f t)).queue.drop 1∧(Bn (Bc c (Ai c f t))).2.1=(Bc c (Ai c f t)).queue.getD 0 default∧0<(Bc c (Ai c f t)).queue.length:=by
   unfold Bn at hk ⊢
   split at hk
   ·rename_i hp;rw [if_pos hp];exact ⟨rfl,rfl,hp.2⟩
   ·cases hk
  have hdr:=B17 (e:=e) hq.2.2
  rw [hq.1] at hfl
  rw [←hq.2.1] at hdr
  have hwo:=Oc h ht
  obtain ⟨hsl1,hsl2,hsl3⟩:=hwo.2.1
  have hre:=Vm hwo (r:=Jz c f t) hto.2.1
  show A7t e c (Av _ t (F1 (A9 c t) (Jz c f t)))
  rw [hre]
  by_cases hee:(Jz c f t).stamp.epoch=e
  ·have hee':(Bn (Bc c (Ai c f t))).2.1.stamp.epoch=e:=hee
   rw [if_pos hee'] at hdr
   have hew:=hto.2.1
   refine .take t.toNat (I1 (Em (kept (A9 c t) (Jz c f t)) (Jz c f t).stamp.epoch (-1)) (Jz c f t).stamp.epoch) hj ?_ ?_ rfl rfl ?_ rfl (A76 rfl hj rfl)
   ·unfold A4j I1 Em kept
    simp only
    rw [hee,A63,if_pos ⟨rfl,by show e.toNat<(A9 c t).sums.length;omega⟩]
    rfl
   ·unfold A51 I1 Em kept
    simp only
    rw [hee,A63,if_pos ⟨rfl,by show e.toNat<(A9 c t).black.length;omega⟩]
   ·show A6l (Bo c _ _) e+1=_
    omega
  ·have hee':¬ (Bn (Bc c (Ai c f t))).2.1.stamp.epoch=e:=hee
   rw [if_neg hee'] at hdr
   refine .quiet t.toNat _ hj (((B29 hee).trans (B0v he hto.2.1.1 hee)).trans (B1w he hto.2.1.1 hee)) rfl ?_ rfl (A76 rfl hj rfl)
   show A6l (Bo c _ _) e=_
   omega
 ·exact A7t.same h
theorem B4e {c:A3}{f t e:Int}(h:Ar c):A7t e c (Cq c f t).1:=by
 unfold Cq
 split
 ·rename_i hL
  have hl:0<c.workers.length:=by have:=h.1.2.1;have:=h.1.1.2.1;omega
  have hkb:=(I4 h hL.2.2.1 hL.2.2.2).1
  have hfl:=A9u (l:=(D4 (Bc c (Ai c f t))).1) (e:=e) hkb
  have hq:(D4 (Bc c (Ai c f t))).1.queue=(Bc c (Ai c f t)).queue:=by
   unfold D4
   split<;>rfl
  rw [hq] at hfl
  refine .quiet 0 (wk c 0) hl (A7u.refl e _) ?_ ?_ rfl rfl
  ·apply List.ext_getElem?
   intro i
   rw [List.getElem?_set]
   split
   ·rename_i h0;subst h0;simp only [Bo];rw [List.getElem?_eq_getElem hl];simp [wk,List.getD,hl]
   ·rfl
  ·show A6l (Bo c _ _) e=_
   omega
 ·exact A7t.same h
theorem B5j {c:A3}{w e:Int}(h:Ar c)(hN:B4b c):A7t e c (D9 c w).1:=by
 unfold D9
 split
 ·rename_i hn
  obtain ⟨m1,m2⟩:=O0 hn.1 hn.2
  have hNw:=hn.1.2.2.2.2 _ m1
  have hw:0≤w∧w<c.workers.length:=by have:=hn.1.1.2.1;have:=hNw.1;omega
  have hl:0<c.workers.length:=by omega
  split
  ·refine .quiet 0 (wk c 0) hl (A7u.refl e _) ?_ rfl rfl rfl
   apply List.ext_getElem?
   intro i
   rw [List.getElem?_set]
   split
   ·rename_i h0;subst h0;simp only [Ip];rw [List.getElem?_eq_getElem hl];simp [wk,List.getD,hl]
   ·rfl
  ·rename_i hd
   have hj:w.toNat<c.workers.length:=by omega
   refine .quiet w.toNat _ hj (A9e (d:=⟨(Fa c w).epoch,(Fa c w).capped⟩)) rfl rfl rfl ?_
   have hne:w.toNat≠0:=fun e0=>by
    have:=hN.1 _ m1
    rw [A8s,e0] at hd
    exact hd this
   rw [A62 (c:=c) (c':=Av (Ip c w) w (Fj (A9 c w) ⟨(Fa c w).epoch,(Fa c w).capped⟩)) rfl hj,if_neg (Ne.symm hne)]
 ·exact A7t.same h
theorem T7 {c:A3}{e e':Int}{t:Dw}(he:0≤e)(he':0≤e'):Ab (Cs c e' t) e=if e=e'∧e'.toNat<c.tokens.length then t else Ab c e:=by
 unfold Ab Cs
 simp only
 rw [A63]
 by_cases h:e=e'
 ·subst h;simp
 ·rw [if_neg (fun q=>h (by have:=q.1;omega)),if_neg (fun q=>h q.1)]
theorem A8p {c:A3}{j e:Int}{w:Ad}:Ab (Av c j w) e=Ab c e:=rfl
theorem B25 {w:Ad}{e:Int}{b:Bool}(h:En w e=false):A6i (Fj w ⟨e,b⟩) e=(⟨e,b⟩,true):=by
 have h1:En (Fj w ⟨e,b⟩) e=true:=by simp [En,Fj]
 have h2:∀(l:List Fv),(l.any fun d=>d.epoch==e)=false→Gj (fun d:Fv=>d.epoch==e) (l++[⟨e,b⟩])=l.length:=by
  intro l
  induction l with
  |nil=>intro _;simp [Gj]
  |cons x r ih=>
   intro hx
   simp only [List.any_cons,Bool.or_eq_false_iff] at hx
   simp only [List.cons_append,Gj,hx.1,Bool.false_eq_true,if_false,List.length_cons]
   rw [ih hx.2]
 unfold A6i
 rw [if_pos h1]
 simp only [Fj]
 rw [h2 w.dones h]
 simp [List.getD]
theorem B1z {w:Ad}{e e':Int}{b:Bool}(hne:e'≠e):A6i (Fj w ⟨e',b⟩) e=A6i w e:=by
 have h2:∀(l:List Fv),((l++[(⟨e',b⟩:Fv)]).any fun d=>d.epoch==e)=l.any fun d=>d.epoch==e:=by
  intro l
  simp [hne]
 have h3:∀(l:List Fv),(l.any fun d=>d.epoch==e)=true→Gj (fun d:Fv=>d.epoch==e) (l++[⟨e',b⟩])=Gj (fun d:Fv=>d.epoch==e) l∧Gj (fun d:Fv=>d.epoch==e) l<l.length:=by
  intro l
  induction l with
  |nil=>intro h;simp at h
  |cons x r ih=>
   intro hx
   simp only [List.cons_append,Gj]
   by_cases hxe:(x.epoch==e)=true
   ·simp [hxe]
   ·simp only [List.any_cons,Bool.or_eq_true] at hx
    have:=ih (hx.resolve_left hxe)
    rw [if_neg hxe,if_neg hxe]
    simp only [List.length_cons]
    omega
 unfold A6i En Fj
 simp only
 rw [h2]
 split
 ·rename_i hd
  obtain ⟨q1,q2⟩:=h3 _ hd
  rw [q1]
  congr 1
  simp only [List.getD]
  rw [List.getElem?_append_left q2]
 ·rfl
theorem A92 {w w':Ad}{e:Int}(h1:w'.inputs=w.inputs)(h2:w'.queue=w.queue)(h3:w'.staged=w.staged):Hu w' e=Hu w e:=by
 unfold Hu Qp Xs
 rw [h1,h2,h3]
theorem B5a {c:A3}{e e':Int}(h:Ar c)(he:0≤e∧e≤3):A7t e c (C2 c e').1:=by
 unfold C2
 split
 ·rename_i hT
  obtain ⟨_,he',hD,hP⟩:=hT
  have htl:=h.1.2.2.2
  have hTP:Nl c.graph.workers (Ab c e'):=h.2.2.2.1 _ (B9 (d:=default) (show e'.toNat<c.tokens.length by omega))
  have hn1:=h.1.1.2.1
  have hwl:=h.1.2.1
  have hat:0≤(Ab c e').at_∧(Ab c e').at_<c.workers.length:=by have:=hTP.1;omega
  have hj:(Ab c e').at_.toNat<c.workers.length:=by omega
  obtain ⟨hwo1,hwo2,hwo3⟩:=(Oc h hat).2.1
  have hwb:(H3 (A9 c (Ab c e').at_) e').black.getD e'.toNat default=false:=by
   unfold H3
   simp only
   rw [A63,if_pos ⟨rfl,by omega⟩]
  simp only
  split
  ·rename_i hg
   have hA:=hTP.2.1 hg
   by_cases hee:e'=e
   ·subst hee
    refine .start ⟨h,he',hD,hP⟩ hg (H3 (A9 c (Ab c e').at_) e') (by rw [hA];rfl) hwb (by rw [hA];rfl) ?_ (by rw [hA];rfl) rfl ?_ (A76 (j:=(Ab c e').at_.toNat) rfl hj rfl)
    ·exact (A92 (w:=A9 c (Ab c e').at_) (w':=H3 (A9 c (Ab c e').at_) e') rfl rfl rfl).trans hP
    ·rw [A8p,T7 he.1 he.1,if_pos ⟨rfl,by omega⟩,hA]
     rfl
   ·refine .quiet (Ab c e').at_.toNat _ hj (A95 he.1 he'.1 hee) rfl rfl ?_ (A76 (j:=(Ab c e').at_.toNat) rfl hj rfl)
    rw [A8p,T7 he.1 he'.1,if_neg (fun q=>hee q.1.symm)]
  ·rename_i hg
   have hg:(Ab c e').going=true:=by simpa using hg
   split
   ·rename_i ha
    split
    ·by_cases hee:e'=e
     ·subst hee
      have hca:(((Ab c e').at_.toNat:Nat):Int)=(Ab c e').at_:=by omega
      refine .pass ⟨h,he',hD,hP⟩ hg (Ab c e').at_.toNat Ag Ag hj (H3 (A9 c (Ab c e').at_) e') rfl hwb rfl ?_ rfl rfl ?_ (A76 (j:=(Ab c e').at_.toNat) rfl hj rfl)
      ·exact (A92 (w:=A9 c (Ab c e').at_) (w':=H3 (A9 c (Ab c e').at_) e') rfl rfl rfl).trans hP
      ·rw [A8p,T7 he.1 he.1,if_pos ⟨rfl,by omega⟩,hca,hg]
       rfl
     ·refine .quiet (Ab c e').at_.toNat _ hj (A95 he.1 he'.1 hee) rfl rfl ?_ (A76 (j:=(Ab c e').at_.toNat) rfl hj rfl)
      rw [A8p,T7 he.1 he'.1,if_neg (fun q=>hee q.1.symm)]
    ·exact A7t.same h
   ·rename_i ha
    have hA:(Ab c e').at_=0:=by omega
    have hl:0<c.workers.length:=by omega
    unfold H2
    split
    ·rename_i hyes
     have hD':En (A9 c (Ab c e').at_) e'=false:=by rw [hA];exact hD
     by_cases hee:e'=e
     ·subst hee
      have hwk:A9 c (Ab c e').at_=wk c 0:=by rw [hA];rfl
      rw [hwk] at hyes hD' ⊢
      refine .told ⟨h,he',hD,hP⟩ hg hA hyes.1 hyes.2.1 hyes.2.2 _ (A9e (d:=⟨e',(Ab c e').capped||(wk c 0).caps.getD e'.toNat default⟩)) rfl rfl ?_ ?_
      ·show Ab (Cs c e' _) e'=_
       rw [T7 he.1 he.1,if_pos ⟨rfl,by omega⟩,hA]
      ·rw [A62 (c:=c) (c':=Mj (Av (Cs c e' _) 0 (Fj (wk c 0) ⟨e',(Ab c e').capped||(wk c 0).caps.getD e'.toNat default⟩)) _) (j:=0) rfl hl,if_pos rfl]
       exact B25 hD'
     ·have hwk:A9 c (Ab c e').at_=wk c 0:=by rw [hA];rfl
      rw [hwk]
      refine .quiet 0 _ hl (A9e (d:=⟨e',(Ab c e').capped||(wk c 0).caps.getD e'.toNat default⟩)) rfl rfl ?_ ?_
      ·show Ab (Cs c e' _) e=_
       rw [T7 he.1 he'.1,if_neg (fun q=>hee q.1.symm)]
      ·rw [A62 (c:=c) (c':=Mj (Av (Cs c e' _) 0 (Fj (wk c 0) ⟨e',(Ab c e').capped||(wk c 0).caps.getD e'.toNat default⟩)) _) (j:=0) rfl hl,if_pos rfl]
       exact B1z hee
    ·rename_i hno
     by_cases hee:e'=e
     ·subst hee
      refine .fail ⟨h,he',hD,hP⟩ hg hA (fun q=>hno (by rw [hA];exact q)) rfl rfl ?_ rfl
      rw [T7 he.1 he.1,if_pos ⟨rfl,by omega⟩,hA]
     ·have:=A7t.same (e:=e) h
      refine .quiet 0 (wk c 0) hl (A7u.refl e _) ?_ rfl ?_ rfl
      ·apply List.ext_getElem?
       intro i
       rw [List.getElem?_set]
       split
       ·rename_i h0;subst h0;simp only [Cs];rw [List.getElem?_eq_getElem hl];simp [wk,List.getD,hl]
       ·rfl
      ·rw [T7 he.1 he'.1,if_neg (fun q=>hee q.1.symm)]
 ·exact A7t.same h
theorem A9a {c:A3}{p:Bl}{e:Int}(h:Ar c)(hN:B4b c)(he:0≤e∧e≤3):A7t e c (Ao c p).1:=by
 unfold Ao
 split
 ·exact B5q h he.1
 split
 ·exact B45 h
 split
 ·exact B5l h he.1
 split
 ·exact B5n h he.1
 split
 ·exact B4e h
 split
 ·exact B5a h he
 split
 ·exact B5j h hN
 ·exact A7t.same h
end Go.Proofs.Ytonodkjaoalfjaa
