/- Part 18 of the proof that each of the laws FnTight returns true for every input. No conditions. -/
import Derived.Test.YtonodkjaoalfjaaP17

set_option linter.unusedSimpArgs false
set_option linter.unusedVariables false
set_option maxRecDepth 100000
namespace Go.Proofs.Ytonodkjaoalfjaa
open Go.Sx
theorem B09 {α:Type} [Inhabited α]:∀(l:List α) (j:Nat),l.set j (l.getD j default)=l
 | [],_=>rfl
 |x::r,0=>rfl
 |x::r,j+1=>congrArg (x:: ·) (by rw [List.getD_cons_succ];exact B09 r j)
theorem A8z (c:A3)(w:Int):Av c w (A9 c w)=c:=by
 unfold Av A9
 rw [B09]
theorem B2x (c:A3)(k:Int):Bo c k (Bc c k)=c:=by
 unfold Bo Bc
 rw [B09]
theorem B0b {c:A3}{p:Bl}(h:(Ao c p).2=false):(Ao c p).1=c:=by
 unfold Ao at *
 split at h
 ·rename_i k
  rw [if_pos k]
  unfold Df at *
  split at h
  ·rename_i hw
   rw [if_pos hw]
   simp only at h ⊢
   unfold H4 at *
   split at h
   ·cases h
   ·rename_i hn
    rw [if_neg hn]
    exact A8z c _
  ·rename_i hw;rw [if_neg hw]
 rename_i k1
 rw [if_neg k1]
 split at h
 ·rename_i k
  rw [if_pos k]
  unfold Ct at *
  split at h
  ·rename_i hw
   rw [if_pos hw]
   simp only at h ⊢
   unfold Et at *
   split at h
   ·cases h
   ·rename_i hn
    rw [if_neg hn]
    exact A8z c _
  ·rename_i hw;rw [if_neg hw]
 rename_i k2
 rw [if_neg k2]
 split at h
 ·rename_i k
  rw [if_pos k]
  unfold Br at *
  split at h
  ·rename_i hw
   rw [if_pos hw]
   split at h
   ·cases h
   ·rename_i hn
    rw [if_neg hn]
    split at h
    ·cases h
    ·rename_i hs;rw [if_neg hs]
  ·rename_i hw;rw [if_neg hw]
 rename_i k3
 rw [if_neg k3]
 split at h
 ·rename_i k
  rw [if_pos k]
  unfold Ck at *
  split at h
  ·cases h
  ·rename_i hw;rw [if_neg hw]
 rename_i k4
 rw [if_neg k4]
 split at h
 ·rename_i k
  rw [if_pos k]
  unfold Cq at *
  split at h
  ·rename_i hw
   rw [if_pos hw]
   simp only at h ⊢
   unfold D4 at *
   split at h
   ·cases h
   ·rename_i hn
    rw [if_neg hn]
    exact B2x c _
  ·rename_i hw;rw [if_neg hw]
 rename_i k5
 rw [if_neg k5]
 split at h
 ·rename_i k
  rw [if_pos k]
  unfold C2 at *
  dsimp only at *
  split at h
  ·rename_i hT
   rw [if_pos hT]
   split at h
   ·cases h
   ·rename_i hg
    rw [if_neg hg]
    split at h
    ·rename_i ha
     rw [if_pos ha]
     split at h
     ·cases h
     ·rename_i hs;rw [if_neg hs]
    ·cases h
  ·rename_i hT;rw [if_neg hT]
 rename_i k6
 rw [if_neg k6]
 split at h
 ·rename_i k
  rw [if_pos k]
  unfold D9 at *
  split at h
  ·cases h
  ·rename_i hw;rw [if_neg hw]
 ·rename_i k;rw [if_neg k]
theorem B1r:∀(l:List Bl) (s:A3×List Bool),(s.2.filter id).length≤((l.foldl F2 s).2.filter id).length
 | [],_=>Nat.le_refl _
 |p::l,s=>by
  have:=B1r l (F2 s p)
  simp only [List.foldl_cons]
  refine Nat.le_trans ?_ this
  unfold F2
  simp only [List.filter_append,List.length_append]
  omega
theorem B1s:∀(l:List Bl) (s:A3×List Bool),((l.foldl F2 s).2.filter id).length=(s.2.filter id).length→(l.foldl F2 s).1=s.1∧∀p∈l,Ao s.1 p=(s.1,false)
 | [],_,_=>⟨rfl,fun p hp=>by cases hp⟩
 |p::l,s,h=>by
  simp only [List.foldl_cons] at h ⊢
  have h1:=B1r l (F2 s p)
  have h2:(Ao s.1 p).2=false:=by
   cases hb:(Ao s.1 p).2 with
   |false=>rfl
   |true=>
    have:((F2 s p).2.filter id).length=(s.2.filter id).length+1:=by
     unfold F2
     simp only [List.filter_append,List.length_append,hb]
     rfl
    omega
  have h3:=B0b h2
  have h4:((F2 s p).2.filter id).length=(s.2.filter id).length:=by
   unfold F2
   simp only [List.filter_append,List.length_append,h2]
   rfl
  have h5:(F2 s p).1=s.1:=h3
  obtain ⟨g1,g2⟩:=B1s l (F2 s p) Ag
  rw [h5] at g1 g2
  refine ⟨g1,fun q hq=>?_⟩
  rcases List.mem_cons.1 hq with rfl|hq
  ·exact Prod.ext h3 h2
  ·exact g2 q hq
theorem B3k {c:A3}(h:(A4a c).2=0):(A4a c).1=c∧∀p∈Ru (Ou c),Ao c p=(c,false):=B1s _ (c,[]) h
def A9p (c:A3) (e:Int):Prop:=(∀i,i<c.workers.length→Hu (wk c i) e=true)∧A6l c e=0
theorem A9p.step {e:Int}{c c':A3}(h:A7t e c c')(hl:0<c.workers.length)(ho:A9p c e):A9p c' e:=by
 have hlen:=h.len
 have key:∀(j:Nat) (w:Ad),j<c.workers.length→c'.workers=c.workers.set j w→Hu w e=true→A6l c' e=A6l c e→A9p c' e:=by
  intro j w hj hw hp hf
  refine ⟨fun i hi=>?_,by rw [hf];exact ho.2⟩
  rw [A62 hw hj]
  split
  ·exact hp
  ·exact ho.1 i Ag
 cases h with
 |quiet j w' hj hq hw hf ht hd=>exact key j w' hj hw (hq.2.2.2 (ho.1 j hj)).1 hf
 |send j w' hj hp h1 h2 h3 hw hf ht hd=>have:=ho.1 j hj;rw [hp] at this;cases this
 |take j w' hj h1 h2 h3 hw hf ht hd=>have:=ho.2;omega
 |start hT hg w' h1 h2 h3 h4 hw hf ht hd=>exact key 0 w' hl hw h4 hf
 |pass hT hg j ha h0 hj w' h1 h2 h3 h4 hw hf ht hd=>exact key j w' hj hw h4 hf
 |fail hT hg ha hno hw hf ht hd=>
  refine ⟨fun i hi=>?_,by rw [hf];exact ho.2⟩
  have:wk c' i=wk c i:=by unfold wk;rw [hw]
  rw [this]
  exact ho.1 i Ag
 |told hT hg ha hb hb0 hs0 w' hq hw hf ht hd=>exact key 0 w' hl hw (hq.2.2.2 (ho.1 0 hl)).1 hf
def A7l (c:A3) (e a:Int):Prop:=∀i:Nat,i<c.workers.length→a<(i:Int)→A51 (wk c i) e=false
def A80 (c:A3) (e:Int):Prop:=(Ab c e).black=false∧(∀i:Nat,i<c.workers.length→(i:Int)≤(Ab c e).at_→A51 (wk c i) e=false)∧(Ab c e).sum+A74 c e ((Ab c e).at_.toNat+1)=0
instance (c:A3) (e a:Int):Decidable (A7l c e a):=by unfold A7l;infer_instance
instance (c:A3) (e:Int):Decidable (A80 c e):=by unfold A80;infer_instance
def A7s (c:A3) (e:Int):Nat:=
 if En (wk c 0) e=true then 0
 else if (Ab c e).going=true then
  (Ab c e).at_.toNat+1+(if A80 c e then 0 else if A7l c e (Ab c e).at_ then c.workers.length+1 else 2 * (c.workers.length+1))
 else if A7l c e 0 then c.workers.length+1 else 2 * (c.workers.length+1)
theorem B49 {c:A3}{e:Int}(h:Ar c)(he:0≤e∧e≤3):A7s c e≤14:=by
 have:=B02 h he
 have hn:c.workers.length≤4:=by have:=h.1.2.1;have:=h.1.1.2.1;omega
 unfold A7s
 (repeat' split)<;>omega
theorem B31 {c:A3}{e:Int}(h:A7s c e=0):En (wk c 0) e=true:=by
 unfold A7s at h
 (repeat' split at h)<;>first|assumption|omega
theorem B3z {c c':A3}{e:Int}{j:Nat}{w:Ad}(hj:j<c.workers.length)(hw:c'.workers=c.workers.set j w)(hs:A4j w e=A4j (wk c j) e)(hb:A51 w e=A51 (wk c j) e)(ht:Ab c' e=Ab c e)
  (hat:0≤(Ab c e).at_∧(Ab c e).at_<c.workers.length)(hd:En (wk c' 0) e=En (wk c 0) e):A7s c' e=A7s c e:=by
 have hlen:c'.workers.length=c.workers.length:=by rw [hw,List.length_set]
 have hbl:∀i,A51 (wk c' i) e=A51 (wk c i) e:=fun i=>by
  rw [A62 hw hj]
  split
  ·rename_i e0;subst e0;exact hb
  ·rfl
 have hsum:∀k,k≤c.workers.length→A74 c' e k=A74 c e k:=fun k hk=>A64 hw hj hs hk
 have h1:A80 c' e↔A80 c e:=by
  unfold A80
  rw [ht,hlen,hsum _ Ag]
  simp only [hbl]
 have h2:∀a,A7l c' e a↔A7l c e a:=fun a=>by
  unfold A7l
  rw [hlen]
  simp only [hbl]
 unfold A7s
 rw [hd,ht,hlen]
 simp only [h1,h2]
theorem A9j {c c':A3}{e:Int}(h:A6i (wk c' 0) e=A6i (wk c 0) e):En (wk c' 0) e=En (wk c 0) e:=by
 rw [←A8f,←A8f,h]
theorem B30 {e:Int}{c c':A3}(h:A7t e c c')(hC:Ar c)(he:0≤e∧e≤3)(ho:A9p c e)(hS:A81 c e):
  A7s c' e≤A7s c e∧(Ab c' e≠Ab c e→A7s c' e+1≤A7s c e):=by
 have hlen:=h.len
 have hat:=B02 hC he
 have hl:=A8v hC
 have hall:A74 c e c.workers.length=0:=by unfold A81 at hS;rw [hS,ho.2];rfl
 cases h with
 |quiet j w' hj hq hw hf ht hd=>
  have:=B3z hj hw hq.1 hq.2.1 ht hat (A9j hd)
  exact ⟨by omega,fun q=>absurd ht q⟩
 |send j w' hj hp h1 h2 h3 hw hf ht hd=>have:=ho.1 j hj;rw [hp] at this;cases this
 |take j w' hj h1 h2 h3 hw hf ht hd=>have:=ho.2;omega
 |start hT hg w' h1 h2 h3 h4 hw hf ht hd=>
  have hnd:En (wk c 0) e=false:=hT.2.2.1
  have hnd':En (wk c' 0) e=false:=by rw [A9j hd];exact hnd
  have hbl:∀i,A51 (wk c' i) e=if i=0 then false else A51 (wk c i) e:=fun i=>by
   rw [A62 hw hl]
   split
   ·exact h2
   ·rfl
  have hR:A7s c' e+1≤A7s c e:=by
   have e1:A7s c e=if A7l c e 0 then c.workers.length+1 else 2 * (c.workers.length+1):=by
    unfold A7s
    rw [if_neg (by rw [hnd];decide),if_neg (by rw [hg];decide)]
   have e2:A7s c' e=c.workers.length+(if A80 c' e then 0 else if A7l c' e (c.workers.length-1) then c.workers.length+1 else 2 * (c.workers.length+1)):=by
    unfold A7s
    rw [if_neg (by rw [hnd'];decide),if_pos (by rw [ht]),ht,hlen]
    simp only
    omega
   rw [e1,e2]
   have hw1:A7l c' e (c.workers.length-1):=fun i hi hi'=>by omega
   rw [if_pos hw1]
   by_cases hu:A7l c e 0
   ·rw [if_pos hu]
    have hg':A80 c' e:=by
     refine ⟨by rw [ht],fun i hi _=>?_,?_⟩
     ·rw [hbl]
      split
      ·rfl
      ·exact hu i Ag Ag
     ·rw [ht]
      simp only
      rw [show ((c.workers.length:Int)-1).toNat+1=c.workers.length by omega,A64 hw hl h1 (Nat.le_refl _),hall]
      rfl
    rw [if_pos hg']
    omega
   ·rw [if_neg hu]
    split<;>omega
  exact ⟨by omega,fun _=>hR⟩
 |pass hT hg j ha h0 hj w' h1 h2 h3 h4 hw hf ht hd=>
  have hnd:En (wk c 0) e=false:=hT.2.2.1
  have hnd':En (wk c' 0) e=false:=by rw [A9j hd];exact hnd
  have hbl:∀i,A51 (wk c' i) e=if i=j then false else A51 (wk c i) e:=fun i=>by
   rw [A62 hw hj]
   split
   ·exact h2
   ·rfl
  have hR:A7s c' e+1≤A7s c e:=by
   have e1:A7s c e=j+1+(if A80 c e then 0 else if A7l c e j then c.workers.length+1 else 2 * (c.workers.length+1)):=by
    unfold A7s
    rw [if_neg (by rw [hnd];decide),if_pos hg,ha]
    simp only [Int.toNat_natCast]
   have e2:A7s c' e=j+(if A80 c' e then 0 else if A7l c' e ((j:Int)-1) then c.workers.length+1 else 2 * (c.workers.length+1)):=by
    unfold A7s
    rw [if_neg (by rw [hnd'];decide),if_pos (by rw [ht]),ht,hlen]
    simp only
    rw [show ((j:Int)-1).toNat+1=j by omega]
   rw [e1,e2]
   by_cases hG:A80 c e
   ·have hG':A80 c' e:=by
     obtain ⟨g1,g2,g3⟩:=hG
     refine ⟨?_,fun i hi hi'=>?_,?_⟩
     ·rw [ht]
      simp only
      rw [g1,g2 j hj Ag]
      rfl
     ·rw [hbl]
      split
      ·rfl
      ·rw [ht] at hi'
       simp only at hi'
       exact g2 i Ag Ag
     ·rw [ht]
      simp only
      rw [show ((j:Int)-1).toNat+1=j by omega,A64 hw hj h1 Ag]
      rw [show (Ab c e).at_.toNat+1=j+1 by omega,A8i hj] at g3
      omega
    rw [if_pos hG,if_pos hG']
    omega
   ·rw [if_neg hG]
    by_cases hu:A7l c e j
    ·have hu':A7l c' e ((j:Int)-1):=fun i hi hi'=>by
      rw [hbl]
      split
      ·rfl
      ·exact hu i Ag Ag
     rw [if_pos hu,if_pos hu']
     split<;>omega
    ·rw [if_neg hu]
     split
     ·omega
     ·split<;>omega
  exact ⟨by omega,fun _=>hR⟩
 |fail hT hg ha hno hw hf ht hd=>
  have hnd:En (wk c 0) e=false:=hT.2.2.1
  have hnd':En (wk c' 0) e=false:=by rw [A9j hd];exact hnd
  have hwk:∀i,wk c' i=wk c i:=fun i=>by unfold wk;rw [hw]
  have hR:A7s c' e+1≤A7s c e:=by
   have hng:¬ A80 c e:=by
    rintro ⟨g1,g2,g3⟩
    refine hno ⟨g1,g2 0 hl Ag,?_⟩
    rw [ha,show (0:Int).toNat+1=0+1 from rfl,A8i hl,A9h] at g3
    omega
   have e1:A7s c e=1+(if A7l c e 0 then c.workers.length+1 else 2 * (c.workers.length+1)):=by
    unfold A7s
    rw [if_neg (by rw [hnd];decide),if_pos hg,ha,if_neg hng]
    rfl
   have e2:A7s c' e=(if A7l c e 0 then c.workers.length+1 else 2 * (c.workers.length+1)):=by
    have h2:A7l c' e 0↔A7l c e 0:=by unfold A7l;rw [hlen];simp only [hwk]
    unfold A7s
    rw [if_neg (by rw [hnd'];decide),if_neg (by rw [ht];exact Bool.false_ne_true),hlen]
    simp only [h2]
   omega
  exact ⟨by omega,fun _=>hR⟩
 |told hT hg ha hb hb0 hs0 w' hq hw hf ht hd=>
  have hnd:En (wk c 0) e=false:=hT.2.2.1
  have hR:A7s c' e+1≤A7s c e:=by
   have e2:A7s c' e=0:=by
    unfold A7s
    rw [if_pos (by rw [←A8f,hd])]
   have e1:1≤A7s c e:=by
    unfold A7s
    rw [if_neg (by rw [hnd];decide),if_pos hg]
    omega
   omega
  exact ⟨by omega,fun _=>hR⟩
theorem B39 {c:A3}{e:Int}{k:Nat}(hR:A60 k c)(hk:k<200000)(he:0≤e∧e≤3)(hT:Mf c e):Ab (C2 c e).1 e≠Ab c e∧(C2 c e).2=true:=by
 have htl:=hR.ok.1.2.2.2
 have hat:=B02 hR.ok he
 cases hg:(Ab c e).going with
 |false=>
  rw [A09 hT hg]
  refine ⟨fun q=>?_,rfl⟩
  rw [A8p,T7 he.1 he.1,if_pos ⟨rfl,by omega⟩] at q
  rw [←q] at hg
  cases hg
 |true=>
  by_cases ha:(Ab c e).at_>0
  ·have hs:=hR.sums (Ab c e).at_.toNat Ag e he.1 he.2
   have hS:Gu ((Ab c e).sum+(A9 c (Ab c e).at_).sums.getD e.toNat default):=by
    have:=hR.toks e he.1 he.2
    have e0:(A9 c (Ab c e).at_).sums.getD e.toNat default=A4j (wk c (Ab c e).at_.toNat) e:=rfl
    rw [e0]
    have hn:c.workers.length≤4:=by have:=hR.ok.1.2.1;have:=hR.ok.1.1.2.1;omega
    unfold B0m at this
    unfold Gu
    omega
   rw [Ng hT hg ha hS]
   refine ⟨fun q=>?_,rfl⟩
   rw [A8p,T7 he.1 he.1,if_pos ⟨rfl,by omega⟩] at q
   have:=congrArg Dw.at_ q
   simp only at this
   omega
  ·rw [Nf hT hg ha]
   refine ⟨fun q=>?_,rfl⟩
   have h0:Ab (H2 (Cs c e ⟨false,(Ab c e).at_,(Ab c e).sum,(Ab c e).black,(Ab c e).capped⟩) e (Ab c e) (A9 c (Ab c e).at_)) e=⟨false,(Ab c e).at_,(Ab c e).sum,(Ab c e).black,(Ab c e).capped⟩:=by
    unfold H2
    split
    ·show Ab (Cs c e _) e=_
     rw [T7 he.1 he.1,if_pos ⟨rfl,by omega⟩]
    ·rw [T7 he.1 he.1,if_pos ⟨rfl,by omega⟩]
   simp only at q
   rw [h0] at q
   rw [←q] at hg
   cases hg
theorem B3r {l:List Fv}(h:We l):l.length≤4:=by
 by_cases hl:l.length≤4
 ·exact hl
 ·have d0:=h 0 Ag
  have d1:=h 1 Ag
  have d2:=h 2 Ag
  have d3:=h 3 Ag
  have d4:=h 4 Ag
  have a10:=d1.2 0 Ag
  have a20:=d2.2 0 Ag
  have a21:=d2.2 1 Ag
  have a30:=d3.2 0 Ag
  have a31:=d3.2 1 Ag
  have a32:=d3.2 2 Ag
  have a40:=d4.2 0 Ag
  have a41:=d4.2 1 Ag
  have a42:=d4.2 2 Ag
  have a43:=d4.2 3 Ag
  have b0:=d0.1
  have b1:=d1.1
  have b2:=d2.1
  have b3:=d3.1
  have b4:=d4.1
  omega
theorem A9r {c:A3}(h:Ar c):(wk c 0).dones.length≤4:=B3r (Oc (w:=0) h ⟨Int.le_refl _,by have:=A8v h;omega⟩).2.2.2.2
structure B4a (c c':A3) (p:Bl):Prop where
 mono:∀i e,En (wk c i) e=true→En (wk c' i) e=true
 meas:∀w:Nat,1≤w→w<c.workers.length→A8b w c'.news+(4-(wk c' 0).dones.length)≤A8b w c.news+(4-(wk c 0).dones.length)
 hear:∀w:Nat,1≤w→p=⟨7,w,0⟩→0<A8b w c.news→A8b w c'.news+(4-(wk c' 0).dones.length)+1≤A8b w c.news+(4-(wk c 0).dones.length)
theorem B4a.nd {c c':A3}{p:Bl}(hk:p.kind≠7)(hn:c'.news=c.news)(hd:∀i,(wk c' i).dones=(wk c i).dones):B4a c c' p:=
 ⟨fun i e h=>by rw [A88 (hd i)];exact h,fun w _ _=>by rw [hn,hd];exact Nat.le_refl _,fun w _ hp _=>absurd (by rw [hp]) hk⟩
theorem B5d {c:A3}{p:Bl}(h:Ar c)(hN:A8a c):B4a c (Ao c p).1 p:=by
 unfold Ao
 split
 ·refine .nd Ag ?_ ?_
  ·unfold Df;split<;>rfl
  ·unfold Df
   split
   ·exact A8h (by unfold H4;split<;>rfl)
   ·exact fun _=>rfl
 split
 ·refine .nd Ag ?_ ?_
  ·unfold Ct;split<;>rfl
  ·unfold Ct
   split
   ·exact A8h (by unfold Et;split<;>rfl)
   ·exact fun _=>rfl
 split
 ·refine .nd Ag ?_ ?_
  ·unfold Br
   split
   ·split
    ·rfl
    ·split<;>rfl
   ·rfl
  ·unfold Br
   split
   ·split
    ·exact A8h rfl
    ·split
     ·exact A8h (c:=Bo c _ _) (by unfold G3;split<;>rfl)
     ·exact fun _=>rfl
   ·exact fun _=>rfl
 split
 ·refine .nd Ag ?_ ?_
  ·unfold Ck;split<;>rfl
  ·unfold Ck
   split
   ·exact A8h (c:=Bo c _ _) (by unfold F1;split<;>rfl)
   ·exact fun _=>rfl
 split
 ·refine .nd Ag ?_ ?_
  ·unfold Cq;split<;>rfl
  ·unfold Cq;split<;>exact fun _=>rfl
 split
 ·rename_i hk
  unfold C2
  dsimp only
  split
  ·rename_i hT
   have hTP:Nl c.graph.workers (Ab c p.a):=h.2.2.2.1 _ (B9 (d:=default) (show p.a.toNat<c.tokens.length by have:=h.1.2.2.2;have:=hT.2.1;omega))
   split
   ·exact .nd Ag rfl (A8h (c:=Cs c _ _) rfl)
   split
   ·split
    ·exact .nd Ag rfl (A8h (c:=Cs c _ _) rfl)
    ·exact .nd Ag rfl fun _=>rfl
   ·rename_i hA
    have hA:(Ab c p.a).at_=0:=by have:=hTP.1;omega
    have hl:=A8v h
    unfold H2
    split
    ·rename_i hyes
     have hw0:A9 c (Ab c p.a).at_=wk c 0:=by rw [hA];rfl
     rw [hw0]
     generalize ((Ab c p.a).capped||(wk c 0).caps.getD p.a.toNat default)=b
     generalize hc1:Cs c p.a ⟨false,(Ab c p.a).at_,(Ab c p.a).sum,(Ab c p.a).black,(Ab c p.a).capped⟩=c1
     have hwk1:∀i,wk c1 i=wk c i:=fun i=>by rw [←hc1];rfl
     have hl1:c1.workers.length=c.workers.length:=by rw [←hc1];rfl
     have hn1:c1.news=c.news:=by rw [←hc1];rfl
     have hws:∀i,wk (Mj (Av c1 0 (Fj (wk c 0) ⟨p.a,b⟩)) (K6 p.a b (c1.workers.length-1))) i=if i=0 then Fj (wk c 0) ⟨p.a,b⟩ else wk c i:=fun i=>by
      rw [A62 (c:=c1) (j:=0) (w:=Fj (wk c 0) ⟨p.a,b⟩) rfl Ag,hwk1]
     have hcok:=(Um (e:=p.a) h)
     have hd4:(wk c 0).dones.length+1≤4:=by
      have e1:(C2 c p.a).1=Mj (Av c1 0 (Fj (wk c 0) ⟨p.a,(Ab c p.a).capped||(wk c 0).caps.getD p.a.toNat default⟩)) (K6 p.a ((Ab c p.a).capped||(wk c 0).caps.getD p.a.toNat default) (c1.workers.length-1)):=by
       unfold C2
       dsimp only
       rw [if_pos hT,if_neg ‹_›,if_neg ‹_›]
       unfold H2
       rw [if_pos hyes,hw0,hc1]
      rw [e1] at hcok
      have:=A9r hcok
      rw [A62 (c:=c1) (j:=0) (w:=Fj (wk c 0) ⟨p.a,(Ab c p.a).capped||(wk c 0).caps.getD p.a.toNat default⟩) rfl Ag,if_pos rfl] at this
      simpa [Fj] using this
     refine ⟨fun i e hd=>?_,fun w h1 h2=>?_,fun w _ hp _=>absurd (by rw [hp]:p.kind=7) Ag⟩
     ·rw [hws]
      split
      ·rename_i e0;subst e0;exact A8u hd
      ·exact hd
     ·rw [hws,if_pos rfl]
      show A8b w (c1.news++K6 p.a b (c1.workers.length-1))+_≤_
      rw [hn1,hl1,A9q,A98,if_pos Ag]
      simp only [Fj,List.length_append,List.length_singleton]
      omega
    ·exact .nd Ag rfl fun _=>rfl
  ·exact .nd Ag rfl fun _=>rfl
 split
 ·rename_i hk
  unfold D9
  split
  ·rename_i hn
   obtain ⟨m1,m2⟩:=O0 h hn.2
   have hNw:=h.2.2.2.2 _ m1
   have hw:0≤p.a∧p.a<c.workers.length:=by have:=h.1.2.1;have:=hNw.1;omega
   have hat:=B1n hn.2
   have hd0:=hN.one.1 _ m1
   have hm2:(c.news.getD (M6 c p.a) default).to_=p.a:=m2
   have hce:∀w:Nat,A8b w (c.news.eraseIdx (M6 c p.a))≤A8b w c.news∧(p.a=w→A8b w (c.news.eraseIdx (M6 c p.a))+1≤A8b w c.news):=fun w=>by
    have:=A9i w c.news (M6 c p.a) hat
    rw [hm2] at this
    split at this<;>omega
   split
   ·refine ⟨fun i e hd=>hd,fun w _ _=>?_,fun w _ hp _=>?_⟩
    ·have:=(hce w).1
     show A8b w (c.news.eraseIdx (M6 c p.a))+(4-(wk c 0).dones.length)≤_
     omega
    ·have:=(hce w).2 (by rw [hp])
     show A8b w (c.news.eraseIdx (M6 c p.a))+(4-(wk c 0).dones.length)+1≤_
     omega
   ·rename_i hdw
    have hne:p.a.toNat≠0:=fun e0=>by
     rw [A8s,e0] at hdw
     exact hdw hd0
    have hj:p.a.toNat<c.workers.length:=by omega
    have hws:∀i,wk (Av (Ip c p.a) p.a (Fj (A9 c p.a) ⟨(Fa c p.a).epoch,(Fa c p.a).capped⟩)) i=if i=p.a.toNat then Fj (A9 c p.a) ⟨(Fa c p.a).epoch,(Fa c p.a).capped⟩ else wk c i:=fun i=>A62 (c:=c) rfl hj
    refine ⟨fun i e hd=>?_,fun w _ _=>?_,fun w _ hp _=>?_⟩
    ·rw [hws]
     split
     ·rename_i e0;subst e0;exact A8u hd
     ·exact hd
    ·rw [hws,if_neg (Ne.symm hne)]
     have:=(hce w).1
     show A8b w (c.news.eraseIdx (M6 c p.a))+(4-(wk c 0).dones.length)≤_
     omega
    ·rw [hws,if_neg (Ne.symm hne)]
     have:=(hce w).2 (by rw [hp])
     show A8b w (c.news.eraseIdx (M6 c p.a))+(4-(wk c 0).dones.length)+1≤_
     omega
  ·rename_i hno
   refine ⟨fun i e hd=>hd,fun w _ _=>Nat.le_refl _,fun w h1 hp hc=>absurd ⟨h,?_⟩ hno⟩
   unfold A8b at hc
   obtain ⟨x,hx⟩:=List.exists_mem_of_length_pos hc
   obtain ⟨hx1,hx2⟩:=List.mem_filter.1 hx
   refine List.any_eq_true.2 ⟨x,hx1,?_⟩
   rw [hp]
   exact hx2
 ·rename_i hk
  exact .nd hk rfl fun _=>rfl
theorem B1p {e:Int}(he:0≤e∧e≤3):∀(l:List Bl) {k:Nat} (s:A3×List Bool),A60 k s.1→k+l.length≤200000→A9p s.1 e→
  A9p (l.foldl F2 s).1 e∧A7s (l.foldl F2 s).1 e≤A7s s.1 e∧((⟨6,e,0⟩:Bl)∈l→A7s s.1 e≠0→A7s (l.foldl F2 s).1 e+1≤A7s s.1 e)
 | [],_,_,_,_,ho=>⟨ho,Nat.le_refl _,fun h=>by cases h⟩
 |p::l,k,s,hR,hk,ho=>by
  simp only [List.length_cons] at hk
  have hE:=A9a (p:=p) hR.ok hR.news.one he
  obtain ⟨r1,r2⟩:=B30 hE hR.ok he ho (hR.sf e he.1 he.2).1
  obtain ⟨i1,i2,i3⟩:=B1p he l (k:=k+1) (F2 s p) (hR.step Ag) Ag (ho.step hE (A8v hR.ok))
  have e1:(F2 s p).1=(Ao s.1 p).1:=rfl
  rw [e1] at i2 i3
  simp only [List.foldl_cons]
  refine ⟨i1,by omega,fun hm hz=>?_⟩
  rcases List.mem_cons.1 hm with hp|hm
  ·have hnd:En (wk s.1 0) e=false:=by
    cases hd:En (wk s.1 0) e with
    |false=>rfl
    |true=>exact absurd (by unfold A7s;rw [if_pos hd]) hz
   have hat:=B02 hR.ok he
   have hT:Mf s.1 e:=⟨hR.ok,he,hnd,ho.1 _ Ag⟩
   have hmv:=(B39 hR Ag he hT).1
   have e2:(Ao s.1 p).1=(C2 s.1 e).1:=by rw [←hp];rfl
   rw [←e2] at hmv
   have:=r2 hmv
   omega
  ·by_cases h0:A7s (Ao s.1 p).1 e=0
   ·omega
   ·have:=i3 hm h0
    omega
def A77 (c:A3) (e:Int) (w:Nat):Nat:=if En (wk c w) e=true then 0 else A8b w c.news+(4-(wk c 0).dones.length)
theorem B2n {c:A3}{e:Int}{w:Nat}(hN:A8a c)(h0:En (wk c 0) e=true)(hw:1≤w∧w<c.workers.length)(hd:En (wk c w) e=false):0<A8b w c.news:=by
 rcases hN.tell e h0 w hw.1 hw.2 with q|⟨x,hx,q1,q2⟩
 ·rw [q] at hd;cases hd
 ·unfold A8b
  exact List.length_pos_of_mem (List.mem_filter.2 ⟨hx,by rw [q1];exact beq_self_eq_true _⟩)
theorem B1m {e:Int}{w:Nat}:∀(l:List Bl) {k:Nat} (s:A3×List Bool),A60 k s.1→k+l.length≤200000→En (wk s.1 0) e=true→1≤w∧w<s.1.workers.length→
  En (wk (l.foldl F2 s).1 0) e=true∧A77 (l.foldl F2 s).1 e w≤A77 s.1 e w∧((⟨7,w,0⟩:Bl)∈l→A77 s.1 e w≠0→A77 (l.foldl F2 s).1 e w+1≤A77 s.1 e w)
 | [],_,_,_,_,h0,_=>⟨h0,Nat.le_refl _,fun h=>by cases h⟩
 |p::l,k,s,hR,hk,h0,hw=>by
  simp only [List.length_cons] at hk
  have hn:=B5d (p:=p) hR.ok hR.news
  have hR':=hR.step (p:=p) Ag
  have hlen:(Ao s.1 p).1.workers.length=s.1.workers.length:=by
   have h1:=hR.ok.1.2.1
   exact (A9a (p:=p) (e:=0) hR.ok hR.news.one ⟨by decide,by decide⟩).len
  obtain ⟨i1,i2,i3⟩:=B1m (e:=e) (w:=w) l (k:=k+1) (F2 s p) hR' Ag (hn.mono 0 e h0) ⟨hw.1,by show w<(Ao s.1 p).1.workers.length;omega⟩
  have e1:(F2 s p).1=(Ao s.1 p).1:=rfl
  rw [e1] at i2 i3
  have hle:A77 (Ao s.1 p).1 e w≤A77 s.1 e w:=by
   unfold A77
   split
   ·omega
   ·rename_i hd'
    rw [if_neg (fun q=>hd' (hn.mono w e q))]
    exact hn.meas w hw.1 hw.2
  simp only [List.foldl_cons]
  refine ⟨i1,by omega,fun hm hz=>?_⟩
  rcases List.mem_cons.1 hm with hp|hm
  ·have hnd:En (wk s.1 w) e=false:=by
    cases hd:En (wk s.1 w) e with
    |false=>rfl
    |true=>exact absurd (by unfold A77;rw [if_pos hd]) hz
   have hlt:A77 (Ao s.1 p).1 e w+1≤A77 s.1 e w:=by
    have:=hn.hear w hw.1 hp.symm (B2n hR.news h0 hw hnd)
    have e2:A77 s.1 e w=A8b w s.1.news+(4-(wk s.1 0).dones.length):=by unfold A77;rw [if_neg (by rw [hnd];decide)]
    rw [e2]
    unfold A77
    split<;>omega
   omega
  ·by_cases h1:A77 (Ao s.1 p).1 e w=0
   ·omega
   ·have:=i3 hm h1
    omega
theorem B4g {c:A3}{e:Int}{w:Nat}(h:Ar c)(hN:A8a c)(hw:1≤w∧w<c.workers.length):A77 c e w≤4:=by
 have h1:=A9r h
 have h2:=hN.cnt w hw.1 hw.2
 unfold A77
 split<;>omega
theorem B28 {c:A3}{e:Int}{w:Nat}(hN:A8a c)(h0:En (wk c 0) e=true)(hw:1≤w∧w<c.workers.length)(h:A77 c e w=0):En (wk c w) e=true:=by
 cases hd:En (wk c w) e with
 |true=>rfl
 |false=>
  have:=B2n hN h0 hw hd
  unfold A77 at h
  rw [if_neg (by rw [hd];decide)] at h
  omega
theorem B4d (n:Nat){e:Int}(he:0≤e∧e≤3):(⟨6,e,0⟩:Bl)∈Ru n:=List.mem_append_right _ (List.mem_map.2 ⟨e.toNat,List.mem_range.2 Ag,by simp only [Bl.mk.injEq,and_true,true_and];omega⟩)
theorem B5g {n w:Nat}(hw:w<n):(⟨1,w,0⟩:Bl)∈Ru n∧(⟨3,w,0⟩:Bl)∈Ru n∧(⟨2,w,0⟩:Bl)∈Ru n∧(⟨7,w,0⟩:Bl)∈Ru n:=by
 have:∀p∈pW w,p∈Ru n:=fun p hp=>List.mem_append_left _ (List.mem_append_left _ (List.mem_flatMap.2 ⟨w,List.mem_range.2 hw,hp⟩))
 refine ⟨this _ ?_,this _ ?_,this _ ?_,this _ ?_⟩<;>simp [pW]
theorem B0g {c:A3}(h:Ar c):Ou c=c.workers.length:=by
 have h1:=h.1.2.1
 have h2:=h.1.1.2.1
 unfold Ou Dn
 rw [if_neg Ag,if_neg Ag]
 omega
theorem B0o {k:Nat}{c:A3}(h:A60 k c):∀n,k+44 * n≤200000→(frN c n).workers.length=c.workers.length
 | 0,_=>rfl
 |n+1,hk=>by
  have ih:=B0o h n Ag
  rw [←ih]
  have hR:=h.frN n Ag
  have key:∀(l:List Bl) {k:Nat} (s:A3×List Bool),A60 k s.1→k+l.length≤200000→(l.foldl F2 s).1.workers.length=s.1.workers.length:=by
   intro l
   induction l with
   |nil=>intro _ _ _ _;rfl
   |cons p l ih=>
    intro k s hR hk
    simp only [List.length_cons] at hk
    have:=ih (k:=k+1) (F2 s p) (hR.step Ag) Ag
    simp only [List.foldl_cons]
    rw [this]
    exact (A9a (p:=p) (e:=0) hR.ok hR.news.one ⟨by decide,by decide⟩).len
  have:=Pv (frN c n)
  exact key (Ru (Ou (frN c n))) (frN c n,[]) hR Ag
theorem A8y {k:Nat}{c:A3}{e:Int}(h:A60 k c)(he:0≤e∧e≤3)(ho:A9p c e):∀n,k+44 * n≤200000→A9p (frN c n) e∧A7s (frN c n) e+n≤14+(if n≤14 then 0 else n-14)
 | 0,_=>⟨ho,by have:=B49 h.ok he;rw [if_pos Ag];exact Nat.le_trans this Ag⟩
 |n+1,hk=>by
  obtain ⟨i1,i2⟩:=A8y h he ho n Ag
  have hR:=h.frN n Ag
  have:=Pv (frN c n)
  obtain ⟨r1,r2,r3⟩:=B1p he (Ru (Ou (frN c n))) (frN c n,[]) hR Ag i1
  refine ⟨r1,?_⟩
  have r2:A7s (frN c (n+1)) e≤A7s (frN c n) e:=r2
  have r3:A7s (frN c n) e≠0→A7s (frN c (n+1)) e+1≤A7s (frN c n) e:=r3 (B4d _ he)
  by_cases hz:A7s (frN c n) e=0
  ·split<;>split at i2<;>omega
  ·have:=r3 hz
   split<;>split at i2<;>omega
theorem B0l {k:Nat}{c:A3}{e:Int}{w:Nat}(h:A60 k c)(h0:En (wk c 0) e=true)(hw:1≤w∧w<c.workers.length):∀n,k+44 * n≤200000→En (wk (frN c n) 0) e=true∧A77 (frN c n) e w+n≤4+(if n≤4 then 0 else n-4)
 | 0,_=>⟨h0,by have:=B4g (e:=e) h.ok h.news hw;rw [if_pos Ag];exact Nat.le_trans this Ag⟩
 |n+1,hk=>by
  obtain ⟨i1,i2⟩:=B0l h h0 hw n Ag
  have hR:=h.frN n Ag
  have:=Pv (frN c n)
  have hlen:=B0o h n Ag
  obtain ⟨r1,r2,r3⟩:=B1m (e:=e) (w:=w) (Ru (Ou (frN c n))) (frN c n,[]) hR Ag i1 ⟨hw.1,by show w<(frN c n).workers.length;omega⟩
  refine ⟨r1,?_⟩
  have r2:A77 (frN c (n+1)) e w≤A77 (frN c n) e w:=r2
  have r3:A77 (frN c n) e w≠0→A77 (frN c (n+1)) e w+1≤A77 (frN c n) e w:=r3 ((B5g (by rw [B0g hR.ok];omega)).2.2.2)
  by_cases hz:A77 (frN c n) e w=0
  ·split<;>split at i2<;>omega
  ·have:=r3 hz
   split<;>split at i2<;>omega
theorem B11 (c:A3)(a:Nat):∀b,frN c (a+b)=frN (frN c a) b
 | 0=>rfl
 |b+1=>by
  show (A4a (frN c (a+b))).1=(A4a (frN (frN c a) b)).1
  rw [B11 c a b]
end Go.Proofs.Ytonodkjaoalfjaa
