/- Part 21 of the proof that each of the laws FnOneWorker returns true for every input. No conditions. -/
import Derived.Test.YtonodkjaoalfjaaGreatP20

set_option linter.unusedSimpArgs false
set_option linter.unusedVariables false
set_option maxRecDepth 100000
namespace Go.Proofs.YtonodkjaoalfjaaGreat
open Go.Sx
theorem Xg {α:Type} [Inhabited α]:∀(l:List α) (j:Nat),l.set j (l.getD j default)=l
 | [],_=>rfl
 |x::r,0=>rfl
 |x::r,j+1=>congrArg (x:: ·) (by rw [List.getD_cons_succ];exact Xg r j)
theorem Gr (c:A3)(w:Int):Av c w (A6 c w)=c:=by
 unfold Av A6
 rw [Xg]
theorem A44 (c:A3)(k:Int):B6 c k (An c k)=c:=by
 unfold B6 An
 rw [Xg]
theorem T2 {c:A3}{p:Bl}(h:(Ag c p).2=false):(Ag c p).1=c:=by
 unfold Ag at *
 split at h
 ·rename_i k
  rw [if_pos k]
  unfold Cr at *
  split at h
  ·rename_i hw
   rw [if_pos hw]
   simp only at h ⊢
   unfold Fk at *
   split at h
   ·cases h
   ·rename_i hn
    rw [if_neg hn]
    exact Gr c _
  ·rename_i hw;rw [if_neg hw]
 rename_i k1
 rw [if_neg k1]
 split at h
 ·rename_i k
  rw [if_pos k]
  unfold Cg at *
  split at h
  ·rename_i hw
   rw [if_pos hw]
   simp only at h ⊢
   unfold Dg at *
   split at h
   ·cases h
   ·rename_i hn
    rw [if_neg hn]
    exact Gr c _
  ·rename_i hw;rw [if_neg hw]
 rename_i k2
 rw [if_neg k2]
 split at h
 ·rename_i k
  rw [if_pos k]
  unfold C6 at *
  split at h
  ·rename_i hw
   rw [if_pos hw]
   split at h
   ·cases h
   ·rename_i hn
    rw [if_neg hn]
    split at h
    ·cases h
    ·rename_i hs;rw [if_neg hs]
  ·rename_i hw;rw [if_neg hw]
 rename_i k3
 rw [if_neg k3]
 split at h
 ·rename_i k
  rw [if_pos k]
  unfold Cd at *
  split at h
  ·cases h
  ·rename_i hw;rw [if_neg hw]
 rename_i k4
 rw [if_neg k4]
 split at h
 ·rename_i k
  rw [if_pos k]
  unfold Br at *
  split at h
  ·rename_i hw
   rw [if_pos hw]
   simp only at h ⊢
   unfold Bn at *
   split at h
   ·cases h
   ·rename_i hn
    rw [if_neg hn]
    exact A44 c _
  ·rename_i hw;rw [if_neg hw]
 rename_i k5
 rw [if_neg k5]
 split at h
 ·rename_i k
  rw [if_pos k]
  unfold Bo at *
  dsimp only at *
  split at h
  ·rename_i hT
   rw [if_pos hT]
   split at h
   ·cases h
   ·rename_i hg
    rw [if_neg hg]
    split at h
    ·rename_i ha
     rw [if_pos ha]
     split at h
     ·cases h
     ·rename_i hs;rw [if_neg hs]
    ·cases h
  ·rename_i hT;rw [if_neg hT]
 rename_i k6
 rw [if_neg k6]
 split at h
 ·rename_i k
  rw [if_pos k]
  unfold D4 at *
  split at h
  ·cases h
  ·rename_i hw;rw [if_neg hw]
 ·rename_i k;rw [if_neg k]
theorem Zr:∀(l:List Bl) (s:A3×List Bool),(s.2.filter id).length≤((l.foldl Cl s).2.filter id).length
 | [],_=>Nat.le_refl _
 |p::l,s=>by
  have:=Zr l (Cl s p)
  simp only [List.foldl_cons]
  refine Nat.le_trans ?_ this
  unfold Cl
  simp only [List.filter_append,List.length_append]
  omega
theorem Zs:∀(l:List Bl) (s:A3×List Bool),((l.foldl Cl s).2.filter id).length=(s.2.filter id).length→(l.foldl Cl s).1=s.1∧∀p∈l,Ag s.1 p=(s.1,false)
 | [],_,_=>⟨rfl,fun p hp=>by cases hp⟩
 |p::l,s,h=>by
  simp only [List.foldl_cons] at h ⊢
  have h1:=Zr l (Cl s p)
  have h2:(Ag s.1 p).2=false:=by
   cases hb:(Ag s.1 p).2 with
   |false=>rfl
   |true=>
    have:((Cl s p).2.filter id).length=(s.2.filter id).length+1:=by
     unfold Cl
     simp only [List.filter_append,List.length_append,hb]
     rfl
    omega
  have h3:=T2 h2
  have h4:((Cl s p).2.filter id).length=(s.2.filter id).length:=by
   unfold Cl
   simp only [List.filter_append,List.length_append,h2]
   rfl
  have h5:(Cl s p).1=s.1:=h3
  obtain ⟨g1,g2⟩:=Zs l (Cl s p) Ac
  rw [h5] at g1 g2
  refine ⟨g1,fun q hq=>?_⟩
  rcases List.mem_cons.1 hq with rfl|hq
  ·exact Prod.ext h3 h2
  ·exact g2 q hq
theorem A7v {c:A3}(h:(Ba c).2=0):(Ba c).1=c∧∀p∈Gz (Co c),Ag c p=(c,false):=Zs _ (c,[]) h
def Ql (c:A3) (e:Int):Prop:=(∀i,i<c.workers.length→De (wk c i) e=true)∧Ev c e=0
theorem Ql.step {e:Int}{c c':A3}(h:Fl e c c')(hl:0<c.workers.length)(ho:Ql c e):Ql c' e:=by
 have hlen:=h.len
 have key:∀(j:Nat) (w:Ab),j<c.workers.length→c'.workers=c.workers.set j w→De w e=true→Ev c' e=Ev c e→Ql c' e:=by
  intro j w hj hw hp hf
  refine ⟨fun i hi=>?_,by rw [hf];exact ho.2⟩
  rw [Ey hw hj]
  split
  ·exact hp
  ·exact ho.1 i Ac
 cases h with
 |quiet j w' hj hq hw hf ht hd=>exact key j w' hj hw (hq.2.2.2 (ho.1 j hj)).1 hf
 |send j w' hj hp h1 h2 h3 hw hf ht hd=>have:=ho.1 j hj;rw [hp] at this;cases this
 |take j w' hj h1 h2 h3 hw hf ht hd=>have:=ho.2;omega
 |start hT hg w' h1 h2 h3 h4 hw hf ht hd=>exact key 0 w' hl hw h4 hf
 |pass hT hg j ha h0 hj w' h1 h2 h3 h4 hw hf ht hd=>exact key j w' hj hw h4 hf
 |fail hT hg ha hno hw hf ht hd=>
  refine ⟨fun i hi=>?_,by rw [hf];exact ho.2⟩
  have:wk c' i=wk c i:=by unfold wk;rw [hw]
  rw [this]
  exact ho.1 i Ac
 |told hT hg ha hb hb0 hs0 w' hq hw hf ht hd=>exact key 0 w' hl hw (hq.2.2.2 (ho.1 0 hl)).1 hf
def Fb (c:A3) (e a:Int):Prop:=∀i:Nat,i<c.workers.length→a<(i:Int)→Em (wk c i) e=false
def Md (c:A3) (e:Int):Prop:=(A4 c e).black=false∧(∀i:Nat,i<c.workers.length→(i:Int)≤(A4 c e).at_→Em (wk c i) e=false)∧(A4 c e).sum+Ep c e ((A4 c e).at_.toNat+1)=0
instance (c:A3) (e a:Int):Decidable (Fb c e a):=by unfold Fb;infer_instance
instance (c:A3) (e:Int):Decidable (Md c e):=by unfold Md;infer_instance
def Fh (c:A3) (e:Int):Nat:=
 if B1 (wk c 0) e=true then 0
 else if (A4 c e).going=true then
  (A4 c e).at_.toNat+1+(if Md c e then 0 else if Fb c e (A4 c e).at_ then c.workers.length+1 else 2 * (c.workers.length+1))
 else if Fb c e 0 then c.workers.length+1 else 2 * (c.workers.length+1)
theorem B7a {c:A3}{e:Int}(h:Ap c)(he:0≤e∧e≤3):Fh c e≤14:=by
 have:=W3 h he
 have hn:c.workers.length≤4:=by have:=h.1.2.1;have:=h.1.1.2.1;omega
 unfold Fh
 (repeat' split)<;>omega
theorem B06 {c:A3}{e:Int}(h:Fh c e=0):B1 (wk c 0) e=true:=by
 unfold Fh at h
 (repeat' split at h)<;>first|assumption|omega
theorem B04 {c c':A3}{e:Int}{j:Nat}{w:Ab}(hj:j<c.workers.length)(hw:c'.workers=c.workers.set j w)(hs:Dx w e=Dx (wk c j) e)(hb:Em w e=Em (wk c j) e)(ht:A4 c' e=A4 c e)
  (hat:0≤(A4 c e).at_∧(A4 c e).at_<c.workers.length)(hd:B1 (wk c' 0) e=B1 (wk c 0) e):Fh c' e=Fh c e:=by
 have hlen:c'.workers.length=c.workers.length:=by rw [hw,List.length_set]
 have hbl:∀i,Em (wk c' i) e=Em (wk c i) e:=fun i=>by
  rw [Ey hw hj]
  split
  ·rename_i e0;subst e0;exact hb
  ·rfl
 have hsum:∀k,k≤c.workers.length→Ep c' e k=Ep c e k:=fun k hk=>Fa hw hj hs hk
 have h1:Md c' e↔Md c e:=by
  unfold Md
  rw [ht,hlen,hsum _ Ac]
  simp only [hbl]
 have h2:∀a,Fb c' e a↔Fb c e a:=fun a=>by
  unfold Fb
  rw [hlen]
  simp only [hbl]
 unfold Fh
 rw [hd,ht,hlen]
 simp only [h1,h2]
theorem Pt {c c':A3}{e:Int}(h:Dc (wk c' 0) e=Dc (wk c 0) e):B1 (wk c' 0) e=B1 (wk c 0) e:=by
 rw [←Hd,←Hd,h]
theorem B05 {e:Int}{c c':A3}(h:Fl e c c')(hC:Ap c)(he:0≤e∧e≤3)(ho:Ql c e)(hS:Ln c e):
  Fh c' e≤Fh c e∧(A4 c' e≠A4 c e→Fh c' e+1≤Fh c e):=by
 have hlen:=h.len
 have hat:=W3 hC he
 have hl:=Ki hC
 have hall:Ep c e c.workers.length=0:=by unfold Ln at hS;rw [hS,ho.2];rfl
 cases h with
 |quiet j w' hj hq hw hf ht hd=>
  have:=B04 hj hw hq.1 hq.2.1 ht hat (Pt hd)
  exact ⟨by omega,fun q=>absurd ht q⟩
 |send j w' hj hp h1 h2 h3 hw hf ht hd=>have:=ho.1 j hj;rw [hp] at this;cases this
 |take j w' hj h1 h2 h3 hw hf ht hd=>have:=ho.2;omega
 |start hT hg w' h1 h2 h3 h4 hw hf ht hd=>
  have hnd:B1 (wk c 0) e=false:=hT.2.2.1
  have hnd':B1 (wk c' 0) e=false:=by rw [Pt hd];exact hnd
  have hbl:∀i,Em (wk c' i) e=if i=0 then false else Em (wk c i) e:=fun i=>by
   rw [Ey hw hl]
   split
   ·exact h2
   ·rfl
  have hR:Fh c' e+1≤Fh c e:=by
   have e1:Fh c e=if Fb c e 0 then c.workers.length+1 else 2 * (c.workers.length+1):=by
    unfold Fh
    rw [if_neg (by rw [hnd];decide),if_neg (by rw [hg];decide)]
   have e2:Fh c' e=c.workers.length+(if Md c' e then 0 else if Fb c' e (c.workers.length-1) then c.workers.length+1 else 2 * (c.workers.length+1)):=by
    unfold Fh
    rw [if_neg (by rw [hnd'];decide),if_pos (by rw [ht]),ht,hlen]
    simp only
    omega
   rw [e1,e2]
   have hw1:Fb c' e (c.workers.length-1):=fun i hi hi'=>by omega
   rw [if_pos hw1]
   by_cases hu:Fb c e 0
   ·rw [if_pos hu]
    have hg':Md c' e:=by
     refine ⟨by rw [ht],fun i hi _=>?_,?_⟩
     ·rw [hbl]
      split
      ·rfl
      ·exact hu i Ac Ac
     ·rw [ht]
      simp only
      rw [show ((c.workers.length:Int)-1).toNat+1=c.workers.length by omega,Fa hw hl h1 (Nat.le_refl _),hall]
      rfl
    rw [if_pos hg']
    omega
   ·rw [if_neg hu]
    split<;>omega
  exact ⟨by omega,fun _=>hR⟩
 |pass hT hg j ha h0 hj w' h1 h2 h3 h4 hw hf ht hd=>
  have hnd:B1 (wk c 0) e=false:=hT.2.2.1
  have hnd':B1 (wk c' 0) e=false:=by rw [Pt hd];exact hnd
  have hbl:∀i,Em (wk c' i) e=if i=j then false else Em (wk c i) e:=fun i=>by
   rw [Ey hw hj]
   split
   ·exact h2
   ·rfl
  have hR:Fh c' e+1≤Fh c e:=by
   have e1:Fh c e=j+1+(if Md c e then 0 else if Fb c e j then c.workers.length+1 else 2 * (c.workers.length+1)):=by
    unfold Fh
    rw [if_neg (by rw [hnd];decide),if_pos hg,ha]
    simp only [Int.toNat_natCast]
   have e2:Fh c' e=j+(if Md c' e then 0 else if Fb c' e ((j:Int)-1) then c.workers.length+1 else 2 * (c.workers.length+1)):=by
    unfold Fh
    rw [if_neg (by rw [hnd'];decide),if_pos (by rw [ht]),ht,hlen]
    simp only
    rw [show ((j:Int)-1).toNat+1=j by omega]
   rw [e1,e2]
   by_cases hG:Md c e
   ·have hG':Md c' e:=by
     obtain ⟨g1,g2,g3⟩:=hG
     refine ⟨?_,fun i hi hi'=>?_,?_⟩
     ·rw [ht]
      simp only
      rw [g1,g2 j hj Ac]
      rfl
     ·rw [hbl]
      split
      ·rfl
      ·rw [ht] at hi'
       simp only at hi'
       exact g2 i Ac Ac
     ·rw [ht]
      simp only
      rw [show ((j:Int)-1).toNat+1=j by omega,Fa hw hj h1 Ac]
      rw [show (A4 c e).at_.toNat+1=j+1 by omega,Gs hj] at g3
      omega
    rw [if_pos hG,if_pos hG']
    omega
   ·rw [if_neg hG]
    by_cases hu:Fb c e j
    ·have hu':Fb c' e ((j:Int)-1):=fun i hi hi'=>by
      rw [hbl]
      split
      ·rfl
      ·exact hu i Ac Ac
     rw [if_pos hu,if_pos hu']
     split<;>omega
    ·rw [if_neg hu]
     split
     ·omega
     ·split<;>omega
  exact ⟨by omega,fun _=>hR⟩
 |fail hT hg ha hno hw hf ht hd=>
  have hnd:B1 (wk c 0) e=false:=hT.2.2.1
  have hnd':B1 (wk c' 0) e=false:=by rw [Pt hd];exact hnd
  have hwk:∀i,wk c' i=wk c i:=fun i=>by unfold wk;rw [hw]
  have hR:Fh c' e+1≤Fh c e:=by
   have hng:¬ Md c e:=by
    rintro ⟨g1,g2,g3⟩
    refine hno ⟨g1,g2 0 hl Ac,?_⟩
    rw [ha,show (0:Int).toNat+1=0+1 from rfl,Gs hl,Lz] at g3
    omega
   have e1:Fh c e=1+(if Fb c e 0 then c.workers.length+1 else 2 * (c.workers.length+1)):=by
    unfold Fh
    rw [if_neg (by rw [hnd];decide),if_pos hg,ha,if_neg hng]
    rfl
   have e2:Fh c' e=(if Fb c e 0 then c.workers.length+1 else 2 * (c.workers.length+1)):=by
    have h2:Fb c' e 0↔Fb c e 0:=by unfold Fb;rw [hlen];simp only [hwk]
    unfold Fh
    rw [if_neg (by rw [hnd'];decide),if_neg (by rw [ht];exact Bool.false_ne_true),hlen]
    simp only [h2]
   omega
  exact ⟨by omega,fun _=>hR⟩
 |told hT hg ha hb hb0 hs0 w' hq hw hf ht hd=>
  have hnd:B1 (wk c 0) e=false:=hT.2.2.1
  have hR:Fh c' e+1≤Fh c e:=by
   have e2:Fh c' e=0:=by
    unfold Fh
    rw [if_pos (by rw [←Hd,hd])]
   have e1:1≤Fh c e:=by
    unfold Fh
    rw [if_neg (by rw [hnd];decide),if_pos hg]
    omega
   omega
  exact ⟨by omega,fun _=>hR⟩
theorem B1r {c:A3}{e:Int}{k:Nat}(hR:Et k c)(hk:k<200000)(he:0≤e∧e≤3)(hT:Kv c e):A4 (Bo c e).1 e≠A4 c e∧(Bo c e).2=true:=by
 have htl:=hR.ok.1.2.2.2
 have hat:=W3 hR.ok he
 cases hg:(A4 c e).going with
 |false=>
  rw [Zy hT hg]
  refine ⟨fun q=>?_,rfl⟩
  rw [Kp,G2 he.1 he.1,if_pos ⟨rfl,by omega⟩] at q
  rw [←q] at hg
  cases hg
 |true=>
  by_cases ha:(A4 c e).at_>0
  ·have hs:=hR.sums (A4 c e).at_.toNat Ac e he.1 he.2
   have hS:Jy ((A4 c e).sum+(A6 c (A4 c e).at_).sums.getD e.toNat default):=by
    have:=hR.toks e he.1 he.2
    have e0:(A6 c (A4 c e).at_).sums.getD e.toNat default=Dx (wk c (A4 c e).at_.toNat) e:=rfl
    rw [e0]
    have hn:c.workers.length≤4:=by have:=hR.ok.1.2.1;have:=hR.ok.1.1.2.1;omega
    unfold Ue at this
    unfold Jy
    omega
   rw [Pj hT hg ha hS]
   refine ⟨fun q=>?_,rfl⟩
   rw [Kp,G2 he.1 he.1,if_pos ⟨rfl,by omega⟩] at q
   have:=congrArg Es.at_ q
   simp only at this
   omega
  ·rw [Q5 hT hg ha]
   refine ⟨fun q=>?_,rfl⟩
   have h0:A4 (Gn (Cp c e ⟨false,(A4 c e).at_,(A4 c e).sum,(A4 c e).black,(A4 c e).capped⟩) e (A4 c e) (A6 c (A4 c e).at_)) e=⟨false,(A4 c e).at_,(A4 c e).sum,(A4 c e).black,(A4 c e).capped⟩:=by
    unfold Gn
    split
    ·show A4 (Cp c e _) e=_
     rw [G2 he.1 he.1,if_pos ⟨rfl,by omega⟩]
    ·rw [G2 he.1 he.1,if_pos ⟨rfl,by omega⟩]
   simp only at q
   rw [h0] at q
   rw [←q] at hg
   cases hg
theorem A92 {l:List E3}(h:A0d l):l.length≤4:=by
 by_cases hl:l.length≤4
 ·exact hl
 ·have d0:=h 0 Ac
  have d1:=h 1 Ac
  have d2:=h 2 Ac
  have d3:=h 3 Ac
  have d4:=h 4 Ac
  have a10:=d1.2 0 Ac
  have a20:=d2.2 0 Ac
  have a21:=d2.2 1 Ac
  have a30:=d3.2 0 Ac
  have a31:=d3.2 1 Ac
  have a32:=d3.2 2 Ac
  have a40:=d4.2 0 Ac
  have a41:=d4.2 1 Ac
  have a42:=d4.2 2 Ac
  have a43:=d4.2 3 Ac
  have b0:=d0.1
  have b1:=d1.1
  have b2:=d2.1
  have b3:=d3.1
  have b4:=d4.1
  omega
theorem Qt {c:A3}(h:Ap c):(wk c 0).dones.length≤4:=A92 (Kb (w:=0) h ⟨Int.le_refl _,by have:=Ki h;omega⟩).2.2.2.2
structure B11 (c c':A3) (p:Bl):Prop where
 mono:∀i e,B1 (wk c i) e=true→B1 (wk c' i) e=true
 meas:∀w:Nat,1≤w→w<c.workers.length→Hc w c'.news+(4-(wk c' 0).dones.length)≤Hc w c.news+(4-(wk c 0).dones.length)
 hear:∀w:Nat,1≤w→p=⟨7,w,0⟩→0<Hc w c.news→Hc w c'.news+(4-(wk c' 0).dones.length)+1≤Hc w c.news+(4-(wk c 0).dones.length)
theorem B11.nd {c c':A3}{p:Bl}(hk:p.kind≠7)(hn:c'.news=c.news)(hd:∀i,(wk c' i).dones=(wk c i).dones):B11 c c' p:=
 ⟨fun i e h=>by rw [Nj (hd i)];exact h,fun w _ _=>by rw [hn,hd];exact Nat.le_refl _,fun w _ hp _=>absurd (by rw [hp]) hk⟩
theorem B7x {c:A3}{p:Bl}(h:Ap c)(hN:Ha c):B11 c (Ag c p).1 p:=by
 unfold Ag
 split
 ·refine .nd Ac ?_ ?_
  ·unfold Cr;split<;>rfl
  ·unfold Cr
   split
   ·exact Ic (by unfold Fk;split<;>rfl)
   ·exact fun _=>rfl
 split
 ·refine .nd Ac ?_ ?_
  ·unfold Cg;split<;>rfl
  ·unfold Cg
   split
   ·exact Ic (by unfold Dg;split<;>rfl)
   ·exact fun _=>rfl
 split
 ·refine .nd Ac ?_ ?_
  ·unfold C6
   split
   ·split
    ·rfl
    ·split<;>rfl
   ·rfl
  ·unfold C6
   split
   ·split
    ·exact Ic rfl
    ·split
     ·exact Ic (c:=B6 c _ _) (by unfold Cs;split<;>rfl)
     ·exact fun _=>rfl
   ·exact fun _=>rfl
 split
 ·refine .nd Ac ?_ ?_
  ·unfold Cd;split<;>rfl
  ·unfold Cd
   split
   ·exact Ic (c:=B6 c _ _) (by unfold Cj;split<;>rfl)
   ·exact fun _=>rfl
 split
 ·refine .nd Ac ?_ ?_
  ·unfold Br;split<;>rfl
  ·unfold Br;split<;>exact fun _=>rfl
 split
 ·rename_i hk
  unfold Bo
  dsimp only
  split
  ·rename_i hT
   have hTP:O7 c.graph.workers (A4 c p.a):=h.2.2.2.1 _ (Aq (d:=default) (show p.a.toNat<c.tokens.length by have:=h.1.2.2.2;have:=hT.2.1;omega))
   split
   ·exact .nd Ac rfl (Ic (c:=Cp c _ _) rfl)
   split
   ·split
    ·exact .nd Ac rfl (Ic (c:=Cp c _ _) rfl)
    ·exact .nd Ac rfl fun _=>rfl
   ·rename_i hA
    have hA:(A4 c p.a).at_=0:=by have:=hTP.1;omega
    have hl:=Ki h
    unfold Gn
    split
    ·rename_i hyes
     have hw0:A6 c (A4 c p.a).at_=wk c 0:=by rw [hA];rfl
     rw [hw0]
     generalize ((A4 c p.a).capped||(wk c 0).caps.getD p.a.toNat default)=b
     generalize hc1:Cp c p.a ⟨false,(A4 c p.a).at_,(A4 c p.a).sum,(A4 c p.a).black,(A4 c p.a).capped⟩=c1
     have hwk1:∀i,wk c1 i=wk c i:=fun i=>by rw [←hc1];rfl
     have hl1:c1.workers.length=c.workers.length:=by rw [←hc1];rfl
     have hn1:c1.news=c.news:=by rw [←hc1];rfl
     have hws:∀i,wk (I0 (Av c1 0 (Cx (wk c 0) ⟨p.a,b⟩)) (H1 p.a b (c1.workers.length-1))) i=if i=0 then Cx (wk c 0) ⟨p.a,b⟩ else wk c i:=fun i=>by
      rw [Ey (c:=c1) (j:=0) (w:=Cx (wk c 0) ⟨p.a,b⟩) rfl Ac,hwk1]
     have hcok:=(Se (e:=p.a) h)
     have hd4:(wk c 0).dones.length+1≤4:=by
      have e1:(Bo c p.a).1=I0 (Av c1 0 (Cx (wk c 0) ⟨p.a,(A4 c p.a).capped||(wk c 0).caps.getD p.a.toNat default⟩)) (H1 p.a ((A4 c p.a).capped||(wk c 0).caps.getD p.a.toNat default) (c1.workers.length-1)):=by
       unfold Bo
       dsimp only
       rw [if_pos hT,if_neg ‹_›,if_neg ‹_›]
       unfold Gn
       rw [if_pos hyes,hw0,hc1]
      rw [e1] at hcok
      have:=Qt hcok
      rw [Ey (c:=c1) (j:=0) (w:=Cx (wk c 0) ⟨p.a,(A4 c p.a).capped||(wk c 0).caps.getD p.a.toNat default⟩) rfl Ac,if_pos rfl] at this
      simpa [Cx] using this
     refine ⟨fun i e hd=>?_,fun w h1 h2=>?_,fun w _ hp _=>absurd (by rw [hp]:p.kind=7) Ac⟩
     ·rw [hws]
      split
      ·rename_i e0;subst e0;exact Lw hd
      ·exact hd
     ·rw [hws,if_pos rfl]
      show Hc w (c1.news++H1 p.a b (c1.workers.length-1))+_≤_
      rw [hn1,hl1,Qs,St,if_pos Ac]
      simp only [Cx,List.length_append,List.length_singleton]
      omega
    ·exact .nd Ac rfl fun _=>rfl
  ·exact .nd Ac rfl fun _=>rfl
 split
 ·rename_i hk
  unfold D4
  split
  ·rename_i hn
   obtain ⟨m1,m2⟩:=Jk h hn.2
   have hNw:=h.2.2.2.2 _ m1
   have hw:0≤p.a∧p.a<c.workers.length:=by have:=h.1.2.1;have:=hNw.1;omega
   have hat:=Zc hn.2
   have hd0:=hN.one.1 _ m1
   have hm2:(c.news.getD (Ej c p.a) default).to_=p.a:=m2
   have hce:∀w:Nat,Hc w (c.news.eraseIdx (Ej c p.a))≤Hc w c.news∧(p.a=w→Hc w (c.news.eraseIdx (Ej c p.a))+1≤Hc w c.news):=fun w=>by
    have:=Pp w c.news (Ej c p.a) hat
    rw [hm2] at this
    split at this<;>omega
   split
   ·refine ⟨fun i e hd=>hd,fun w _ _=>?_,fun w _ hp _=>?_⟩
    ·have:=(hce w).1
     show Hc w (c.news.eraseIdx (Ej c p.a))+(4-(wk c 0).dones.length)≤_
     omega
    ·have:=(hce w).2 (by rw [hp])
     show Hc w (c.news.eraseIdx (Ej c p.a))+(4-(wk c 0).dones.length)+1≤_
     omega
   ·rename_i hdw
    have hne:p.a.toNat≠0:=fun e0=>by
     rw [Lh,e0] at hdw
     exact hdw hd0
    have hj:p.a.toNat<c.workers.length:=by omega
    have hws:∀i,wk (Av (Ih c p.a) p.a (Cx (A6 c p.a) ⟨(Dd c p.a).epoch,(Dd c p.a).capped⟩)) i=if i=p.a.toNat then Cx (A6 c p.a) ⟨(Dd c p.a).epoch,(Dd c p.a).capped⟩ else wk c i:=fun i=>Ey (c:=c) rfl hj
    refine ⟨fun i e hd=>?_,fun w _ _=>?_,fun w _ hp _=>?_⟩
    ·rw [hws]
     split
     ·rename_i e0;subst e0;exact Lw hd
     ·exact hd
    ·rw [hws,if_neg (Ne.symm hne)]
     have:=(hce w).1
     show Hc w (c.news.eraseIdx (Ej c p.a))+(4-(wk c 0).dones.length)≤_
     omega
    ·rw [hws,if_neg (Ne.symm hne)]
     have:=(hce w).2 (by rw [hp])
     show Hc w (c.news.eraseIdx (Ej c p.a))+(4-(wk c 0).dones.length)+1≤_
     omega
  ·rename_i hno
   refine ⟨fun i e hd=>hd,fun w _ _=>Nat.le_refl _,fun w h1 hp hc=>absurd ⟨h,?_⟩ hno⟩
   unfold Hc at hc
   obtain ⟨x,hx⟩:=List.exists_mem_of_length_pos hc
   obtain ⟨hx1,hx2⟩:=List.mem_filter.1 hx
   refine List.any_eq_true.2 ⟨x,hx1,?_⟩
   rw [hp]
   exact hx2
 ·rename_i hk
  exact .nd hk rfl fun _=>rfl
theorem Zk {e:Int}(he:0≤e∧e≤3):∀(l:List Bl) {k:Nat} (s:A3×List Bool),Et k s.1→k+l.length≤200000→Ql s.1 e→
  Ql (l.foldl Cl s).1 e∧Fh (l.foldl Cl s).1 e≤Fh s.1 e∧((⟨6,e,0⟩:Bl)∈l→Fh s.1 e≠0→Fh (l.foldl Cl s).1 e+1≤Fh s.1 e)
 | [],_,_,_,_,ho=>⟨ho,Nat.le_refl _,fun h=>by cases h⟩
 |p::l,k,s,hR,hk,ho=>by
  simp only [List.length_cons] at hk
  have hE:=Nz (p:=p) hR.ok hR.news.one he
  obtain ⟨r1,r2⟩:=B05 hE hR.ok he ho (hR.sf e he.1 he.2).1
  obtain ⟨i1,i2,i3⟩:=Zk he l (k:=k+1) (Cl s p) (hR.step Ac) Ac (ho.step hE (Ki hR.ok))
  have e1:(Cl s p).1=(Ag s.1 p).1:=rfl
  rw [e1] at i2 i3
  simp only [List.foldl_cons]
  refine ⟨i1,by omega,fun hm hz=>?_⟩
  rcases List.mem_cons.1 hm with hp|hm
  ·have hnd:B1 (wk s.1 0) e=false:=by
    cases hd:B1 (wk s.1 0) e with
    |false=>rfl
    |true=>exact absurd (by unfold Fh;rw [if_pos hd]) hz
   have hat:=W3 hR.ok he
   have hT:Kv s.1 e:=⟨hR.ok,he,hnd,ho.1 _ Ac⟩
   have hmv:=(B1r hR Ac he hT).1
   have e2:(Ag s.1 p).1=(Bo s.1 e).1:=by rw [←hp];rfl
   rw [←e2] at hmv
   have:=r2 hmv
   omega
  ·by_cases h0:Fh (Ag s.1 p).1 e=0
   ·omega
   ·have:=i3 hm h0
    omega
def Gh (c:A3) (e:Int) (w:Nat):Nat:=if B1 (wk c w) e=true then 0 else Hc w c.news+(4-(wk c 0).dones.length)
theorem A3k {c:A3}{e:Int}{w:Nat}(hN:Ha c)(h0:B1 (wk c 0) e=true)(hw:1≤w∧w<c.workers.length)(hd:B1 (wk c w) e=false):0<Hc w c.news:=by
 rcases hN.tell e h0 w hw.1 hw.2 with q|⟨x,hx,q1,q2⟩
 ·rw [q] at hd;cases hd
 ·unfold Hc
  exact List.length_pos_of_mem (List.mem_filter.2 ⟨hx,by rw [q1];exact beq_self_eq_true _⟩)
theorem Z6 {e:Int}{w:Nat}:∀(l:List Bl) {k:Nat} (s:A3×List Bool),Et k s.1→k+l.length≤200000→B1 (wk s.1 0) e=true→1≤w∧w<s.1.workers.length→
  B1 (wk (l.foldl Cl s).1 0) e=true∧Gh (l.foldl Cl s).1 e w≤Gh s.1 e w∧((⟨7,w,0⟩:Bl)∈l→Gh s.1 e w≠0→Gh (l.foldl Cl s).1 e w+1≤Gh s.1 e w)
 | [],_,_,_,_,h0,_=>⟨h0,Nat.le_refl _,fun h=>by cases h⟩
 |p::l,k,s,hR,hk,h0,hw=>by
  simp only [List.length_cons] at hk
  have hn:=B7x (p:=p) hR.ok hR.news
  have hR':=hR.step (p:=p) Ac
  have hlen:(Ag s.1 p).1.workers.length=s.1.workers.length:=by
   have h1:=hR.ok.1.2.1
   exact (Nz (p:=p) (e:=0) hR.ok hR.news.one ⟨by decide,by decide⟩).len
  obtain ⟨i1,i2,i3⟩:=Z6 (e:=e) (w:=w) l (k:=k+1) (Cl s p) hR' Ac (hn.mono 0 e h0) ⟨hw.1,by show w<(Ag s.1 p).1.workers.length;omega⟩
  have e1:(Cl s p).1=(Ag s.1 p).1:=rfl
  rw [e1] at i2 i3
  have hle:Gh (Ag s.1 p).1 e w≤Gh s.1 e w:=by
   unfold Gh
   split
   ·omega
   ·rename_i hd'
    rw [if_neg (fun q=>hd' (hn.mono w e q))]
    exact hn.meas w hw.1 hw.2
  simp only [List.foldl_cons]
  refine ⟨i1,by omega,fun hm hz=>?_⟩
  rcases List.mem_cons.1 hm with hp|hm
  ·have hnd:B1 (wk s.1 w) e=false:=by
    cases hd:B1 (wk s.1 w) e with
    |false=>rfl
    |true=>exact absurd (by unfold Gh;rw [if_pos hd]) hz
   have hlt:Gh (Ag s.1 p).1 e w+1≤Gh s.1 e w:=by
    have:=hn.hear w hw.1 hp.symm (A3k hR.news h0 hw hnd)
    have e2:Gh s.1 e w=Hc w s.1.news+(4-(wk s.1 0).dones.length):=by unfold Gh;rw [if_neg (by rw [hnd];decide)]
    rw [e2]
    unfold Gh
    split<;>omega
   omega
  ·by_cases h1:Gh (Ag s.1 p).1 e w=0
   ·omega
   ·have:=i3 hm h1
    omega
theorem B3j {c:A3}{e:Int}{w:Nat}(h:Ap c)(hN:Ha c)(hw:1≤w∧w<c.workers.length):Gh c e w≤4:=by
 have h1:=Qt h
 have h2:=hN.cnt w hw.1 hw.2
 unfold Gh
 split<;>omega
theorem A6k {c:A3}{e:Int}{w:Nat}(hN:Ha c)(h0:B1 (wk c 0) e=true)(hw:1≤w∧w<c.workers.length)(h:Gh c e w=0):B1 (wk c w) e=true:=by
 cases hd:B1 (wk c w) e with
 |true=>rfl
 |false=>
  have:=A3k hN h0 hw hd
  unfold Gh at h
  rw [if_neg (by rw [hd];decide)] at h
  omega
theorem B2d (n:Nat){e:Int}(he:0≤e∧e≤3):(⟨6,e,0⟩:Bl)∈Gz n:=List.mem_append_right _ (List.mem_map.2 ⟨e.toNat,List.mem_range.2 Ac,by simp only [Bl.mk.injEq,and_true,true_and];omega⟩)
theorem B71 {n w:Nat}(hw:w<n):(⟨1,w,0⟩:Bl)∈Gz n∧(⟨3,w,0⟩:Bl)∈Gz n∧(⟨2,w,0⟩:Bl)∈Gz n∧(⟨7,w,0⟩:Bl)∈Gz n:=by
 have:∀p∈pW w,p∈Gz n:=fun p hp=>List.mem_append_left _ (List.mem_append_left _ (List.mem_flatMap.2 ⟨w,List.mem_range.2 hw,hp⟩))
 refine ⟨this _ ?_,this _ ?_,this _ ?_,this _ ?_⟩<;>simp [pW]
theorem Tc {c:A3}(h:Ap c):Co c=c.workers.length:=by
 have h1:=h.1.2.1
 have h2:=h.1.1.2.1
 unfold Co En
 rw [if_neg Ac,if_neg Ac]
 omega
theorem Uh {k:Nat}{c:A3}(h:Et k c):∀n,k+44 * n≤200000→(frN c n).workers.length=c.workers.length
 | 0,_=>rfl
 |n+1,hk=>by
  have ih:=Uh h n Ac
  rw [←ih]
  have hR:=h.frN n Ac
  have key:∀(l:List Bl) {k:Nat} (s:A3×List Bool),Et k s.1→k+l.length≤200000→(l.foldl Cl s).1.workers.length=s.1.workers.length:=by
   intro l
   induction l with
   |nil=>intro _ _ _ _;rfl
   |cons p l ih=>
    intro k s hR hk
    simp only [List.length_cons] at hk
    have:=ih (k:=k+1) (Cl s p) (hR.step Ac) Ac
    simp only [List.foldl_cons]
    rw [this]
    exact (Nz (p:=p) (e:=0) hR.ok hR.news.one ⟨by decide,by decide⟩).len
  have:=H0 (frN c n)
  exact key (Gz (Co (frN c n))) (frN c n,[]) hR Ac
theorem Ly {k:Nat}{c:A3}{e:Int}(h:Et k c)(he:0≤e∧e≤3)(ho:Ql c e):∀n,k+44 * n≤200000→Ql (frN c n) e∧Fh (frN c n) e+n≤14+(if n≤14 then 0 else n-14)
 | 0,_=>⟨ho,by have:=B7a h.ok he;rw [if_pos Ac];exact Nat.le_trans this Ac⟩
 |n+1,hk=>by
  obtain ⟨i1,i2⟩:=Ly h he ho n Ac
  have hR:=h.frN n Ac
  have:=H0 (frN c n)
  obtain ⟨r1,r2,r3⟩:=Zk he (Gz (Co (frN c n))) (frN c n,[]) hR Ac i1
  refine ⟨r1,?_⟩
  have r2:Fh (frN c (n+1)) e≤Fh (frN c n) e:=r2
  have r3:Fh (frN c n) e≠0→Fh (frN c (n+1)) e+1≤Fh (frN c n) e:=r3 (B2d _ he)
  by_cases hz:Fh (frN c n) e=0
  ·split<;>split at i2<;>omega
  ·have:=r3 hz
   split<;>split at i2<;>omega
theorem Ub {k:Nat}{c:A3}{e:Int}{w:Nat}(h:Et k c)(h0:B1 (wk c 0) e=true)(hw:1≤w∧w<c.workers.length):∀n,k+44 * n≤200000→B1 (wk (frN c n) 0) e=true∧Gh (frN c n) e w+n≤4+(if n≤4 then 0 else n-4)
 | 0,_=>⟨h0,by have:=B3j (e:=e) h.ok h.news hw;rw [if_pos Ac];exact Nat.le_trans this Ac⟩
 |n+1,hk=>by
  obtain ⟨i1,i2⟩:=Ub h h0 hw n Ac
  have hR:=h.frN n Ac
  have:=H0 (frN c n)
  have hlen:=Uh h n Ac
  obtain ⟨r1,r2,r3⟩:=Z6 (e:=e) (w:=w) (Gz (Co (frN c n))) (frN c n,[]) hR Ac i1 ⟨hw.1,by show w<(frN c n).workers.length;omega⟩
  refine ⟨r1,?_⟩
  have r2:Gh (frN c (n+1)) e w≤Gh (frN c n) e w:=r2
  have r3:Gh (frN c n) e w≠0→Gh (frN c (n+1)) e w+1≤Gh (frN c n) e w:=r3 ((B71 (by rw [Tc hR.ok];omega)).2.2.2)
  by_cases hz:Gh (frN c n) e w=0
  ·split<;>split at i2<;>omega
  ·have:=r3 hz
   split<;>split at i2<;>omega
theorem A0z (c:A3)(a:Nat):∀b,frN c (a+b)=frN (frN c a) b
 | 0=>rfl
 |b+1=>by
  show (Ba (frN c (a+b))).1=(Ba (frN (frN c a) b)).1
  rw [A0z c a b]
end Go.Proofs.YtonodkjaoalfjaaGreat
