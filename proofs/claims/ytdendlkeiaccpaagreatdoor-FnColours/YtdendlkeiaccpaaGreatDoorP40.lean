/- Part 40 of the proof that each of the laws FnColours returns true for every input. No conditions. -/
import Derived.Test.YtdendlkeiaccpaaGreatDoorP39

set_option linter.unusedSimpArgs false
set_option linter.unusedVariables false
set_option maxRecDepth 100000
namespace Go.Proofs.YtdendlkeiaccpaaGreatDoor
open Go.Sx
theorem Xd {α:Type} [Inhabited α]:∀(l:List α) (j:Nat),l.set j (l.getD j default)=l
 | [],_=>rfl
 |x::r,0=>rfl
 |x::r,j+1=>congrArg (x:: ·) (by rw [List.getD_cons_succ];exact Xd r j)
theorem Ub (c:A3)(w:Int):B3 c w (Ab c w)=c:=by
 unfold B3 Ab
 rw [Xd]
theorem A4j (c:A3)(k:Int):C2 c k (Br c k)=c:=by
 unfold C2 Br
 rw [Xd]
theorem A9x {c:A3}{p:C7}(h:(Aj c p).2=false):(Aj c p).1=c:=by
 unfold Aj at *
 split at h
 ·rename_i k
  rw [if_pos k]
  unfold Df at *
  split at h
  ·rename_i hw
   rw [if_pos hw]
   simp only at h ⊢
   unfold F3 at *
   split at h
   ·cases h
   rename_i hn
   rw [if_neg hn]
   exact Ub c _
  rename_i hw;rw [if_neg hw]
 rename_i k1
 rw [if_neg k1]
 split at h
 ·rename_i k
  rw [if_pos k]
  unfold Cz at *
  split at h
  ·rename_i hw
   rw [if_pos hw]
   simp only at h ⊢
   unfold D8 at *
   split at h
   ·cases h
   rename_i hn
   rw [if_neg hn]
   exact Ub c _
  rename_i hw;rw [if_neg hw]
 rename_i k2
 rw [if_neg k2]
 split at h
 ·rename_i k
  rw [if_pos k]
  unfold C3 at *
  split at h
  ·rename_i hw
   rw [if_pos hw]
   split at h
   ·cases h
   rename_i hn
   rw [if_neg hn]
   split at h
   ·cases h
   rename_i hs;rw [if_neg hs]
  rename_i hw;rw [if_neg hw]
 rename_i k3
 rw [if_neg k3]
 split at h
 ·rename_i k
  rw [if_pos k]
  unfold Cm at *
  split at h
  ·cases h
  rename_i hw;rw [if_neg hw]
 rename_i k4
 rw [if_neg k4]
 split at h
 ·rename_i k
  rw [if_pos k]
  unfold Cy at *
  split at h
  ·rename_i hw
   rw [if_pos hw]
   simp only at h ⊢
   unfold Cr at *
   split at h
   ·cases h
   rename_i hn
   rw [if_neg hn]
   exact A4j c _
  rename_i hw;rw [if_neg hw]
 rename_i k5
 rw [if_neg k5]
 split at h
 ·rename_i k
  rw [if_pos k]
  unfold Bc at *
  dsimp only at *
  split at h
  ·rename_i hT
   rw [if_pos hT]
   split at h
   ·cases h
   rename_i hg
   rw [if_neg hg]
   split at h
   ·rename_i ha
    rw [if_pos ha]
    split at h
    ·cases h
    rename_i hs;rw [if_neg hs]
   cases h
  rename_i hT;rw [if_neg hT]
 rename_i k6
 rw [if_neg k6]
 split at h
 ·rename_i k
  rw [if_pos k]
  unfold D5 at *
  split at h
  ·cases h
  rename_i hw;rw [if_neg hw]
 rename_i k;rw [if_neg k]
theorem Zu:∀(l:List C7) (s:A3×List Bool),(s.2.filter id).length≤((l.foldl Dy s).2.filter id).length
 | [],_=>Nat.le_refl _
 |p::l,s=>by
  have:=Zu l (Dy s p)
  simp only [List.foldl_cons]
  refine Nat.le_trans ?_ this
  unfold Dy
  simp only [List.filter_append,List.length_append]
  omega
theorem Zw:∀(l:List C7) (s:A3×List Bool),((l.foldl Dy s).2.filter id).length=(s.2.filter id).length→(l.foldl Dy s).1=s.1∧∀p∈l,Aj s.1 p=(s.1,false)
 | [],_,_=>⟨rfl,fun p hp=>by cases hp⟩
 |p::l,s,h=>by
  simp only [List.foldl_cons] at h ⊢
  have h1:=Zu l (Dy s p)
  have h2:(Aj s.1 p).2=false:=by
   cases hb:(Aj s.1 p).2 with
   |false=>rfl
   |true=>
    have:((Dy s p).2.filter id).length=(s.2.filter id).length+1:=by
     unfold Dy
     simp only [List.filter_append,List.length_append,hb]
     rfl
    omega
  have h3:=A9x h2
  have h4:((Dy s p).2.filter id).length=(s.2.filter id).length:=by
   unfold Dy
   simp only [List.filter_append,List.length_append,h2]
   rfl
  have h5:(Dy s p).1=s.1:=h3
  obtain ⟨g1,g2⟩:=Zw l (Dy s p) Ac
  rw [h5] at g1 g2
  refine ⟨g1,fun q hq=>?_⟩
  rcases List.mem_cons.1 hq with rfl|hq
  ·exact Prod.ext h3 h2
  exact g2 q hq
theorem Xu {c:A3}(h:(Bt c).2=0):(Bt c).1=c∧∀p∈Kl (Gf c),Aj c p=(c,false):=Zw _ (c,[]) h
def Rf (c:A3) (e:Int):Prop:=(∀i,i<c.workers.length→Ch (wk c i) e=true)∧Eh c e=0
theorem Rf.step {e:Int}{c c':A3}(h:Fk e c c')(hl:0<c.workers.length)(ho:Rf c e):Rf c' e:=by
 have hlen:=h.len
 have key:∀(j:Nat) (w:Aa),j<c.workers.length→c'.workers=c.workers.set j w→Ch w e=true→Eh c' e=Eh c e→Rf c' e:=by
  intro j w hj hw hp hf
  refine ⟨fun i hi=>?_,by rw [hf];exact ho.2⟩
  rw [En hw hj]
  split
  ·exact hp
  exact ho.1 i Ac
 cases h with
 |quiet j w' hj hq hw hf ht hd=>exact key j w' hj hw (hq.2.2.2 (ho.1 j hj)).1 hf
 |send j w' hj hp h1 h2 h3 hw hf ht hd=>have:=ho.1 j hj;rw [hp] at this;cases this
 |take j w' hj h1 h2 h3 hw hf ht hd=>have:=ho.2;omega
 |start hT hg w' h1 h2 h3 h4 hw hf ht hd=>exact key 0 w' hl hw h4 hf
 |pass hT hg j ha h0 hj w' h1 h2 h3 h4 hw hf ht hd=>exact key j w' hj hw h4 hf
 |fail hT hg ha hno hw hf ht hd=>
  refine ⟨fun i hi=>?_,by rw [hf];exact ho.2⟩
  have:wk c' i=wk c i:=by unfold wk;rw [hw]
  rw [this]
  exact ho.1 i Ac
 |told hT hg ha hb hb0 hs0 w' hq hw hf ht hd=>exact key 0 w' hl hw (hq.2.2.2 (ho.1 0 hl)).1 hf
def F5 (c:A3) (e a:Int):Prop:=∀i:Nat,i<c.workers.length→a<(i:Int)→Ee (wk c i) e=false
def Mi (c:A3) (e:Int):Prop:=(A9 c e).black=false∧(∀i:Nat,i<c.workers.length→(i:Int)≤(A9 c e).at_→Ee (wk c i) e=false)∧(A9 c e).sum+G6 c e ((A9 c e).at_.toNat+1)=0
instance (c:A3) (e a:Int):Decidable (F5 c e a):=by unfold F5;infer_instance
instance (c:A3) (e:Int):Decidable (Mi c e):=by unfold Mi;infer_instance
def Fg (c:A3) (e:Int):Nat:=
 if Bf (wk c 0) e=true then 0
 else if (A9 c e).going=true then
  (A9 c e).at_.toNat+1+(if Mi c e then 0 else if F5 c e (A9 c e).at_ then c.workers.length+1 else 2 * (c.workers.length+1))
 else if F5 c e 0 then c.workers.length+1 else 2 * (c.workers.length+1)
theorem B6r {c:A3}{e:Int}(h:As c)(he:0≤e∧e≤3):Fg c e≤14:=by
 have:=T0 h he
 have hn:c.workers.length≤4:=by have:=h.1.2.1;have:=h.1.1.2.1;omega
 unfold Fg
 (repeat' split)<;>omega
theorem B0i {c:A3}{e:Int}(h:Fg c e=0):Bf (wk c 0) e=true:=by
 unfold Fg at h
 (repeat' split at h)<;>first|assumption|omega
theorem B0g {c c':A3}{e:Int}{j:Nat}{w:Aa}(hj:j<c.workers.length)(hw:c'.workers=c.workers.set j w)(hs:E9 w e=E9 (wk c j) e)(hb:Ee w e=Ee (wk c j) e)(ht:A9 c' e=A9 c e)
  (hat:0≤(A9 c e).at_∧(A9 c e).at_<c.workers.length)(hd:Bf (wk c' 0) e=Bf (wk c 0) e):Fg c' e=Fg c e:=by
 have hlen:c'.workers.length=c.workers.length:=by rw [hw,List.length_set]
 have hbl:∀i,Ee (wk c' i) e=Ee (wk c i) e:=fun i=>by
  rw [En hw hj]
  split
  ·rename_i e0;subst e0;exact hb
  rfl
 have hsum:∀k,k≤c.workers.length→G6 c' e k=G6 c e k:=fun k hk=>F1 hw hj hs hk
 have h1:Mi c' e↔Mi c e:=by
  unfold Mi
  rw [ht,hlen,hsum _ Ac]
  simp only [hbl]
 have h2:∀a,F5 c' e a↔F5 c e a:=fun a=>by
  unfold F5
  rw [hlen]
  simp only [hbl]
 unfold Fg
 rw [hd,ht,hlen]
 simp only [h1,h2]
theorem Pp {c c':A3}{e:Int}(h:Eg (wk c' 0) e=Eg (wk c 0) e):Bf (wk c' 0) e=Bf (wk c 0) e:=by
 rw [←Io,←Io,h]
theorem B0h {e:Int}{c c':A3}(h:Fk e c c')(hC:As c)(he:0≤e∧e≤3)(ho:Rf c e)(hS:Mk c e):
  Fg c' e≤Fg c e∧(A9 c' e≠A9 c e→Fg c' e+1≤Fg c e):=by
 have hlen:=h.len
 have hat:=T0 hC he
 have hl:=Nh hC
 have hall:G6 c e c.workers.length=0:=by unfold Mk at hS;rw [hS,ho.2];rfl
 cases h with
 |quiet j w' hj hq hw hf ht hd=>
  have:=B0g hj hw hq.1 hq.2.1 ht hat (Pp hd)
  exact ⟨by omega,fun q=>absurd ht q⟩
 |send j w' hj hp h1 h2 h3 hw hf ht hd=>have:=ho.1 j hj;rw [hp] at this;cases this
 |take j w' hj h1 h2 h3 hw hf ht hd=>have:=ho.2;omega
 |start hT hg w' h1 h2 h3 h4 hw hf ht hd=>
  have hnd:Bf (wk c 0) e=false:=hT.2.2.1
  have hnd':Bf (wk c' 0) e=false:=by rw [Pp hd];exact hnd
  have hbl:∀i,Ee (wk c' i) e=if i=0 then false else Ee (wk c i) e:=fun i=>by
   rw [En hw hl]
   split
   ·exact h2
   rfl
  have hR:Fg c' e+1≤Fg c e:=by
   have e1:Fg c e=if F5 c e 0 then c.workers.length+1 else 2 * (c.workers.length+1):=by
    unfold Fg
    rw [if_neg (by rw [hnd];decide),if_neg (by rw [hg];decide)]
   have e2:Fg c' e=c.workers.length+(if Mi c' e then 0 else if F5 c' e (c.workers.length-1) then c.workers.length+1 else 2 * (c.workers.length+1)):=by
    unfold Fg
    rw [if_neg (by rw [hnd'];decide),if_pos (by rw [ht]),ht,hlen]
    simp only
    omega
   rw [e1,e2]
   have hw1:F5 c' e (c.workers.length-1):=fun i hi hi'=>by omega
   rw [if_pos hw1]
   by_cases hu:F5 c e 0
   ·rw [if_pos hu]
    have hg':Mi c' e:=by
     refine ⟨by rw [ht],fun i hi _=>?_,?_⟩
     ·rw [hbl]
      split
      ·rfl
      exact hu i Ac Ac
     rw [ht]
     simp only
     rw [show ((c.workers.length:Int)-1).toNat+1=c.workers.length by omega,F1 hw hl h1 (Nat.le_refl _),hall]
     rfl
    rw [if_pos hg']
    omega
   rw [if_neg hu]
   split<;>omega
  exact ⟨by omega,fun _=>hR⟩
 |pass hT hg j ha h0 hj w' h1 h2 h3 h4 hw hf ht hd=>
  have hnd:Bf (wk c 0) e=false:=hT.2.2.1
  have hnd':Bf (wk c' 0) e=false:=by rw [Pp hd];exact hnd
  have hbl:∀i,Ee (wk c' i) e=if i=j then false else Ee (wk c i) e:=fun i=>by
   rw [En hw hj]
   split
   ·exact h2
   rfl
  have hR:Fg c' e+1≤Fg c e:=by
   have e1:Fg c e=j+1+(if Mi c e then 0 else if F5 c e j then c.workers.length+1 else 2 * (c.workers.length+1)):=by
    unfold Fg
    rw [if_neg (by rw [hnd];decide),if_pos hg,ha]
    simp only [Int.toNat_natCast]
   have e2:Fg c' e=j+(if Mi c' e then 0 else if F5 c' e ((j:Int)-1) then c.workers.length+1 else 2 * (c.workers.length+1)):=by
    unfold Fg
    rw [if_neg (by rw [hnd'];decide),if_pos (by rw [ht]),ht,hlen]
    simp only
    rw [show ((j:Int)-1).toNat+1=j by omega]
   rw [e1,e2]
   by_cases hG:Mi c e
   ·have hG':Mi c' e:=by
     obtain ⟨g1,g2,g3⟩:=hG
     refine ⟨?_,fun i hi hi'=>?_,?_⟩
     ·rw [ht]
      simp only
      rw [g1,g2 j hj Ac]
      rfl
     ·rw [hbl]
      split
      ·rfl
      rw [ht] at hi'
      simp only at hi'
      exact g2 i Ac Ac
     rw [ht]
     simp only
     rw [show ((j:Int)-1).toNat+1=j by omega,F1 hw hj h1 Ac]
     rw [show (A9 c e).at_.toNat+1=j+1 by omega,J0 hj] at g3
     omega
    rw [if_pos hG,if_pos hG']
    omega
   rw [if_neg hG]
   by_cases hu:F5 c e j
   ·have hu':F5 c' e ((j:Int)-1):=fun i hi hi'=>by
     rw [hbl]
     split
     ·rfl
     exact hu i Ac Ac
    rw [if_pos hu,if_pos hu']
    split<;>omega
   rw [if_neg hu]
   split
   ·omega
   split<;>omega
  exact ⟨by omega,fun _=>hR⟩
 |fail hT hg ha hno hw hf ht hd=>
  have hnd:Bf (wk c 0) e=false:=hT.2.2.1
  have hnd':Bf (wk c' 0) e=false:=by rw [Pp hd];exact hnd
  have hwk:∀i,wk c' i=wk c i:=fun i=>by unfold wk;rw [hw]
  have hR:Fg c' e+1≤Fg c e:=by
   have hng:¬ Mi c e:=by
    rintro ⟨g1,g2,g3⟩
    refine hno ⟨g1,g2 0 hl Ac,?_⟩
    rw [ha,show (0:Int).toNat+1=0+1 from rfl,J0 hl,Pf] at g3
    omega
   have e1:Fg c e=1+(if F5 c e 0 then c.workers.length+1 else 2 * (c.workers.length+1)):=by
    unfold Fg
    rw [if_neg (by rw [hnd];decide),if_pos hg,ha,if_neg hng]
    rfl
   have e2:Fg c' e=(if F5 c e 0 then c.workers.length+1 else 2 * (c.workers.length+1)):=by
    have h2:F5 c' e 0↔F5 c e 0:=by unfold F5;rw [hlen];simp only [hwk]
    unfold Fg
    rw [if_neg (by rw [hnd'];decide),if_neg (by rw [ht];exact Bool.false_ne_true),hlen]
    simp only [h2]
   omega
  exact ⟨by omega,fun _=>hR⟩
 |told hT hg ha hb hb0 hs0 w' hq hw hf ht hd=>
  have hnd:Bf (wk c 0) e=false:=hT.2.2.1
  have hR:Fg c' e+1≤Fg c e:=by
   have e2:Fg c' e=0:=by
    unfold Fg
    rw [if_pos (by rw [←Io,hd])]
   have e1:1≤Fg c e:=by
    unfold Fg
    rw [if_neg (by rw [hnd];decide),if_pos hg]
    omega
   omega
  exact ⟨by omega,fun _=>hR⟩
theorem A0a {c:A3}{e:Int}{k:Nat}(hR:I1 k c)(hk:k<200000)(he:0≤e∧e≤3)(hT:K7 c e):A9 (Bc c e).1 e≠A9 c e∧(Bc c e).2=true:=by
 have htl:=hR.ok.1.2.2.2
 have hat:=T0 hR.ok he
 cases hg:(A9 c e).going with
 |false=>
  rw [Tm hT hg]
  refine ⟨fun q=>?_,rfl⟩
  rw [L7,G9 he.1 he.1,if_pos ⟨rfl,by omega⟩] at q
  rw [←q] at hg
  cases hg
 |true=>
  by_cases ha:(A9 c e).at_>0
  ·have hs:=hR.sums (A9 c e).at_.toNat Ac e he.1 he.2
   have hS:Gj ((A9 c e).sum+(Ab c (A9 c e).at_).sums.getD e.toNat default):=by
    have:=hR.toks e he.1 he.2
    have e0:(Ab c (A9 c e).at_).sums.getD e.toNat default=E9 (wk c (A9 c e).at_.toNat) e:=rfl
    rw [e0]
    have hn:c.workers.length≤4:=by have:=hR.ok.1.2.1;have:=hR.ok.1.1.2.1;omega
    unfold Uo at this
    unfold Gj
    omega
   rw [Jk hT hg ha hS]
   refine ⟨fun q=>?_,rfl⟩
   rw [L7,G9 he.1 he.1,if_pos ⟨rfl,by omega⟩] at q
   have:=congrArg Cu.at_ q
   simp only at this
   omega
  rw [Jj hT hg ha]
  refine ⟨fun q=>?_,rfl⟩
  have h0:A9 (F2 (C9 c e ⟨false,(A9 c e).at_,(A9 c e).sum,(A9 c e).black,(A9 c e).capped⟩) e (A9 c e) (Ab c (A9 c e).at_)) e=⟨false,(A9 c e).at_,(A9 c e).sum,(A9 c e).black,(A9 c e).capped⟩:=by
   unfold F2
   split
   ·show A9 (C9 c e _) e=_
    rw [G9 he.1 he.1,if_pos ⟨rfl,by omega⟩]
   rw [G9 he.1 he.1,if_pos ⟨rfl,by omega⟩]
  simp only at q
  rw [h0] at q
  rw [←q] at hg
  cases hg
theorem A9h {l:List Dn}(h:V5 l):l.length≤4:=by
 by_cases hl:l.length≤4
 ·exact hl
 have d0:=h 0 Ac
 have d1:=h 1 Ac
 have d2:=h 2 Ac
 have d3:=h 3 Ac
 have d4:=h 4 Ac
 have a10:=d1.2 0 Ac
 have a20:=d2.2 0 Ac
 have a21:=d2.2 1 Ac
 have a30:=d3.2 0 Ac
 have a31:=d3.2 1 Ac
 have a32:=d3.2 2 Ac
 have a40:=d4.2 0 Ac
 have a41:=d4.2 1 Ac
 have a42:=d4.2 2 Ac
 have a43:=d4.2 3 Ac
 have b0:=d0.1
 have b1:=d1.1
 have b2:=d2.1
 have b3:=d3.1
 have b4:=d4.1
 omega
theorem Vu {c:A3}(h:As c):(wk c 0).dones.length≤4:=A9h (Jy (w:=0) h ⟨Int.le_refl _,by have:=Nh h;omega⟩).2.2.2.2
structure B1b (c c':A3) (p:C7):Prop where
 mono:∀i e,Bf (wk c i) e=true→Bf (wk c' i) e=true
 meas:∀w:Nat,1≤w→w<c.workers.length→Ht w c'.news+(4-(wk c' 0).dones.length)≤Ht w c.news+(4-(wk c 0).dones.length)
 hear:∀w:Nat,1≤w→p=⟨7,w,0⟩→0<Ht w c.news→Ht w c'.news+(4-(wk c' 0).dones.length)+1≤Ht w c.news+(4-(wk c 0).dones.length)
theorem B1b.nd {c c':A3}{p:C7}(hk:p.kind≠7)(hn:c'.news=c.news)(hd:∀i,(wk c' i).dones=(wk c i).dones):B1b c c' p:=
 ⟨fun i e h=>by rw [Ng (hd i)];exact h,fun w _ _=>by rw [hn,hd];exact Nat.le_refl _,fun w _ hp _=>absurd (by rw [hp]) hk⟩
theorem B7j {c:A3}{p:C7}(h:As c)(hN:Hm c):B1b c (Aj c p).1 p:=by
 unfold Aj
 split
 ·refine .nd Ac ?_ ?_
  ·unfold Df;split<;>rfl
  unfold Df
  split
  ·exact It (by unfold F3;split<;>rfl)
  exact fun _=>rfl
 split
 ·refine .nd Ac ?_ ?_
  ·unfold Cz;split<;>rfl
  unfold Cz
  split
  ·exact It (by unfold D8;split<;>rfl)
  exact fun _=>rfl
 split
 ·refine .nd Ac ?_ ?_
  ·unfold C3
   split
   ·split
    ·rfl
    split<;>rfl
   rfl
  unfold C3
  split
  ·split
   ·exact It rfl
   split
   ·exact It (c:=C2 c _ _) (by unfold H5;split<;>rfl)
   exact fun _=>rfl
  exact fun _=>rfl
 split
 ·refine .nd Ac ?_ ?_
  ·unfold Cm;split<;>rfl
  unfold Cm
  split
  ·exact It (c:=C2 c _ _) (by unfold E8;split<;>rfl)
  exact fun _=>rfl
 split
 ·refine .nd Ac ?_ ?_
  ·unfold Cy;split<;>rfl
  unfold Cy;split<;>exact fun _=>rfl
 split
 ·rename_i hk
  unfold Bc
  dsimp only
  split
  ·rename_i hT
   have hTP:Jm c.graph.workers (A9 c p.a):=h.2.2.2.1 _ (Ay (d:=default) (show p.a.toNat<c.tokens.length by have:=h.1.2.2.2;have:=hT.2.1;omega))
   split
   ·exact .nd Ac rfl (It (c:=C9 c _ _) rfl)
   split
   ·split
    ·exact .nd Ac rfl (It (c:=C9 c _ _) rfl)
    exact .nd Ac rfl fun _=>rfl
   rename_i hA
   have hA:(A9 c p.a).at_=0:=by have:=hTP.1;omega
   have hl:=Nh h
   unfold F2
   split
   ·rename_i hyes
    have hw0:Ab c (A9 c p.a).at_=wk c 0:=by rw [hA];rfl
    rw [hw0]
    generalize ((A9 c p.a).capped||(wk c 0).caps.getD p.a.toNat default)=b
    generalize hc1:C9 c p.a ⟨false,(A9 c p.a).at_,(A9 c p.a).sum,(A9 c p.a).black,(A9 c p.a).capped⟩=c1
    have hwk1:∀i,wk c1 i=wk c i:=fun i=>by rw [←hc1];rfl
    have hl1:c1.workers.length=c.workers.length:=by rw [←hc1];rfl
    have hn1:c1.news=c.news:=by rw [←hc1];rfl
    have hws:∀i,wk (Gk (B3 c1 0 (Ct (wk c 0) ⟨p.a,b⟩)) (Gd p.a b (c1.workers.length-1))) i=if i=0 then Ct (wk c 0) ⟨p.a,b⟩ else wk c i:=fun i=>by
     rw [En (c:=c1) (j:=0) (w:=Ct (wk c 0) ⟨p.a,b⟩) rfl Ac,hwk1]
    have hcok:=(Sl (e:=p.a) h)
    have hd4:(wk c 0).dones.length+1≤4:=by
     have e1:(Bc c p.a).1=Gk (B3 c1 0 (Ct (wk c 0) ⟨p.a,(A9 c p.a).capped||(wk c 0).caps.getD p.a.toNat default⟩)) (Gd p.a ((A9 c p.a).capped||(wk c 0).caps.getD p.a.toNat default) (c1.workers.length-1)):=by
      unfold Bc
      dsimp only
      rw [if_pos hT,if_neg ‹_›,if_neg ‹_›]
      unfold F2
      rw [if_pos hyes,hw0,hc1]
     rw [e1] at hcok
     have:=Vu hcok
     rw [En (c:=c1) (j:=0) (w:=Ct (wk c 0) ⟨p.a,(A9 c p.a).capped||(wk c 0).caps.getD p.a.toNat default⟩) rfl Ac,if_pos rfl] at this
     simpa [Ct] using this
    refine ⟨fun i e hd=>?_,fun w h1 h2=>?_,fun w _ hp _=>absurd (by rw [hp]:p.kind=7) Ac⟩
    ·rw [hws]
     split
     ·rename_i e0;subst e0;exact M0 hd
     exact hd
    rw [hws,if_pos rfl]
    show Ht w (c1.news++Gd p.a b (c1.workers.length-1))+_≤_
    rw [hn1,hl1,Qq,Sw,if_pos Ac]
    simp only [Ct,List.length_append,List.length_singleton]
    omega
   exact .nd Ac rfl fun _=>rfl
  exact .nd Ac rfl fun _=>rfl
 split
 ·rename_i hk
  unfold D5
  split
  ·rename_i hn
   obtain ⟨m1,m2⟩:=L4 h hn.2
   have hNw:=h.2.2.2.2 _ m1
   have hw:0≤p.a∧p.a<c.workers.length:=by have:=h.1.2.1;have:=hNw.1;omega
   have hat:=Zc hn.2
   have hd0:=hN.one.1 _ m1
   have hm2:(c.news.getD (Et c p.a) default).to_=p.a:=m2
   have hce:∀w:Nat,Ht w (c.news.eraseIdx (Et c p.a))≤Ht w c.news∧(p.a=w→Ht w (c.news.eraseIdx (Et c p.a))+1≤Ht w c.news):=fun w=>by
    have:=Pm w c.news (Et c p.a) hat
    rw [hm2] at this
    split at this<;>omega
   split
   ·refine ⟨fun i e hd=>hd,fun w _ _=>?_,fun w _ hp _=>?_⟩
    ·have:=(hce w).1
     show Ht w (c.news.eraseIdx (Et c p.a))+(4-(wk c 0).dones.length)≤_
     omega
    have:=(hce w).2 (by rw [hp])
    show Ht w (c.news.eraseIdx (Et c p.a))+(4-(wk c 0).dones.length)+1≤_
    omega
   rename_i hdw
   have hne:p.a.toNat≠0:=fun e0=>by
    rw [Li,e0] at hdw
    exact hdw hd0
   have hj:p.a.toNat<c.workers.length:=by omega
   have hws:∀i,wk (B3 (I8 c p.a) p.a (Ct (Ab c p.a) ⟨(Dt c p.a).epoch,(Dt c p.a).capped⟩)) i=if i=p.a.toNat then Ct (Ab c p.a) ⟨(Dt c p.a).epoch,(Dt c p.a).capped⟩ else wk c i:=fun i=>En (c:=c) rfl hj
   refine ⟨fun i e hd=>?_,fun w _ _=>?_,fun w _ hp _=>?_⟩
   ·rw [hws]
    split
    ·rename_i e0;subst e0;exact M0 hd
    exact hd
   ·rw [hws,if_neg (Ne.symm hne)]
    have:=(hce w).1
    show Ht w (c.news.eraseIdx (Et c p.a))+(4-(wk c 0).dones.length)≤_
    omega
   rw [hws,if_neg (Ne.symm hne)]
   have:=(hce w).2 (by rw [hp])
   show Ht w (c.news.eraseIdx (Et c p.a))+(4-(wk c 0).dones.length)+1≤_
   omega
  rename_i hno
  refine ⟨fun i e hd=>hd,fun w _ _=>Nat.le_refl _,fun w h1 hp hc=>absurd ⟨h,?_⟩ hno⟩
  unfold Ht at hc
  obtain ⟨x,hx⟩:=List.exists_mem_of_length_pos hc
  obtain ⟨hx1,hx2⟩:=List.mem_filter.1 hx
  refine List.any_eq_true.2 ⟨x,hx1,?_⟩
  rw [hp]
  exact hx2
 rename_i hk
 exact .nd hk rfl fun _=>rfl
theorem Zn {e:Int}(he:0≤e∧e≤3):∀(l:List C7) {k:Nat} (s:A3×List Bool),I1 k s.1→k+l.length≤200000→Rf s.1 e→
  Rf (l.foldl Dy s).1 e∧Fg (l.foldl Dy s).1 e≤Fg s.1 e∧((⟨6,e,0⟩:C7)∈l→Fg s.1 e≠0→Fg (l.foldl Dy s).1 e+1≤Fg s.1 e)
 | [],_,_,_,_,ho=>⟨ho,Nat.le_refl _,fun h=>by cases h⟩
 |p::l,k,s,hR,hk,ho=>by
  simp only [List.length_cons] at hk
  have hE:=Nu (p:=p) hR.ok hR.news.one he
  obtain ⟨r1,r2⟩:=B0h hE hR.ok he ho (hR.sf e he.1 he.2).1
  obtain ⟨i1,i2,i3⟩:=Zn he l (k:=k+1) (Dy s p) (hR.step Ac) Ac (ho.step hE (Nh hR.ok))
  have e1:(Dy s p).1=(Aj s.1 p).1:=rfl
  rw [e1] at i2 i3
  simp only [List.foldl_cons]
  refine ⟨i1,by omega,fun hm hz=>?_⟩
  rcases List.mem_cons.1 hm with hp|hm
  ·have hnd:Bf (wk s.1 0) e=false:=by
    cases hd:Bf (wk s.1 0) e with
    |false=>rfl
    |true=>exact absurd (by unfold Fg;rw [if_pos hd]) hz
   have hat:=T0 hR.ok he
   have hT:K7 s.1 e:=⟨hR.ok,he,hnd,ho.1 _ Ac⟩
   have hmv:=(A0a hR Ac he hT).1
   have e2:(Aj s.1 p).1=(Bc s.1 e).1:=by rw [←hp];rfl
   rw [←e2] at hmv
   have:=r2 hmv
   omega
  by_cases h0:Fg (Aj s.1 p).1 e=0
  ·omega
  have:=i3 hm h0
  omega
def Gq (c:A3) (e:Int) (w:Nat):Nat:=if Bf (wk c w) e=true then 0 else Ht w c.news+(4-(wk c 0).dones.length)
theorem Wa {c:A3}{e:Int}{w:Nat}(hN:Hm c)(h0:Bf (wk c 0) e=true)(hw:1≤w∧w<c.workers.length)(hd:Bf (wk c w) e=false):0<Ht w c.news:=by
 rcases hN.tell e h0 w hw.1 hw.2 with q|⟨x,hx,q1,q2⟩
 ·rw [q] at hd;cases hd
 unfold Ht
 exact List.length_pos_of_mem (List.mem_filter.2 ⟨hx,by rw [q1];exact beq_self_eq_true _⟩)
theorem Z8 {e:Int}{w:Nat}:∀(l:List C7) {k:Nat} (s:A3×List Bool),I1 k s.1→k+l.length≤200000→Bf (wk s.1 0) e=true→1≤w∧w<s.1.workers.length→
  Bf (wk (l.foldl Dy s).1 0) e=true∧Gq (l.foldl Dy s).1 e w≤Gq s.1 e w∧((⟨7,w,0⟩:C7)∈l→Gq s.1 e w≠0→Gq (l.foldl Dy s).1 e w+1≤Gq s.1 e w)
 | [],_,_,_,_,h0,_=>⟨h0,Nat.le_refl _,fun h=>by cases h⟩
 |p::l,k,s,hR,hk,h0,hw=>by
  simp only [List.length_cons] at hk
  have hn:=B7j (p:=p) hR.ok hR.news
  have hR':=hR.step (p:=p) Ac
  have hlen:(Aj s.1 p).1.workers.length=s.1.workers.length:=by
   have h1:=hR.ok.1.2.1
   exact (Nu (p:=p) (e:=0) hR.ok hR.news.one ⟨by decide,by decide⟩).len
  obtain ⟨i1,i2,i3⟩:=Z8 (e:=e) (w:=w) l (k:=k+1) (Dy s p) hR' Ac (hn.mono 0 e h0) ⟨hw.1,by show w<(Aj s.1 p).1.workers.length;omega⟩
  have e1:(Dy s p).1=(Aj s.1 p).1:=rfl
  rw [e1] at i2 i3
  have hle:Gq (Aj s.1 p).1 e w≤Gq s.1 e w:=by
   unfold Gq
   split
   ·omega
   rename_i hd'
   rw [if_neg (fun q=>hd' (hn.mono w e q))]
   exact hn.meas w hw.1 hw.2
  simp only [List.foldl_cons]
  refine ⟨i1,by omega,fun hm hz=>?_⟩
  rcases List.mem_cons.1 hm with hp|hm
  ·have hnd:Bf (wk s.1 w) e=false:=by
    cases hd:Bf (wk s.1 w) e with
    |false=>rfl
    |true=>exact absurd (by unfold Gq;rw [if_pos hd]) hz
   have hlt:Gq (Aj s.1 p).1 e w+1≤Gq s.1 e w:=by
    have:=hn.hear w hw.1 hp.symm (Wa hR.news h0 hw hnd)
    have e2:Gq s.1 e w=Ht w s.1.news+(4-(wk s.1 0).dones.length):=by unfold Gq;rw [if_neg (by rw [hnd];decide)]
    rw [e2]
    unfold Gq
    split<;>omega
   omega
  by_cases h1:Gq (Aj s.1 p).1 e w=0
  ·omega
  have:=i3 hm h1
  omega
theorem B2u {c:A3}{e:Int}{w:Nat}(h:As c)(hN:Hm c)(hw:1≤w∧w<c.workers.length):Gq c e w≤4:=by
 have h1:=Vu h
 have h2:=hN.cnt w hw.1 hw.2
 unfold Gq
 split<;>omega
theorem A5v {c:A3}{e:Int}{w:Nat}(hN:Hm c)(h0:Bf (wk c 0) e=true)(hw:1≤w∧w<c.workers.length)(h:Gq c e w=0):Bf (wk c w) e=true:=by
 cases hd:Bf (wk c w) e with
 |true=>rfl
 |false=>
  have:=Wa hN h0 hw hd
  unfold Gq at h
  rw [if_neg (by rw [hd];decide)] at h
  omega
theorem A2r (n:Nat){e:Int}(he:0≤e∧e≤3):(⟨6,e,0⟩:C7)∈Kl n:=List.mem_append_right _ (List.mem_map.2 ⟨e.toNat,List.mem_range.2 Ac,by simp only [C7.mk.injEq,and_true,true_and];omega⟩)
theorem B1q {n w:Nat}(hw:w<n):(⟨1,w,0⟩:C7)∈Kl n∧(⟨3,w,0⟩:C7)∈Kl n∧(⟨2,w,0⟩:C7)∈Kl n∧(⟨7,w,0⟩:C7)∈Kl n:=by
 have:∀p∈pW w,p∈Kl n:=fun p hp=>List.mem_append_left _ (List.mem_append_left _ (List.mem_flatMap.2 ⟨w,List.mem_range.2 hw,hp⟩))
 refine ⟨this _ ?_,this _ ?_,this _ ?_,this _ ?_⟩<;>simp [pW]
theorem Zl {c:A3}(h:As c):Gf c=c.workers.length:=by
 have h1:=h.1.2.1
 have h2:=h.1.1.2.1
 unfold Gf Dw
 rw [if_neg Ac,if_neg Ac]
 omega
theorem Rx {k:Nat}{c:A3}(h:I1 k c):∀n,k+44 * n≤200000→(frN c n).workers.length=c.workers.length
 | 0,_=>rfl
 |n+1,hk=>by
  have ih:=Rx h n Ac
  rw [←ih]
  have hR:=h.frN n Ac
  have key:∀(l:List C7) {k:Nat} (s:A3×List Bool),I1 k s.1→k+l.length≤200000→(l.foldl Dy s).1.workers.length=s.1.workers.length:=by
   intro l
   induction l with
   |nil=>intro _ _ _ _;rfl
   |cons p l ih=>
    intro k s hR hk
    simp only [List.length_cons] at hk
    have:=ih (k:=k+1) (Dy s p) (hR.step Ac) Ac
    simp only [List.foldl_cons]
    rw [this]
    exact (Nu (p:=p) (e:=0) hR.ok hR.news.one ⟨by decide,by decide⟩).len
  have:=J8 (frN c n)
  exact key (Kl (Gf (frN c n))) (frN c n,[]) hR Ac
theorem M1 {k:Nat}{c:A3}{e:Int}(h:I1 k c)(he:0≤e∧e≤3)(ho:Rf c e):∀n,k+44 * n≤200000→Rf (frN c n) e∧Fg (frN c n) e+n≤14+(if n≤14 then 0 else n-14)
 | 0,_=>⟨ho,by have:=B6r h.ok he;rw [if_pos Ac];exact Nat.le_trans this Ac⟩
 |n+1,hk=>by
  obtain ⟨i1,i2⟩:=M1 h he ho n Ac
  have hR:=h.frN n Ac
  have:=J8 (frN c n)
  obtain ⟨r1,r2,r3⟩:=Zn he (Kl (Gf (frN c n))) (frN c n,[]) hR Ac i1
  refine ⟨r1,?_⟩
  have r2:Fg (frN c (n+1)) e≤Fg (frN c n) e:=r2
  have r3:Fg (frN c n) e≠0→Fg (frN c (n+1)) e+1≤Fg (frN c n) e:=r3 (A2r _ he)
  by_cases hz:Fg (frN c n) e=0
  ·split<;>split at i2<;>omega
  have:=r3 hz
  split<;>split at i2<;>omega
theorem Ph {k:Nat}{c:A3}{e:Int}{w:Nat}(h:I1 k c)(h0:Bf (wk c 0) e=true)(hw:1≤w∧w<c.workers.length):∀n,k+44 * n≤200000→Bf (wk (frN c n) 0) e=true∧Gq (frN c n) e w+n≤4+(if n≤4 then 0 else n-4)
 | 0,_=>⟨h0,by have:=B2u (e:=e) h.ok h.news hw;rw [if_pos Ac];exact Nat.le_trans this Ac⟩
 |n+1,hk=>by
  obtain ⟨i1,i2⟩:=Ph h h0 hw n Ac
  have hR:=h.frN n Ac
  have:=J8 (frN c n)
  have hlen:=Rx h n Ac
  obtain ⟨r1,r2,r3⟩:=Z8 (e:=e) (w:=w) (Kl (Gf (frN c n))) (frN c n,[]) hR Ac i1 ⟨hw.1,by show w<(frN c n).workers.length;omega⟩
  refine ⟨r1,?_⟩
  have r2:Gq (frN c (n+1)) e w≤Gq (frN c n) e w:=r2
  have r3:Gq (frN c n) e w≠0→Gq (frN c (n+1)) e w+1≤Gq (frN c n) e w:=r3 ((B1q (by rw [Zl hR.ok];omega)).2.2.2)
  by_cases hz:Gq (frN c n) e w=0
  ·split<;>split at i2<;>omega
  have:=r3 hz
  split<;>split at i2<;>omega
theorem A7p (c:A3)(a:Nat):∀b,frN c (a+b)=frN (frN c a) b
 | 0=>rfl
 |b+1=>by
  show (Bt (frN c (a+b))).1=(Bt (frN (frN c a) b)).1
  rw [A7p c a b]
theorem B04 {k:Nat}{c:A3}{e:Int}(h:I1 k c)(hk:k<200000)(he:0≤e∧e≤3)(ho:Rf c e)(hz:(Bt c).2=0):∀i,i<c.workers.length→Bf (wk c i) e=true:=by
 have hp:=(Xu hz).2
 have h0:Bf (wk c 0) e=true:=by
  cases hd:Bf (wk c 0) e with
  |true=>rfl
  |false=>
   have hat:=T0 h.ok he
   have hT:K7 c e:=⟨h.ok,he,hd,ho.1 _ Ac⟩
   have h1:=(A0a h hk he hT).2
   have h2:=hp _ (A2r _ he)
   have h3:(Aj c ⟨6,e,0⟩).2=(Bc c e).2:=rfl
   rw [h2,h1] at h3
   cases h3
 intro i hi
 by_cases hi0:i=0
 ·subst hi0;exact h0
 cases hd:Bf (wk c i) e with
 |true=>rfl
 |false=>
  have hc:=Wa h.news h0 ⟨by omega,hi⟩ hd
  have h2:=hp _ (B1q (w:=i) (by rw [Zl h.ok];exact hi)).2.2.2
  have h3:(Aj c ⟨7,i,0⟩).2=(D5 c i).2:=rfl
  have h4:c.news.any (Kb i)=true:=by
   unfold Ht at hc
   obtain ⟨x,hx⟩:=List.exists_mem_of_length_pos hc
   obtain ⟨hx1,hx2⟩:=List.mem_filter.1 hx
   exact List.any_eq_true.2 ⟨x,hx1,hx2⟩
  have h5:(D5 c i).2=true:=by unfold D5;rw [if_pos ⟨h.ok,h4⟩]
  rw [h2,h5] at h3
  cases h3
theorem Zi {k:Nat}{c:A3}{e:Int}(n:Nat)(h:I1 k c)(hk:k+44 * n≤199000)(he:0≤e∧e≤3)(ho:Rf c e):Rf (D7 n c).1 e∧(18≤n→∀i,i<c.workers.length→Bf (wk (D7 n c).1 i) e=true):=by
 obtain ⟨m,hm,hf,hend⟩:=Rp n c
 rw [hf]
 refine ⟨(M1 h he ho m Ac).1,fun h18 i hi=>?_⟩
 rcases hend with rfl|⟨j,rfl,hz⟩
 ·show Bf (wk (frN c m) i) e=true
  obtain ⟨a1,a2⟩:=M1 h he ho (m-4) Ac
  have hz:Fg (frN c (m-4)) e=0:=by split at a2<;>omega
  have h0:=B0i hz
  have hR:=h.frN (m-4) Ac
  have hlen:=Rx h (m-4) Ac
  have hadd:=A7p c (m-4) 4
  rw [show m-4+4=m by omega] at hadd
  rw [hadd]
  by_cases hi0:i=0
  ·subst hi0
   have:=Ph (e:=e) (w:=1) hR h0
   by_cases h1:1<(frN c (m-4)).workers.length
   ·exact (this ⟨Nat.le_refl _,h1⟩ 4 Ac).1
   have key:∀n,k+44 * (m-4)+44 * n≤200000→Bf (wk (frN (frN c (m-4)) n) 0) e=true:=by
    intro n
    induction n with
    |zero=>intro _;exact h0
    |succ n ih=>
     intro hn
     have i1:=ih Ac
     have hR':=hR.frN n Ac
     have:=J8 (frN (frN c (m-4)) n)
     have mono:∀(l:List C7) {k:Nat} (s:A3×List Bool),I1 k s.1→k+l.length≤200000→Bf (wk s.1 0) e=true→Bf (wk (l.foldl Dy s).1 0) e=true:=by
      intro l
      induction l with
      |nil=>intro _ _ _ _ h;exact h
      |cons p l ih=>
       intro k s hR hk hd
       simp only [List.length_cons] at hk
       exact ih (k:=k+1) (Dy s p) (hR.step Ac) Ac ((B7j hR.ok hR.news).mono 0 e hd)
     exact mono (Kl (Gf (frN (frN c (m-4)) n))) (frN (frN c (m-4)) n,[]) hR' Ac i1
   exact key 4 Ac
  obtain ⟨b1,b2⟩:=Ph (e:=e) (w:=i) hR h0 ⟨by omega,by omega⟩ 4 Ac
  have hz2:Gq (frN (frN c (m-4)) 4) e i=0:=by rw [if_pos (Nat.le_refl _)] at b2;omega
  have hR4:=hR.frN 4 Ac
  exact A5v hR4.news b1 ⟨by omega,by rw [Rx hR 4 Ac];omega⟩ hz2
 show Bf (wk (frN c (j+1)) i) e=true
 have hR:=h.frN j Ac
 have e1:frN c (j+1)=frN c j:=(Xu hz).1
 rw [e1]
 exact B04 hR Ac he (M1 h he ho j Ac).1 hz i (by rw [Rx h j Ac];exact hi)
end Go.Proofs.YtdendlkeiaccpaaGreatDoor
