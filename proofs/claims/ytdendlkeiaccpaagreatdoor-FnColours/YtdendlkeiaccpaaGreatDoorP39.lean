/- Part 39 of the proof that each of the laws FnColours returns true for every input. No conditions. -/
import Derived.Test.YtdendlkeiaccpaaGreatDoorP38
import Derived.Test.YtdendlkeiaccpaaGreatDoorP19

set_option linter.unusedSimpArgs false
set_option linter.unusedVariables false
set_option maxRecDepth 100000
namespace Go.Proofs.YtdendlkeiaccpaaGreatDoor
open Go.Sx
def Ht (i:Int) (l:List Fe):Nat:=(l.filter fun x=>x.to_==i).length
structure Hm (c:A3):Prop where
 one:B1c c
 tell:∀e,Bf (wk c 0) e=true→∀i:Nat,1≤i→i<c.workers.length→Bf (wk c i) e=true∨∃x∈c.news,x.to_=i∧x.epoch=e
 cnt:∀i:Nat,1≤i→i<c.workers.length→Ht i c.news+(wk c i).dones.length≤(wk c 0).dones.length
theorem Hm.nd {c c':A3}(h:Hm c)(hn:c'.news=c.news)(hl:c'.workers.length=c.workers.length)(hd:∀i,(wk c' i).dones=(wk c i).dones):Hm c':=by
 have hi:∀i e,Bf (wk c' i) e=Bf (wk c i) e:=fun i e=>Ng (hd i) e
 refine ⟨⟨fun x hx=>?_,fun i hi' e he=>?_⟩,fun e he i h1 h2=>?_,fun i h1 h2=>?_⟩
 ·rw [hi];exact h.one.1 x (hn▸hx)
 ·rw [hi] at he ⊢;exact h.one.2 i Ac e he
 ·rw [hi] at he ⊢
  rw [hn]
  exact h.tell e he i h1 Ac
 rw [hn,hd,hd]
 exact h.cnt i h1 Ac
theorem It {c:A3}{w:Int}{v:Aa}(hv:v.dones=(Ab c w).dones)(i:Nat):(wk (B3 c w v) i).dones=(wk c i).dones:=by
 unfold wk B3
 simp only
 rw [H3]
 split
 ·rename_i h
  rw [hv]
  unfold Ab
  rw [←h.1]
 rfl
theorem Hm.set {c:A3}{w:Int}{v:Aa}(h:Hm c)(hv:v.dones=(Ab c w).dones):Hm (B3 c w v):=h.nd rfl (by simp only [B3,List.length_set]) (It hv)
theorem Hm.lnk {c:A3}{k:Int}{l:Bz}(h:Hm c):Hm (C2 c k l):=h.nd rfl rfl fun _=>rfl
theorem Hm.tok {c:A3}{k:Int}{l:Cu}(h:Hm c):Hm (C9 c k l):=h.nd rfl rfl fun _=>rfl
theorem Qq (i:Int)(l l':List Fe):Ht i (l++l')=Ht i l+Ht i l':=by unfold Ht;rw [List.filter_append,List.length_append]
theorem Sw (i e:Int)(b:Bool):∀k:Nat,Ht i (Gd e b k)=if 1≤i∧i≤k then 1 else 0
 | 0=>by
  rw [if_neg Ac]
  rfl
 |k+1=>by
  have ih:=Sw i e b k
  have:Gd e b (k+1)=Gd e b k++[⟨(k:Int)+1,e,b⟩]:=by unfold Gd;rw [List.range_succ,List.map_append];rfl
  rw [this,Qq,ih]
  unfold Ht
  simp only [List.filter_cons,List.filter_nil]
  by_cases h1:((k:Int)+1==i)=true
  ·rw [if_pos h1]
   have:=eq_of_beq h1
   rw [if_neg Ac,if_pos Ac]
   rfl
  rw [if_neg h1]
  have:(k:Int)+1≠i:=fun q=>h1 (by rw [q];exact beq_self_eq_true i)
  by_cases h2:1≤i∧i≤k
  ·rw [if_pos h2,if_pos Ac];rfl
  rw [if_neg h2,if_neg Ac];rfl
theorem Pm (i:Int):∀(l:List Fe) (k:Nat),k<l.length→Ht i (l.eraseIdx k)+(if (l.getD k default).to_=i then 1 else 0)=Ht i l
 | [],_,h=>absurd h (Nat.not_lt_zero _)
 |x::r,0,_=>by
  unfold Ht
  simp only [List.eraseIdx_cons_zero,List.getD_cons_zero,List.filter_cons]
  by_cases h:x.to_=i
  ·rw [if_pos h,if_pos (by rw [h];exact beq_self_eq_true i)];rfl
  rw [if_neg h,if_neg (fun q=>h (eq_of_beq q))];rfl
 |x::r,k+1,h=>by
  have ih:=Pm i r k (by simpa using h)
  unfold Ht at ih ⊢
  simp only [List.eraseIdx_cons_succ,List.getD_cons_succ,List.filter_cons]
  split
  ·simp only [List.length_cons];omega
  exact ih
theorem T7 {α:Type} [Inhabited α]:∀{l:List α} {k:Nat} {x:α},x∈l→x=l.getD k default∨x∈l.eraseIdx k
 |y::r,0,x,h=>by
  rcases List.mem_cons.1 h with rfl|h
  ·exact .inl rfl
  exact .inr h
 |y::r,k+1,x,h=>by
  rcases List.mem_cons.1 h with rfl|h
  ·exact .inr (List.mem_cons_self ..)
  rcases T7 (k:=k) h with h|h
  ·exact .inl h
  exact .inr (List.mem_cons_of_mem _ h)
theorem M0 {w:Aa}{d:Dn}{e:Int}(h:Bf w e=true):Bf (Ct w d) e=true:=by
 unfold Bf Ct at *
 simp only
 rw [List.any_append,h,Bool.true_or]
theorem Wf (w:Aa)(e:Int)(b:Bool):Bf (Ct w ⟨e,b⟩) e=true:=by
 unfold Bf Ct
 simp only [List.any_append,List.any_cons,beq_self_eq_true,Bool.true_or,Bool.or_true]
theorem Ty {w:Aa}{d:Dn}{e:Int}(h:Bf (Ct w d) e=true):Bf w e=true∨d.epoch=e:=by
 unfold Bf Ct at *
 simp only [List.any_append,List.any_cons,List.any_nil,Bool.or_false,Bool.or_eq_true] at h
 rcases h with h|h
 ·exact .inl h
 exact .inr (eq_of_beq h)
theorem A6b {c:A3}{e:Int}{b:Bool}{w:Aa}(h:Hm c)(hl:0<c.workers.length)(hw:w.dones=(wk c 0).dones)(hd:Bf (wk c 0) e=false):Hm (Gk (B3 c 0 (Ct w ⟨e,b⟩)) (Gd e b (c.workers.length-1))):=by
 have hw':∀e',Bf w e'=Bf (wk c 0) e':=fun e'=>Ng hw e'
 have h0:wk (Gk (B3 c 0 (Ct w ⟨e,b⟩)) (Gd e b (c.workers.length-1))) 0=Ct w ⟨e,b⟩:=by
  rw [En (c:=c) (j:=0) (w:=Ct w ⟨e,b⟩) rfl hl,if_pos rfl]
 have hi:∀i,i≠0→wk (Gk (B3 c 0 (Ct w ⟨e,b⟩)) (Gd e b (c.workers.length-1))) i=wk c i:=fun i h=>by
  rw [En (c:=c) (j:=0) (w:=Ct w ⟨e,b⟩) rfl hl,if_neg h]
 have hlen:(Gk (B3 c 0 (Ct w ⟨e,b⟩)) (Gd e b (c.workers.length-1))).workers.length=c.workers.length:=by simp only [Gk,B3,List.length_set]
 have hm:∀e',Bf (wk c 0) e'=true→Bf (Ct w ⟨e,b⟩) e'=true:=fun e' q=>M0 (by rw [hw'];exact q)
 refine ⟨⟨fun x hx=>?_,fun i hi' e' he=>?_⟩,fun e' he i h1 h2=>?_,fun i h1 h2=>?_⟩
 ·rw [h0]
  rcases List.mem_append.1 hx with hx|hx
  ·exact hm _ (h.one.1 x hx)
  obtain ⟨j,_,rfl⟩:=List.mem_map.1 hx
  exact Wf _ _ _
 ·rw [h0]
  by_cases hz:i=0
  ·subst hz;rw [h0] at he;exact he
  rw [hi i hz] at he
  exact hm _ (h.one.2 i Ac e' he)
 ·rw [hi i Ac]
  rw [hlen] at h2
  rw [h0] at he
  rcases Ty he with he|he
  ·rw [hw'] at he
   rcases h.tell e' he i h1 h2 with q|⟨x,hx,q⟩
   ·exact .inl q
   exact .inr ⟨x,List.mem_append_left _ hx,q⟩
  simp only at he
  subst he
  exact .inr ⟨⟨(i:Int),e,b⟩,List.mem_append_right _ (List.mem_map.2 ⟨i-1,List.mem_range.2 Ac,by simp only [Fe.mk.injEq,and_true];omega⟩),rfl,rfl⟩
 rw [hi i Ac,h0]
 rw [hlen] at h2
 have:=h.cnt i h1 h2
 show Ht i (c.news++Gd e b (c.workers.length-1))+_≤_
 rw [Qq,Sw,if_pos Ac]
 simp only [Ct,List.length_append,List.length_singleton,hw]
 omega
theorem Zc {c:A3}{w:Int}(hn:c.news.any (Kb w)=true):Et c w<c.news.length:=by
 obtain ⟨x,hx,hw⟩:=List.any_eq_true.1 hn
 by_cases hlt:Et c w<c.news.length
 ·exact hlt
 have:=Rv (Kb w) c.news
 have he:Fm (Kb w) c.news=c.news.length:=by unfold Et at hlt;omega
 have:=N9 (Kb w) c.news x (by rw [he,List.take_length];exact hx)
 rw [hw] at this;cases this
theorem A59 {c:A3}{w:Int}(h:As c)(hN:Hm c):Hm (D5 c w).1:=by
 unfold D5
 split
 ·rename_i hn
  obtain ⟨m1,m2⟩:=L4 h hn.2
  have hNw:=h.2.2.2.2 _ m1
  have hw:0≤w∧w<c.workers.length:=by have:=h.1.2.1;have:=hNw.1;omega
  have hat:=Zc hn.2
  have hd0:=hN.one.1 _ m1
  have hers:∀x,x∈(I8 c w).news→x∈c.news:=fun x hx=>List.mem_of_mem_eraseIdx hx
  split
  ·rename_i hdw
   refine ⟨⟨fun x hx=>hN.one.1 x (hers x hx),hN.one.2⟩,fun e he i h1 h2=>?_,fun i h1 h2=>?_⟩
   ·rcases hN.tell e he i h1 h2 with q|⟨x,hx,q1,q2⟩
    ·exact .inl q
    rcases T7 (k:=Et c w) hx with rfl|hx
    ·refine .inl ?_
     have:(c.news.getD (Et c w) default).to_=w:=m2
     have hiw:w.toNat=i:=by omega
     have:Bf (wk c w.toNat) (Dt c w).epoch=true:=hdw
     rw [hiw,show (Dt c w).epoch=e from q2] at this
     exact this
    exact .inr ⟨x,hx,q1,q2⟩
   have:=hN.cnt i h1 h2
   have h3:=Pm i c.news (Et c w) hat
   show Ht i (c.news.eraseIdx (Et c w))+(wk c i).dones.length≤(wk c 0).dones.length
   omega
  rename_i hdw
  have hne:w.toNat≠0:=fun e0=>by
   rw [Li,e0] at hdw
   exact hdw hd0
  have hj:w.toNat<c.workers.length:=by omega
  have hws:∀i,wk (B3 (I8 c w) w (Ct (Ab c w) ⟨(Dt c w).epoch,(Dt c w).capped⟩)) i=if i=w.toNat then Ct (Ab c w) ⟨(Dt c w).epoch,(Dt c w).capped⟩ else wk c i:=fun i=>En (c:=c) rfl hj
  have hlen:(B3 (I8 c w) w (Ct (Ab c w) ⟨(Dt c w).epoch,(Dt c w).capped⟩)).workers.length=c.workers.length:=by simp only [B3,I8,List.length_set]
  refine ⟨⟨fun x hx=>?_,fun i hi' e he=>?_⟩,fun e he i h1 h2=>?_,fun i h1 h2=>?_⟩
  ·rw [hws,if_neg (Ne.symm hne)]
   exact hN.one.1 x (hers x hx)
  ·rw [hws,if_neg (Ne.symm hne)]
   rw [hws] at he
   rw [hlen] at hi'
   split at he
   ·rcases Ty he with he|he
    ·exact hN.one.2 w.toNat hj e he
    simp only at he
    rw [←he]
    exact hd0
   exact hN.one.2 i hi' e he
  ·rw [hws,if_neg (Ne.symm hne)] at he
   rw [hlen] at h2
   rw [hws]
   rcases hN.tell e he i h1 h2 with q|⟨x,hx,q1,q2⟩
   ·refine .inl ?_
    split
    ·rename_i e0
     subst e0
     exact M0 q
    exact q
   rcases T7 (k:=Et c w) hx with rfl|hx
   ·refine .inl ?_
    have:(c.news.getD (Et c w) default).to_=w:=m2
    rw [if_pos Ac,show e=(Dt c w).epoch from q2.symm]
    exact Wf _ _ _
   exact .inr ⟨x,hx,q1,q2⟩
  rw [hlen] at h2
  have:=hN.cnt i h1 h2
  have h3:=Pm i c.news (Et c w) hat
  rw [hws,hws,if_neg (Ne.symm hne)]
  show Ht i (c.news.eraseIdx (Et c w))+_≤_
  split
  ·rename_i e0
   have h4:(c.news.getD (Et c w) default).to_=w:=m2
   rw [if_pos (by rw [h4];omega)] at h3
   simp only [Ct,List.length_append,List.length_singleton]
   have h5:(Ab c w).dones.length=(wk c i).dones.length:=by rw [Li,e0]
   omega
  omega
 exact hN
theorem A6a {c:A3}{p:C7}(h:As c)(hN:Hm c):Hm (Aj c p).1:=by
 unfold Aj
 split
 ·unfold Df
  split
  ·exact hN.set (by unfold F3;split<;>rfl)
  exact hN
 split
 ·unfold Cz
  split
  ·exact hN.set (by unfold D8;split<;>rfl)
  exact hN
 split
 ·unfold C3
  split
  ·split
   ·exact hN.set rfl
   split
   ·exact hN.lnk.set (by unfold H5;split<;>rfl)
   exact hN
  exact hN
 split
 ·unfold Cm
  split
  ·exact hN.lnk.set (by unfold E8;split<;>rfl)
  exact hN
 split
 ·unfold Cy
  split
  ·exact hN.lnk
  exact hN
 split
 ·unfold Bc
  dsimp only
  split
  ·rename_i hT
   have hTP:Jm c.graph.workers (A9 c p.a):=h.2.2.2.1 _ (Ay (d:=default) (show p.a.toNat<c.tokens.length by have:=h.1.2.2.2;have:=hT.2.1;omega))
   split
   ·exact hN.tok.set rfl
   split
   ·split
    ·exact hN.tok.set rfl
    exact hN
   rename_i hA
   have hA:(A9 c p.a).at_=0:=by have:=hTP.1;omega
   unfold F2
   split
   ·have hl:0<c.workers.length:=by have:=h.1.2.1;have:=h.1.1.2.1;omega
    refine A6b (hN.tok (k:=p.a) (l:=⟨false,(A9 c p.a).at_,(A9 c p.a).sum,(A9 c p.a).black,(A9 c p.a).capped⟩)) hl ?_ hT.2.2.1
    rw [hA]
    rfl
   exact hN.tok
  exact hN
 split
 ·exact A59 h hN
 exact hN
def Uo (k a s:Int):Prop:=(a=3→s=0)∧(a=2→ -k≤s∧s≤k)∧(a=1→ -(2 * k)≤s∧s≤2 * k)∧(a=0→ -(3 * k)≤s∧s≤3 * k)
structure I1 (k:Nat) (c:A3):Prop where
 ok:As c
 news:Hm c
 sums:∀i,i<c.workers.length→∀e:Int,0≤e→e≤3→ -(k:Int)≤E9 (wk c i) e∧E9 (wk c i) e≤k
 toks:∀e:Int,0≤e→e≤3→Uo k (A9 c e).at_ (A9 c e).sum
 sent:∀l∈c.links,l.sent≤k
 sf:∀e:Int,0≤e→e≤3→Mk c e∧Ss c e∧A2g c e
theorem B8j {e:Int}{k:Nat}{c c':A3}(h:Fk e c c')(hl:0<c.workers.length)(hs:∀i,i<c.workers.length→ -(k:Int)≤E9 (wk c i) e∧E9 (wk c i) e≤k):
  ∀i,i<c'.workers.length→ -((k+1:Nat):Int)≤E9 (wk c' i) e∧E9 (wk c' i) e≤(k+1:Nat):=by
 have hlen:=h.len
 have key:∀(j:Nat) (w:Aa),j<c.workers.length→c'.workers=c.workers.set j w→(E9 w e≤E9 (wk c j) e+1∧E9 (wk c j) e≤E9 w e+1)→∀i,i<c'.workers.length→ -((k+1:Nat):Int)≤E9 (wk c' i) e∧E9 (wk c' i) e≤(k+1:Nat):=by
  intro j w hj hw hb i hi
  rw [En hw hj]
  split
  ·have:=hs j hj;omega
  have:=hs i Ac;omega
 cases h with
 |quiet j w' hj hq hw hf ht hd=>exact key j w' hj hw (by rw [hq.1];omega)
 |send j w' hj hp h1 h2 h3 hw hf ht hd=>exact key j w' hj hw Ac
 |take j w' hj h1 h2 h3 hw hf ht hd=>exact key j w' hj hw Ac
 |start hT hg w' h1 h2 h3 h4 hw hf ht hd=>exact key 0 w' hl hw Ac
 |pass hT hg j ha h0 hj w' h1 h2 h3 h4 hw hf ht hd=>exact key j w' hj hw Ac
 |fail hT hg ha hno hw hf ht hd=>
  intro i hi
  have:wk c' i=wk c i:=by unfold wk;rw [hw]
  rw [this]
  have:=hs i Ac
  omega
 |told hT hg ha hb hb0 hs0 w' hq hw hf ht hd=>exact key 0 w' hl hw (by rw [hq.1];omega)
theorem B8n {e:Int}{k:Nat}{c c':A3}(h:Fk e c c')(hC:As c)(hs:∀i,i<c.workers.length→ -(k:Int)≤E9 (wk c i) e∧E9 (wk c i) e≤k)(ht:Uo k (A9 c e).at_ (A9 c e).sum):
  Uo (k+1:Nat) (A9 c' e).at_ (A9 c' e).sum:=by
 have hn:c.workers.length≤4:=by have:=hC.1.2.1;have:=hC.1.1.2.1;omega
 have same:Uo (k+1:Nat) (A9 c e).at_ (A9 c e).sum:=by unfold Uo at *;omega
 cases h with
 |quiet j w' hj hq hw hf ht hd=>rw [ht];exact same
 |send j w' hj hp h1 h2 h3 hw hf ht hd=>rw [ht];exact same
 |take j w' hj h1 h2 h3 hw hf ht hd=>rw [ht];exact same
 |start hT hg w' h1 h2 h3 h4 hw hf ht hd=>
  rw [ht]
  have hz:Uo (k+1:Nat) ((c.workers.length:Int)-1) 0:=by unfold Uo;omega
  exact hz
 |pass hT hg j ha h0 hj w' h1 h2 h3 h4 hw hf ht' hd=>
  rw [ht']
  have:=hs j hj
  rw [ha] at ht
  unfold Uo at *
  simp only
  omega
 |fail hT hg ha hno hw hf ht' hd=>rw [ht'];rw [ha] at same;exact same
 |told hT hg ha hb hb0 hs0 w' hq hw hf ht' hd=>rw [ht'];rw [ha] at same;exact same
theorem Xb {c:A3}{k:Nat}{j:Int}{l:Bz}(h:∀l∈c.links,l.sent≤k)(hl:l.sent≤(k+1:Nat)):∀x∈(C2 c j l).links,x.sent≤(k+1:Nat):=fun x hx=>by
 rcases Ha hx with hx|rfl
 ·have:=h x hx;omega
 exact hl
theorem Qy {c:A3}{k:Nat}{j:Int}(h:∀l∈c.links,l.sent≤k):(Br c j).sent≤k:=by
 unfold Br
 by_cases hj:j.toNat<c.links.length
 ·exact h _ (Ay hj)
 rw [show c.links.getD j.toNat default=default by simp only [List.getD,List.getElem?_eq_none (Nat.le_of_not_lt hj),Option.getD_none]]
 show (0:Int)≤k
 omega
theorem B0o {c:A3}{p:C7}{k:Nat}(h:∀l∈c.links,l.sent≤k):∀l∈(Aj c p).1.links,l.sent≤(k+1:Nat):=by
 have same:∀l∈c.links,l.sent≤(k+1:Nat):=fun l hl=>by have:=h l hl;omega
 unfold Aj
 split
 ·unfold Df;split<;>exact same
 split
 ·unfold Cz;split<;>exact same
 split
 ·unfold C3
  split
  ·split
   ·exact same
   split
   ·refine Xb h ?_
    have:=Qy (j:=B0 c p.a (Bi c p.a)) h
    unfold Cs
    split
    ·show (Br c _).sent+1≤_
     omega
    show (Br c _).sent≤_
    omega
   exact same
  exact same
 split
 ·unfold Cm
  split
  ·refine Xb h ?_
   have:=Qy (j:=B0 c p.a p.b) h
   unfold Bw
   split<;>(show (Br c _).sent≤_;omega)
  exact same
 split
 ·unfold Cy
  split
  ·refine Xb h ?_
   have:=Qy (j:=B0 c p.a p.b) h
   unfold Cr
   split<;>(show (Br c _).sent≤_;omega)
  exact same
 split
 ·rw [O2];exact same
 split
 ·unfold D5
  split
  ·split<;>exact same
  exact same
 exact same
theorem T0 {c:A3}{e:Int}(h:As c)(he:0≤e∧e≤3):0≤(A9 c e).at_∧(A9 c e).at_<c.workers.length:=by
 have hTP:Jm c.graph.workers (A9 c e):=h.2.2.2.1 _ (Ay (d:=default) (show e.toNat<c.tokens.length by have:=h.1.2.2.2;omega))
 have:=h.1.2.1
 have:=hTP.1
 omega
theorem Nh {c:A3}(h:As c):0<c.workers.length:=by have:=h.1.2.1;have:=h.1.1.2.1;omega
theorem I1.step {k:Nat}{c:A3}{p:C7}(h:I1 k c)(hk:k<200000):I1 (k+1) (Aj c p).1:=by
 have hE:∀e:Int,0≤e→e≤3→Fk e c (Aj c p).1:=fun e h0 h1=>Nu h.ok h.news.one ⟨h0,h1⟩
 refine ⟨?_,A6a h.ok h.news,fun i hi e h0 h1=>B8j (hE e h0 h1) (Nh h.ok) (fun i hi=>h.sums i hi e h0 h1) i hi,fun e h0 h1=>B8n (hE e h0 h1) h.ok (fun i hi=>h.sums i hi e h0 h1) (h.toks e h0 h1),B0o h.sent,fun e h0 h1=>?_⟩
 ·refine of_decide_eq_true (show B9 (Aj c p).1=true from ?_)
  rw [Pe h.ok]
  split
  ·split
   ·rename_i hm
    refine decide_eq_true ?_
    have hM:Hj c p.a∧0<(Ab c p.a).staged.length:=by
     unfold C3 at hm
     split at hm
     ·assumption
     exact Bool.noConfusion hm.1
    have:=(Mm hM.1 hM.2).1.2.1
    have:=h.sums p.a.toNat (by have:=hM.1.2;omega) (Bl c p.a).stamp.epoch this.1 this.2
    have e:Uv c p.a=E9 (wk c p.a.toNat) (Bl c p.a).stamp.epoch+1:=rfl
    rw [e]
    unfold Gj
    omega
   rfl
  split
  ·split
   ·rename_i hm
    refine decide_eq_true ?_
    have hM:Mj c p.a p.b∧(Bw (Br c (B0 c p.a p.b))).2.2=true:=by
     unfold Cm at hm
     split at hm
     ·assumption
     exact Bool.noConfusion hm
    have:=(Sk hM.1 hM.2).1.2.1
    have ht:=hM.1.2.2.2
    have:=h.sums p.b.toNat (by have:=h.ok.1.2.1;omega) (Gu c p.a p.b).stamp.epoch this.1 this.2
    have e:V1 c p.a p.b=E9 (wk c p.b.toNat) (Gu c p.a p.b).stamp.epoch+ -1:=rfl
    rw [e]
    unfold Gj
    omega
   rfl
  rfl
 obtain ⟨s1,s2,s3⟩:=h.sf e h0 h1
 have hl:=Nh h.ok
 exact ⟨Mk.step (hE e h0 h1) hl s1,Ss.step (hE e h0 h1) hl (T0 h.ok ⟨h0,h1⟩) s1 s2,A2g.step (hE e h0 h1) hl s1 s2 s3⟩
theorem I1.picks:∀(l:List C7) {k:Nat} (s:A3×List Bool),I1 k s.1→k+l.length≤200000→I1 (k+l.length) (l.foldl Dy s).1
 | [],_,_,h,_=>h
 |p::l,k,s,h,hk=>by
  simp only [List.length_cons] at hk ⊢
  have:=I1.picks l (k:=k+1) (Dy s p) (h.step Ac) Ac
  rw [show k+(l.length+1)=k+1+l.length by omega]
  exact this
theorem I1.runs {k:Nat}{c:A3}{l:List C7}(h:I1 k c)(hk:k+l.length≤200000):I1 (k+l.length) (Bg c l).1:=I1.picks l (c,[]) h hk
theorem I1.more {k m:Nat}{c:A3}(h:I1 k c)(hm:k≤m):I1 m c:=by
 refine ⟨h.ok,h.news,fun i hi e h0 h1=>?_,fun e h0 h1=>?_,fun l hl=>?_,h.sf⟩
 ·have:=h.sums i hi e h0 h1;omega
 ·have:=h.toks e h0 h1;unfold Uo at *;omega
 have:=h.sent l hl;omega
theorem I1.round {k:Nat}{c:A3}(h:I1 k c)(hk:k+44≤200000):I1 (k+44) (Bt c).1:=by
 have h2:=J8 c
 exact (h.runs (l:=Kl (Gf c)) Ac).more Ac
theorem I1.frN {k:Nat}{c:A3}(h:I1 k c):∀n,k+44 * n≤200000→I1 (k+44 * n) (frN c n)
 | 0,_=>h
 |n+1,hk=>(I1.frN h n Ac).round Ac
theorem Rp (n:Nat)(c:A3):∃m,m≤n∧D7 n c=(frN c m,m)∧(m=n∨∃j,m=j+1∧(Bt (frN c j)).2=0):=by
 by_cases h:∀i,i<n→(Bt (frN c i)).2≠0
 ·exact ⟨n,Nat.le_refl _,Rq h,.inl rfl⟩
 have:∃k,k<n∧(Bt (frN c k)).2=0∧∀i,i<k→(Bt (frN c i)).2≠0:=by
  have hex:∃k,k<n∧(Bt (frN c k)).2=0:=by
   by_cases q:∃k,k<n∧(Bt (frN c k)).2=0
   ·exact q
   exact absurd (fun i hi hz=>q ⟨i,hi,hz⟩) h
  obtain ⟨k,hk,hz⟩:=hex
  induction k using Nat.strongRecOn with
  |_ k ih=>
   by_cases q:∃i,i<k∧(Bt (frN c i)).2=0
   ·obtain ⟨i,hi,hz'⟩:=q
    exact ih i hi Ac hz'
   exact ⟨k,hk,hz,fun i hi hz'=>q ⟨i,hi,hz'⟩⟩
 obtain ⟨k,hk,hz,hb⟩:=this
 exact ⟨k+1,by omega,Rs hk hb hz,.inr ⟨k,rfl,hz⟩⟩
end Go.Proofs.YtdendlkeiaccpaaGreatDoor
