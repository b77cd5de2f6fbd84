/- Part 17 of the proof that each of the laws FnTight returns true for every input. No conditions. -/
import Derived.Test.YtonodkjaoalfjaaP16

set_option linter.unusedSimpArgs false
set_option linter.unusedVariables false
set_option maxRecDepth 100000
namespace Go.Proofs.Ytonodkjaoalfjaa
open Go.Sx
def A8b (i:Int) (l:List Ez):Nat:=(l.filter fun x=>x.to_==i).length
structure A8a (c:A3):Prop where
 one:B4b c
 tell:∀e,En (wk c 0) e=true→∀i:Nat,1≤i→i<c.workers.length→En (wk c i) e=true∨∃x∈c.news,x.to_=i∧x.epoch=e
 cnt:∀i:Nat,1≤i→i<c.workers.length→A8b i c.news+(wk c i).dones.length≤(wk c 0).dones.length
theorem A8a.nd {c c':A3}(h:A8a c)(hn:c'.news=c.news)(hl:c'.workers.length=c.workers.length)(hd:∀i,(wk c' i).dones=(wk c i).dones):A8a c':=by
 have hi:∀i e,En (wk c' i) e=En (wk c i) e:=fun i e=>A88 (hd i) e
 refine ⟨⟨fun x hx=>?_,fun i hi' e he=>?_⟩,fun e he i h1 h2=>?_,fun i h1 h2=>?_⟩
 ·rw [hi];exact h.one.1 x (hn▸hx)
 ·rw [hi] at he ⊢;exact h.one.2 i Ag e he
 ·rw [hi] at he ⊢
  rw [hn]
  exact h.tell e he i h1 Ag
 ·rw [hn,hd,hd]
  exact h.cnt i h1 Ag
theorem A8h {c:A3}{w:Int}{v:Ad}(hv:v.dones=(A9 c w).dones)(i:Nat):(wk (Av c w v) i).dones=(wk c i).dones:=by
 unfold wk Av
 simp only
 rw [A63]
 split
 ·rename_i h
  rw [hv]
  unfold A9
  rw [←h.1]
 ·rfl
theorem A8a.set {c:A3}{w:Int}{v:Ad}(h:A8a c)(hv:v.dones=(A9 c w).dones):A8a (Av c w v):=h.nd rfl (by simp only [Av,List.length_set]) (A8h hv)
theorem A8a.lnk {c:A3}{k:Int}{l:C0}(h:A8a c):A8a (Bo c k l):=h.nd rfl rfl fun _=>rfl
theorem A8a.tok {c:A3}{k:Int}{l:Dw}(h:A8a c):A8a (Cs c k l):=h.nd rfl rfl fun _=>rfl
theorem A9q (i:Int)(l l':List Ez):A8b i (l++l')=A8b i l+A8b i l':=by unfold A8b;rw [List.filter_append,List.length_append]
theorem A98 (i e:Int)(b:Bool):∀k:Nat,A8b i (K6 e b k)=if 1≤i∧i≤k then 1 else 0
 | 0=>by
  rw [if_neg Ag]
  rfl
 |k+1=>by
  have ih:=A98 i e b k
  have:K6 e b (k+1)=K6 e b k++[⟨(k:Int)+1,e,b⟩]:=by unfold K6;rw [List.range_succ,List.map_append];rfl
  rw [this,A9q,ih]
  unfold A8b
  simp only [List.filter_cons,List.filter_nil]
  by_cases h1:((k:Int)+1==i)=true
  ·rw [if_pos h1]
   have:=eq_of_beq h1
   rw [if_neg Ag,if_pos Ag]
   rfl
  ·rw [if_neg h1]
   have:(k:Int)+1≠i:=fun q=>h1 (by rw [q];exact beq_self_eq_true i)
   by_cases h2:1≤i∧i≤k
   ·rw [if_pos h2,if_pos Ag];rfl
   ·rw [if_neg h2,if_neg Ag];rfl
theorem A9i (i:Int):∀(l:List Ez) (k:Nat),k<l.length→A8b i (l.eraseIdx k)+(if (l.getD k default).to_=i then 1 else 0)=A8b i l
 | [],_,h=>absurd h (Nat.not_lt_zero _)
 |x::r,0,_=>by
  unfold A8b
  simp only [List.eraseIdx_cons_zero,List.getD_cons_zero,List.filter_cons]
  by_cases h:x.to_=i
  ·rw [if_pos h,if_pos (by rw [h];exact beq_self_eq_true i)];rfl
  ·rw [if_neg h,if_neg (fun q=>h (eq_of_beq q))];rfl
 |x::r,k+1,h=>by
  have ih:=A9i i r k (by simpa using h)
  unfold A8b at ih ⊢
  simp only [List.eraseIdx_cons_succ,List.getD_cons_succ,List.filter_cons]
  split
  ·simp only [List.length_cons];omega
  ·exact ih
theorem B0d {α:Type} [Inhabited α]:∀{l:List α} {k:Nat} {x:α},x∈l→x=l.getD k default∨x∈l.eraseIdx k
 |y::r,0,x,h=>by
  rcases List.mem_cons.1 h with rfl|h
  ·exact .inl rfl
  ·exact .inr h
 |y::r,k+1,x,h=>by
  rcases List.mem_cons.1 h with rfl|h
  ·exact .inr (List.mem_cons_self ..)
  ·rcases B0d (k:=k) h with h|h
   ·exact .inl h
   ·exact .inr (List.mem_cons_of_mem _ h)
theorem A8u {w:Ad}{d:Fv}{e:Int}(h:En w e=true):En (Fj w d) e=true:=by
 unfold En Fj at *
 simp only
 rw [List.any_append,h,Bool.true_or]
theorem B03 (w:Ad)(e:Int)(b:Bool):En (Fj w ⟨e,b⟩) e=true:=by
 unfold En Fj
 simp only [List.any_append,List.any_cons,beq_self_eq_true,Bool.true_or,Bool.or_true]
theorem B0j {w:Ad}{d:Fv}{e:Int}(h:En (Fj w d) e=true):En w e=true∨d.epoch=e:=by
 unfold En Fj at *
 simp only [List.any_append,List.any_cons,List.any_nil,Bool.or_false,Bool.or_eq_true] at h
 rcases h with h|h
 ·exact .inl h
 ·exact .inr (eq_of_beq h)
theorem B3d {c:A3}{e:Int}{b:Bool}{w:Ad}(h:A8a c)(hl:0<c.workers.length)(hw:w.dones=(wk c 0).dones)(hd:En (wk c 0) e=false):A8a (Mj (Av c 0 (Fj w ⟨e,b⟩)) (K6 e b (c.workers.length-1))):=by
 have hw':∀e',En w e'=En (wk c 0) e':=fun e'=>A88 hw e'
 have h0:wk (Mj (Av c 0 (Fj w ⟨e,b⟩)) (K6 e b (c.workers.length-1))) 0=Fj w ⟨e,b⟩:=by
  rw [A62 (c:=c) (j:=0) (w:=Fj w ⟨e,b⟩) rfl hl,if_pos rfl]
 have hi:∀i,i≠0→wk (Mj (Av c 0 (Fj w ⟨e,b⟩)) (K6 e b (c.workers.length-1))) i=wk c i:=fun i h=>by
  rw [A62 (c:=c) (j:=0) (w:=Fj w ⟨e,b⟩) rfl hl,if_neg h]
 have hlen:(Mj (Av c 0 (Fj w ⟨e,b⟩)) (K6 e b (c.workers.length-1))).workers.length=c.workers.length:=by simp only [Mj,Av,List.length_set]
 have hm:∀e',En (wk c 0) e'=true→En (Fj w ⟨e,b⟩) e'=true:=fun e' q=>A8u (by rw [hw'];exact q)
 refine ⟨⟨fun x hx=>?_,fun i hi' e' he=>?_⟩,fun e' he i h1 h2=>?_,fun i h1 h2=>?_⟩
 ·rw [h0]
  rcases List.mem_append.1 hx with hx|hx
  ·exact hm _ (h.one.1 x hx)
  ·obtain ⟨j,_,rfl⟩:=List.mem_map.1 hx
   exact B03 _ _ _
 ·rw [h0]
  by_cases hz:i=0
  ·subst hz;rw [h0] at he;exact he
  ·rw [hi i hz] at he
   exact hm _ (h.one.2 i Ag e' he)
 ·rw [hi i Ag]
  rw [hlen] at h2
  rw [h0] at he
  rcases B0j he with he|he
  ·rw [hw'] at he
   rcases h.tell e' he i h1 h2 with q|⟨x,hx,q⟩
   ·exact .inl q
   ·exact .inr ⟨x,List.mem_append_left _ hx,q⟩
  ·simp only at he
   subst he
   exact .inr ⟨⟨(i:Int),e,b⟩,List.mem_append_right _ (List.mem_map.2 ⟨i-1,List.mem_range.2 Ag,by simp only [Ez.mk.injEq,and_true];omega⟩),rfl,rfl⟩
 ·rw [hi i Ag,h0]
  rw [hlen] at h2
  have:=h.cnt i h1 h2
  show A8b i (c.news++K6 e b (c.workers.length-1))+_≤_
  rw [A9q,A98,if_pos Ag]
  simp only [Fj,List.length_append,List.length_singleton,hw]
  omega
theorem B1n {c:A3}{w:Int}(hn:c.news.any (Iv w)=true):M6 c w<c.news.length:=by
 obtain ⟨x,hx,hw⟩:=List.any_eq_true.1 hn
 by_cases hlt:M6 c w<c.news.length
 ·exact hlt
 ·have:=Q6 (Iv w) c.news
  have he:Gj (Iv w) c.news=c.news.length:=by unfold M6 at hlt;omega
  have:=M1 (Iv w) c.news x (by rw [he,List.take_length];exact hx)
  rw [hw] at this;cases this
theorem B3b {c:A3}{w:Int}(h:Ar c)(hN:A8a c):A8a (D9 c w).1:=by
 unfold D9
 split
 ·rename_i hn
  obtain ⟨m1,m2⟩:=O0 h hn.2
  have hNw:=h.2.2.2.2 _ m1
  have hw:0≤w∧w<c.workers.length:=by have:=h.1.2.1;have:=hNw.1;omega
  have hat:=B1n hn.2
  have hd0:=hN.one.1 _ m1
  have hers:∀x,x∈(Ip c w).news→x∈c.news:=fun x hx=>List.mem_of_mem_eraseIdx hx
  split
  ·rename_i hdw
   refine ⟨⟨fun x hx=>hN.one.1 x (hers x hx),hN.one.2⟩,fun e he i h1 h2=>?_,fun i h1 h2=>?_⟩
   ·rcases hN.tell e he i h1 h2 with q|⟨x,hx,q1,q2⟩
    ·exact .inl q
    ·rcases B0d (k:=M6 c w) hx with rfl|hx
     ·refine .inl ?_
      have:(c.news.getD (M6 c w) default).to_=w:=m2
      have hiw:w.toNat=i:=by omega
      have:En (wk c w.toNat) (Fa c w).epoch=true:=hdw
      rw [hiw,show (Fa c w).epoch=e from q2] at this
      exact this
     ·exact .inr ⟨x,hx,q1,q2⟩
   ·have:=hN.cnt i h1 h2
    have h3:=A9i i c.news (M6 c w) hat
    show A8b i (c.news.eraseIdx (M6 c w))+(wk c i).dones.length≤(wk c 0).dones.length
    omega
  ·rename_i hdw
   have hne:w.toNat≠0:=fun e0=>by
    rw [A8s,e0] at hdw
    exact hdw hd0
   have hj:w.toNat<c.workers.length:=by omega
   have hws:∀i,wk (Av (Ip c w) w (Fj (A9 c w) ⟨(Fa c w).epoch,(Fa c w).capped⟩)) i=if i=w.toNat then Fj (A9 c w) ⟨(Fa c w).epoch,(Fa c w).capped⟩ else wk c i:=fun i=>A62 (c:=c) rfl hj
   have hlen:(Av (Ip c w) w (Fj (A9 c w) ⟨(Fa c w).epoch,(Fa c w).capped⟩)).workers.length=c.workers.length:=by simp only [Av,Ip,List.length_set]
   refine ⟨⟨fun x hx=>?_,fun i hi' e he=>?_⟩,fun e he i h1 h2=>?_,fun i h1 h2=>?_⟩
   ·rw [hws,if_neg (Ne.symm hne)]
    exact hN.one.1 x (hers x hx)
   ·rw [hws,if_neg (Ne.symm hne)]
    rw [hws] at he
    rw [hlen] at hi'
    split at he
    ·rcases B0j he with he|he
     ·exact hN.one.2 w.toNat hj e he
     ·simp only at he
      rw [←he]
      exact hd0
    ·exact hN.one.2 i hi' e he
   ·rw [hws,if_neg (Ne.symm hne)] at he
    rw [hlen] at h2
    rw [hws]
    rcases hN.tell e he i h1 h2 with q|⟨x,hx,q1,q2⟩
    ·refine .inl ?_
     split
     ·rename_i e0
      subst e0
      exact A8u q
     ·exact q
    ·rcases B0d (k:=M6 c w) hx with rfl|hx
     ·refine .inl ?_
      have:(c.news.getD (M6 c w) default).to_=w:=m2
      rw [if_pos Ag,show e=(Fa c w).epoch from q2.symm]
      exact B03 _ _ _
     ·exact .inr ⟨x,hx,q1,q2⟩
   ·rw [hlen] at h2
    have:=hN.cnt i h1 h2
    have h3:=A9i i c.news (M6 c w) hat
    rw [hws,hws,if_neg (Ne.symm hne)]
    show A8b i (c.news.eraseIdx (M6 c w))+_≤_
    split
    ·rename_i e0
     have h4:(c.news.getD (M6 c w) default).to_=w:=m2
     rw [if_pos (by rw [h4];omega)] at h3
     simp only [Fj,List.length_append,List.length_singleton]
     have h5:(A9 c w).dones.length=(wk c i).dones.length:=by rw [A8s,e0]
     omega
    ·omega
 ·exact hN
theorem B3c {c:A3}{p:Bl}(h:Ar c)(hN:A8a c):A8a (Ao c p).1:=by
 unfold Ao
 split
 ·unfold Df
  split
  ·exact hN.set (by unfold H4;split<;>rfl)
  ·exact hN
 split
 ·unfold Ct
  split
  ·exact hN.set (by unfold Et;split<;>rfl)
  ·exact hN
 split
 ·unfold Br
  split
  ·split
   ·exact hN.set rfl
   split
   ·exact hN.lnk.set (by unfold G3;split<;>rfl)
   ·exact hN
  ·exact hN
 split
 ·unfold Ck
  split
  ·exact hN.lnk.set (by unfold F1;split<;>rfl)
  ·exact hN
 split
 ·unfold Cq
  split
  ·exact hN.lnk
  ·exact hN
 split
 ·unfold C2
  dsimp only
  split
  ·rename_i hT
   have hTP:Nl c.graph.workers (Ab c p.a):=h.2.2.2.1 _ (B9 (d:=default) (show p.a.toNat<c.tokens.length by have:=h.1.2.2.2;have:=hT.2.1;omega))
   split
   ·exact hN.tok.set rfl
   split
   ·split
    ·exact hN.tok.set rfl
    ·exact hN
   ·rename_i hA
    have hA:(Ab c p.a).at_=0:=by have:=hTP.1;omega
    unfold H2
    split
    ·have hl:0<c.workers.length:=by have:=h.1.2.1;have:=h.1.1.2.1;omega
     refine B3d (hN.tok (k:=p.a) (l:=⟨false,(Ab c p.a).at_,(Ab c p.a).sum,(Ab c p.a).black,(Ab c p.a).capped⟩)) hl ?_ hT.2.2.1
     rw [hA]
     rfl
    ·exact hN.tok
  ·exact hN
 split
 ·exact B3b h hN
 ·exact hN
def B0m (k a s:Int):Prop:=(a=3→s=0)∧(a=2→ -k≤s∧s≤k)∧(a=1→ -(2 * k)≤s∧s≤2 * k)∧(a=0→ -(3 * k)≤s∧s≤3 * k)
structure A60 (k:Nat) (c:A3):Prop where
 ok:Ar c
 news:A8a c
 sums:∀i,i<c.workers.length→∀e:Int,0≤e→e≤3→ -(k:Int)≤A4j (wk c i) e∧A4j (wk c i) e≤k
 toks:∀e:Int,0≤e→e≤3→B0m k (Ab c e).at_ (Ab c e).sum
 sent:∀l∈c.links,l.sent≤k
 sf:∀e:Int,0≤e→e≤3→A81 c e∧A96 c e∧B2h c e
theorem B5m {e:Int}{k:Nat}{c c':A3}(h:A7t e c c')(hl:0<c.workers.length)(hs:∀i,i<c.workers.length→ -(k:Int)≤A4j (wk c i) e∧A4j (wk c i) e≤k):
  ∀i,i<c'.workers.length→ -((k+1:Nat):Int)≤A4j (wk c' i) e∧A4j (wk c' i) e≤(k+1:Nat):=by
 have hlen:=h.len
 have key:∀(j:Nat) (w:Ad),j<c.workers.length→c'.workers=c.workers.set j w→(A4j w e≤A4j (wk c j) e+1∧A4j (wk c j) e≤A4j w e+1)→∀i,i<c'.workers.length→ -((k+1:Nat):Int)≤A4j (wk c' i) e∧A4j (wk c' i) e≤(k+1:Nat):=by
  intro j w hj hw hb i hi
  rw [A62 hw hj]
  split
  ·have:=hs j hj;omega
  ·have:=hs i Ag;omega
 cases h with
 |quiet j w' hj hq hw hf ht hd=>exact key j w' hj hw (by rw [hq.1];omega)
 |send j w' hj hp h1 h2 h3 hw hf ht hd=>exact key j w' hj hw Ag
 |take j w' hj h1 h2 h3 hw hf ht hd=>exact key j w' hj hw Ag
 |start hT hg w' h1 h2 h3 h4 hw hf ht hd=>exact key 0 w' hl hw Ag
 |pass hT hg j ha h0 hj w' h1 h2 h3 h4 hw hf ht hd=>exact key j w' hj hw Ag
 |fail hT hg ha hno hw hf ht hd=>
  intro i hi
  have:wk c' i=wk c i:=by unfold wk;rw [hw]
  rw [this]
  have:=hs i Ag
  omega
 |told hT hg ha hb hb0 hs0 w' hq hw hf ht hd=>exact key 0 w' hl hw (by rw [hq.1];omega)
theorem B5o {e:Int}{k:Nat}{c c':A3}(h:A7t e c c')(hC:Ar c)(hs:∀i,i<c.workers.length→ -(k:Int)≤A4j (wk c i) e∧A4j (wk c i) e≤k)(ht:B0m k (Ab c e).at_ (Ab c e).sum):
  B0m (k+1:Nat) (Ab c' e).at_ (Ab c' e).sum:=by
 have hn:c.workers.length≤4:=by have:=hC.1.2.1;have:=hC.1.1.2.1;omega
 have same:B0m (k+1:Nat) (Ab c e).at_ (Ab c e).sum:=by unfold B0m at *;omega
 cases h with
 |quiet j w' hj hq hw hf ht hd=>rw [ht];exact same
 |send j w' hj hp h1 h2 h3 hw hf ht hd=>rw [ht];exact same
 |take j w' hj h1 h2 h3 hw hf ht hd=>rw [ht];exact same
 |start hT hg w' h1 h2 h3 h4 hw hf ht hd=>
  rw [ht]
  have hz:B0m (k+1:Nat) ((c.workers.length:Int)-1) 0:=by unfold B0m;omega
  exact hz
 |pass hT hg j ha h0 hj w' h1 h2 h3 h4 hw hf ht' hd=>
  rw [ht']
  have:=hs j hj
  rw [ha] at ht
  unfold B0m at *
  simp only
  omega
 |fail hT hg ha hno hw hf ht' hd=>rw [ht'];rw [ha] at same;exact same
 |told hT hg ha hb hb0 hs0 w' hq hw hf ht' hd=>rw [ht'];rw [ha] at same;exact same
theorem B08 {c:A3}{k:Nat}{j:Int}{l:C0}(h:∀l∈c.links,l.sent≤k)(hl:l.sent≤(k+1:Nat)):∀x∈(Bo c j l).links,x.sent≤(k+1:Nat):=fun x hx=>by
 rcases Lf hx with hx|rfl
 ·have:=h x hx;omega
 ·exact hl
theorem A89 {c:A3}{k:Nat}{j:Int}(h:∀l∈c.links,l.sent≤k):(Bc c j).sent≤k:=by
 unfold Bc
 by_cases hj:j.toNat<c.links.length
 ·exact h _ (B9 hj)
 ·rw [show c.links.getD j.toNat default=default by simp only [List.getD,List.getElem?_eq_none (Nat.le_of_not_lt hj),Option.getD_none]]
  show (0:Int)≤k
  omega
theorem B33 {c:A3}{p:Bl}{k:Nat}(h:∀l∈c.links,l.sent≤k):∀l∈(Ao c p).1.links,l.sent≤(k+1:Nat):=by
 have same:∀l∈c.links,l.sent≤(k+1:Nat):=fun l hl=>by have:=h l hl;omega
 unfold Ao
 split
 ·unfold Df;split<;>exact same
 split
 ·unfold Ct;split<;>exact same
 split
 ·unfold Br
  split
  ·split
   ·exact same
   split
   ·refine B08 h ?_
    have:=A89 (j:=Ai c p.a (As c p.a)) h
    unfold C6
    split
    ·show (Bc c _).sent+1≤_
     omega
    ·show (Bc c _).sent≤_
     omega
   ·exact same
  ·exact same
 split
 ·unfold Ck
  split
  ·refine B08 h ?_
   have:=A89 (j:=Ai c p.a p.b) h
   unfold Bn
   split<;>(show (Bc c _).sent≤_;omega)
  ·exact same
 split
 ·unfold Cq
  split
  ·refine B08 h ?_
   have:=A89 (j:=Ai c p.a p.b) h
   unfold D4
   split<;>(show (Bc c _).sent≤_;omega)
  ·exact same
 split
 ·rw [B0n];exact same
 split
 ·unfold D9
  split
  ·split<;>exact same
  ·exact same
 ·exact same
theorem B02 {c:A3}{e:Int}(h:Ar c)(he:0≤e∧e≤3):0≤(Ab c e).at_∧(Ab c e).at_<c.workers.length:=by
 have hTP:Nl c.graph.workers (Ab c e):=h.2.2.2.1 _ (B9 (d:=default) (show e.toNat<c.tokens.length by have:=h.1.2.2.2;omega))
 have:=h.1.2.1
 have:=hTP.1
 omega
theorem A8v {c:A3}(h:Ar c):0<c.workers.length:=by have:=h.1.2.1;have:=h.1.1.2.1;omega
theorem A60.step {k:Nat}{c:A3}{p:Bl}(h:A60 k c)(hk:k<200000):A60 (k+1) (Ao c p).1:=by
 have hE:∀e:Int,0≤e→e≤3→A7t e c (Ao c p).1:=fun e h0 h1=>A9a h.ok h.news.one ⟨h0,h1⟩
 refine ⟨?_,B3c h.ok h.news,fun i hi e h0 h1=>B5m (hE e h0 h1) (A8v h.ok) (fun i hi=>h.sums i hi e h0 h1) i hi,fun e h0 h1=>B5o (hE e h0 h1) h.ok (fun i hi=>h.sums i hi e h0 h1) (h.toks e h0 h1),B33 h.sent,fun e h0 h1=>?_⟩
 ·refine of_decide_eq_true (show Aq (Ao c p).1=true from ?_)
  rw [W2 h.ok]
  split
  ·split
   ·rename_i hm
    refine decide_eq_true ?_
    have hM:Fi c p.a∧0<(A9 c p.a).staged.length:=by
     unfold Br at hm
     split at hm
     ·assumption
     ·exact Bool.noConfusion hm.1
    have:=(Q7 hM.1 hM.2).1.2.1
    have:=h.sums p.a.toNat (by have:=hM.1.2;omega) (Au c p.a).stamp.epoch this.1 this.2
    have e:Tz c p.a=A4j (wk c p.a.toNat) (Au c p.a).stamp.epoch+1:=rfl
    rw [e]
    unfold Gu
    omega
   ·rfl
  ·split
   ·split
    ·rename_i hm
     refine decide_eq_true ?_
     have hM:Jb c p.a p.b∧(Bn (Bc c (Ai c p.a p.b))).2.2=true:=by
      unfold Ck at hm
      split at hm
      ·assumption
      ·exact Bool.noConfusion hm
     have:=(A35 hM.1 hM.2).1.2.1
     have ht:=hM.1.2.2.2
     have:=h.sums p.b.toNat (by have:=h.ok.1.2.1;omega) (Jz c p.a p.b).stamp.epoch this.1 this.2
     have e:Ui c p.a p.b=A4j (wk c p.b.toNat) (Jz c p.a p.b).stamp.epoch+ -1:=rfl
     rw [e]
     unfold Gu
     omega
    ·rfl
   ·rfl
 ·obtain ⟨s1,s2,s3⟩:=h.sf e h0 h1
  have hl:=A8v h.ok
  exact ⟨A81.step (hE e h0 h1) hl s1,A96.step (hE e h0 h1) hl (B02 h.ok ⟨h0,h1⟩) s1 s2,B2h.step (hE e h0 h1) hl s1 s2 s3⟩
theorem A60.picks:∀(l:List Bl) {k:Nat} (s:A3×List Bool),A60 k s.1→k+l.length≤200000→A60 (k+l.length) (l.foldl F2 s).1
 | [],_,_,h,_=>h
 |p::l,k,s,h,hk=>by
  simp only [List.length_cons] at hk ⊢
  have:=A60.picks l (k:=k+1) (F2 s p) (h.step Ag) Ag
  rw [show k+(l.length+1)=k+1+l.length by omega]
  exact this
theorem A60.runs {k:Nat}{c:A3}{l:List Bl}(h:A60 k c)(hk:k+l.length≤200000):A60 (k+l.length) (Ce c l).1:=A60.picks l (c,[]) h hk
theorem A60.more {k m:Nat}{c:A3}(h:A60 k c)(hm:k≤m):A60 m c:=by
 refine ⟨h.ok,h.news,fun i hi e h0 h1=>?_,fun e h0 h1=>?_,fun l hl=>?_,h.sf⟩
 ·have:=h.sums i hi e h0 h1;omega
 ·have:=h.toks e h0 h1;unfold B0m at *;omega
 ·have:=h.sent l hl;omega
theorem A60.round {k:Nat}{c:A3}(h:A60 k c)(hk:k+44≤200000):A60 (k+44) (A4a c).1:=by
 have h2:=Pv c
 exact (h.runs (l:=Ru (Ou c)) Ag).more Ag
theorem A60.frN {k:Nat}{c:A3}(h:A60 k c):∀n,k+44 * n≤200000→A60 (k+44 * n) (frN c n)
 | 0,_=>h
 |n+1,hk=>(A60.frN h n Ag).round Ag
end Go.Proofs.Ytonodkjaoalfjaa
