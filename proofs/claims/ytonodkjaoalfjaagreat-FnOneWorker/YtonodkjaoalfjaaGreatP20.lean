/- Part 20 of the proof that each of the laws FnOneWorker returns true for every input. No conditions. -/
import Derived.Test.YtonodkjaoalfjaaGreatP19

set_option linter.unusedSimpArgs false
set_option linter.unusedVariables false
set_option maxRecDepth 100000
namespace Go.Proofs.YtonodkjaoalfjaaGreat
open Go.Sx
def Hc (i:Int) (l:List Cn):Nat:=(l.filter fun x=>x.to_==i).length
structure Ha (c:A3):Prop where
 one:B12 c
 tell:∀e,B1 (wk c 0) e=true→∀i:Nat,1≤i→i<c.workers.length→B1 (wk c i) e=true∨∃x∈c.news,x.to_=i∧x.epoch=e
 cnt:∀i:Nat,1≤i→i<c.workers.length→Hc i c.news+(wk c i).dones.length≤(wk c 0).dones.length
theorem Ha.nd {c c':A3}(h:Ha c)(hn:c'.news=c.news)(hl:c'.workers.length=c.workers.length)(hd:∀i,(wk c' i).dones=(wk c i).dones):Ha c':=by
 have hi:∀i e,B1 (wk c' i) e=B1 (wk c i) e:=fun i e=>Nj (hd i) e
 refine ⟨⟨fun x hx=>?_,fun i hi' e he=>?_⟩,fun e he i h1 h2=>?_,fun i h1 h2=>?_⟩
 ·rw [hi];exact h.one.1 x (hn▸hx)
 ·rw [hi] at he ⊢;exact h.one.2 i Ac e he
 ·rw [hi] at he ⊢
  rw [hn]
  exact h.tell e he i h1 Ac
 ·rw [hn,hd,hd]
  exact h.cnt i h1 Ac
theorem Ic {c:A3}{w:Int}{v:Ab}(hv:v.dones=(A6 c w).dones)(i:Nat):(wk (Av c w v) i).dones=(wk c i).dones:=by
 unfold wk Av
 simp only
 rw [Dr]
 split
 ·rename_i h
  rw [hv]
  unfold A6
  rw [←h.1]
 ·rfl
theorem Ha.set {c:A3}{w:Int}{v:Ab}(h:Ha c)(hv:v.dones=(A6 c w).dones):Ha (Av c w v):=h.nd rfl (by simp only [Av,List.length_set]) (Ic hv)
theorem Ha.lnk {c:A3}{k:Int}{l:C2}(h:Ha c):Ha (B6 c k l):=h.nd rfl rfl fun _=>rfl
theorem Ha.tok {c:A3}{k:Int}{l:Es}(h:Ha c):Ha (Cp c k l):=h.nd rfl rfl fun _=>rfl
theorem Qs (i:Int)(l l':List Cn):Hc i (l++l')=Hc i l+Hc i l':=by unfold Hc;rw [List.filter_append,List.length_append]
theorem St (i e:Int)(b:Bool):∀k:Nat,Hc i (H1 e b k)=if 1≤i∧i≤k then 1 else 0
 | 0=>by
  rw [if_neg Ac]
  rfl
 |k+1=>by
  have ih:=St i e b k
  have:H1 e b (k+1)=H1 e b k++[⟨(k:Int)+1,e,b⟩]:=by unfold H1;rw [List.range_succ,List.map_append];rfl
  rw [this,Qs,ih]
  unfold Hc
  simp only [List.filter_cons,List.filter_nil]
  by_cases h1:((k:Int)+1==i)=true
  ·rw [if_pos h1]
   have:=eq_of_beq h1
   rw [if_neg Ac,if_pos Ac]
   rfl
  ·rw [if_neg h1]
   have:(k:Int)+1≠i:=fun q=>h1 (by rw [q];exact beq_self_eq_true i)
   by_cases h2:1≤i∧i≤k
   ·rw [if_pos h2,if_pos Ac];rfl
   ·rw [if_neg h2,if_neg Ac];rfl
theorem Pp (i:Int):∀(l:List Cn) (k:Nat),k<l.length→Hc i (l.eraseIdx k)+(if (l.getD k default).to_=i then 1 else 0)=Hc i l
 | [],_,h=>absurd h (Nat.not_lt_zero _)
 |x::r,0,_=>by
  unfold Hc
  simp only [List.eraseIdx_cons_zero,List.getD_cons_zero,List.filter_cons]
  by_cases h:x.to_=i
  ·rw [if_pos h,if_pos (by rw [h];exact beq_self_eq_true i)];rfl
  ·rw [if_neg h,if_neg (fun q=>h (eq_of_beq q))];rfl
 |x::r,k+1,h=>by
  have ih:=Pp i r k (by simpa using h)
  unfold Hc at ih ⊢
  simp only [List.eraseIdx_cons_succ,List.getD_cons_succ,List.filter_cons]
  split
  ·simp only [List.length_cons];omega
  ·exact ih
theorem T8 {α:Type} [Inhabited α]:∀{l:List α} {k:Nat} {x:α},x∈l→x=l.getD k default∨x∈l.eraseIdx k
 |y::r,0,x,h=>by
  rcases List.mem_cons.1 h with rfl|h
  ·exact .inl rfl
  ·exact .inr h
 |y::r,k+1,x,h=>by
  rcases List.mem_cons.1 h with rfl|h
  ·exact .inr (List.mem_cons_self ..)
  ·rcases T8 (k:=k) h with h|h
   ·exact .inl h
   ·exact .inr (List.mem_cons_of_mem _ h)
theorem Lw {w:Ab}{d:E3}{e:Int}(h:B1 w e=true):B1 (Cx w d) e=true:=by
 unfold B1 Cx at *
 simp only
 rw [List.any_append,h,Bool.true_or]
theorem Wi (w:Ab)(e:Int)(b:Bool):B1 (Cx w ⟨e,b⟩) e=true:=by
 unfold B1 Cx
 simp only [List.any_append,List.any_cons,beq_self_eq_true,Bool.true_or,Bool.or_true]
theorem Ty {w:Ab}{d:E3}{e:Int}(h:B1 (Cx w d) e=true):B1 w e=true∨d.epoch=e:=by
 unfold B1 Cx at *
 simp only [List.any_append,List.any_cons,List.any_nil,Bool.or_false,Bool.or_eq_true] at h
 rcases h with h|h
 ·exact .inl h
 ·exact .inr (eq_of_beq h)
theorem A6z {c:A3}{e:Int}{b:Bool}{w:Ab}(h:Ha c)(hl:0<c.workers.length)(hw:w.dones=(wk c 0).dones)(hd:B1 (wk c 0) e=false):Ha (I0 (Av c 0 (Cx w ⟨e,b⟩)) (H1 e b (c.workers.length-1))):=by
 have hw':∀e',B1 w e'=B1 (wk c 0) e':=fun e'=>Nj hw e'
 have h0:wk (I0 (Av c 0 (Cx w ⟨e,b⟩)) (H1 e b (c.workers.length-1))) 0=Cx w ⟨e,b⟩:=by
  rw [Ey (c:=c) (j:=0) (w:=Cx w ⟨e,b⟩) rfl hl,if_pos rfl]
 have hi:∀i,i≠0→wk (I0 (Av c 0 (Cx w ⟨e,b⟩)) (H1 e b (c.workers.length-1))) i=wk c i:=fun i h=>by
  rw [Ey (c:=c) (j:=0) (w:=Cx w ⟨e,b⟩) rfl hl,if_neg h]
 have hlen:(I0 (Av c 0 (Cx w ⟨e,b⟩)) (H1 e b (c.workers.length-1))).workers.length=c.workers.length:=by simp only [I0,Av,List.length_set]
 have hm:∀e',B1 (wk c 0) e'=true→B1 (Cx w ⟨e,b⟩) e'=true:=fun e' q=>Lw (by rw [hw'];exact q)
 refine ⟨⟨fun x hx=>?_,fun i hi' e' he=>?_⟩,fun e' he i h1 h2=>?_,fun i h1 h2=>?_⟩
 ·rw [h0]
  rcases List.mem_append.1 hx with hx|hx
  ·exact hm _ (h.one.1 x hx)
  ·obtain ⟨j,_,rfl⟩:=List.mem_map.1 hx
   exact Wi _ _ _
 ·rw [h0]
  by_cases hz:i=0
  ·subst hz;rw [h0] at he;exact he
  ·rw [hi i hz] at he
   exact hm _ (h.one.2 i Ac e' he)
 ·rw [hi i Ac]
  rw [hlen] at h2
  rw [h0] at he
  rcases Ty he with he|he
  ·rw [hw'] at he
   rcases h.tell e' he i h1 h2 with q|⟨x,hx,q⟩
   ·exact .inl q
   ·exact .inr ⟨x,List.mem_append_left _ hx,q⟩
  ·simp only at he
   subst he
   exact .inr ⟨⟨(i:Int),e,b⟩,List.mem_append_right _ (List.mem_map.2 ⟨i-1,List.mem_range.2 Ac,by simp only [Cn.mk.injEq,and_true];omega⟩),rfl,rfl⟩
 ·rw [hi i Ac,h0]
  rw [hlen] at h2
  have:=h.cnt i h1 h2
  show Hc i (c.news++H1 e b (c.workers.length-1))+_≤_
  rw [Qs,St,if_pos Ac]
  simp only [Cx,List.length_append,List.length_singleton,hw]
  omega
theorem Zc {c:A3}{w:Int}(hn:c.news.any (Is w)=true):Ej c w<c.news.length:=by
 obtain ⟨x,hx,hw⟩:=List.any_eq_true.1 hn
 by_cases hlt:Ej c w<c.news.length
 ·exact hlt
 ·have:=Rt (Is w) c.news
  have he:Ek (Is w) c.news=c.news.length:=by unfold Ej at hlt;omega
  have:=N9 (Is w) c.news x (by rw [he,List.take_length];exact hx)
  rw [hw] at this;cases this
theorem A6x {c:A3}{w:Int}(h:Ap c)(hN:Ha c):Ha (D4 c w).1:=by
 unfold D4
 split
 ·rename_i hn
  obtain ⟨m1,m2⟩:=Jk h hn.2
  have hNw:=h.2.2.2.2 _ m1
  have hw:0≤w∧w<c.workers.length:=by have:=h.1.2.1;have:=hNw.1;omega
  have hat:=Zc hn.2
  have hd0:=hN.one.1 _ m1
  have hers:∀x,x∈(Ih c w).news→x∈c.news:=fun x hx=>List.mem_of_mem_eraseIdx hx
  split
  ·rename_i hdw
   refine ⟨⟨fun x hx=>hN.one.1 x (hers x hx),hN.one.2⟩,fun e he i h1 h2=>?_,fun i h1 h2=>?_⟩
   ·rcases hN.tell e he i h1 h2 with q|⟨x,hx,q1,q2⟩
    ·exact .inl q
    ·rcases T8 (k:=Ej c w) hx with rfl|hx
     ·refine .inl ?_
      have:(c.news.getD (Ej c w) default).to_=w:=m2
      have hiw:w.toNat=i:=by omega
      have:B1 (wk c w.toNat) (Dd c w).epoch=true:=hdw
      rw [hiw,show (Dd c w).epoch=e from q2] at this
      exact this
     ·exact .inr ⟨x,hx,q1,q2⟩
   ·have:=hN.cnt i h1 h2
    have h3:=Pp i c.news (Ej c w) hat
    show Hc i (c.news.eraseIdx (Ej c w))+(wk c i).dones.length≤(wk c 0).dones.length
    omega
  ·rename_i hdw
   have hne:w.toNat≠0:=fun e0=>by
    rw [Lh,e0] at hdw
    exact hdw hd0
   have hj:w.toNat<c.workers.length:=by omega
   have hws:∀i,wk (Av (Ih c w) w (Cx (A6 c w) ⟨(Dd c w).epoch,(Dd c w).capped⟩)) i=if i=w.toNat then Cx (A6 c w) ⟨(Dd c w).epoch,(Dd c w).capped⟩ else wk c i:=fun i=>Ey (c:=c) rfl hj
   have hlen:(Av (Ih c w) w (Cx (A6 c w) ⟨(Dd c w).epoch,(Dd c w).capped⟩)).workers.length=c.workers.length:=by simp only [Av,Ih,List.length_set]
   refine ⟨⟨fun x hx=>?_,fun i hi' e he=>?_⟩,fun e he i h1 h2=>?_,fun i h1 h2=>?_⟩
   ·rw [hws,if_neg (Ne.symm hne)]
    exact hN.one.1 x (hers x hx)
   ·rw [hws,if_neg (Ne.symm hne)]
    rw [hws] at he
    rw [hlen] at hi'
    split at he
    ·rcases Ty he with he|he
     ·exact hN.one.2 w.toNat hj e he
     ·simp only at he
      rw [←he]
      exact hd0
    ·exact hN.one.2 i hi' e he
   ·rw [hws,if_neg (Ne.symm hne)] at he
    rw [hlen] at h2
    rw [hws]
    rcases hN.tell e he i h1 h2 with q|⟨x,hx,q1,q2⟩
    ·refine .inl ?_
     split
     ·rename_i e0
      subst e0
      exact Lw q
     ·exact q
    ·rcases T8 (k:=Ej c w) hx with rfl|hx
     ·refine .inl ?_
      have:(c.news.getD (Ej c w) default).to_=w:=m2
      rw [if_pos Ac,show e=(Dd c w).epoch from q2.symm]
      exact Wi _ _ _
     ·exact .inr ⟨x,hx,q1,q2⟩
   ·rw [hlen] at h2
    have:=hN.cnt i h1 h2
    have h3:=Pp i c.news (Ej c w) hat
    rw [hws,hws,if_neg (Ne.symm hne)]
    show Hc i (c.news.eraseIdx (Ej c w))+_≤_
    split
    ·rename_i e0
     have h4:(c.news.getD (Ej c w) default).to_=w:=m2
     rw [if_pos (by rw [h4];omega)] at h3
     simp only [Cx,List.length_append,List.length_singleton]
     have h5:(A6 c w).dones.length=(wk c i).dones.length:=by rw [Lh,e0]
     omega
    ·omega
 ·exact hN
theorem A6y {c:A3}{p:Bl}(h:Ap c)(hN:Ha c):Ha (Ag c p).1:=by
 unfold Ag
 split
 ·unfold Cr
  split
  ·exact hN.set (by unfold Fk;split<;>rfl)
  ·exact hN
 split
 ·unfold Cg
  split
  ·exact hN.set (by unfold Dg;split<;>rfl)
  ·exact hN
 split
 ·unfold C6
  split
  ·split
   ·exact hN.set rfl
   split
   ·exact hN.lnk.set (by unfold Cs;split<;>rfl)
   ·exact hN
  ·exact hN
 split
 ·unfold Cd
  split
  ·exact hN.lnk.set (by unfold Cj;split<;>rfl)
  ·exact hN
 split
 ·unfold Br
  split
  ·exact hN.lnk
  ·exact hN
 split
 ·unfold Bo
  dsimp only
  split
  ·rename_i hT
   have hTP:O7 c.graph.workers (A4 c p.a):=h.2.2.2.1 _ (Aq (d:=default) (show p.a.toNat<c.tokens.length by have:=h.1.2.2.2;have:=hT.2.1;omega))
   split
   ·exact hN.tok.set rfl
   split
   ·split
    ·exact hN.tok.set rfl
    ·exact hN
   ·rename_i hA
    have hA:(A4 c p.a).at_=0:=by have:=hTP.1;omega
    unfold Gn
    split
    ·have hl:0<c.workers.length:=by have:=h.1.2.1;have:=h.1.1.2.1;omega
     refine A6z (hN.tok (k:=p.a) (l:=⟨false,(A4 c p.a).at_,(A4 c p.a).sum,(A4 c p.a).black,(A4 c p.a).capped⟩)) hl ?_ hT.2.2.1
     rw [hA]
     rfl
    ·exact hN.tok
  ·exact hN
 split
 ·exact A6x h hN
 ·exact hN
def Ue (k a s:Int):Prop:=(a=3→s=0)∧(a=2→ -k≤s∧s≤k)∧(a=1→ -(2 * k)≤s∧s≤2 * k)∧(a=0→ -(3 * k)≤s∧s≤3 * k)
structure Et (k:Nat) (c:A3):Prop where
 ok:Ap c
 news:Ha c
 sums:∀i,i<c.workers.length→∀e:Int,0≤e→e≤3→ -(k:Int)≤Dx (wk c i) e∧Dx (wk c i) e≤k
 toks:∀e:Int,0≤e→e≤3→Ue k (A4 c e).at_ (A4 c e).sum
 sent:∀l∈c.links,l.sent≤k
 sf:∀e:Int,0≤e→e≤3→Ln c e∧Sn c e∧A2o c e
theorem B8x {e:Int}{k:Nat}{c c':A3}(h:Fl e c c')(hl:0<c.workers.length)(hs:∀i,i<c.workers.length→ -(k:Int)≤Dx (wk c i) e∧Dx (wk c i) e≤k):
  ∀i,i<c'.workers.length→ -((k+1:Nat):Int)≤Dx (wk c' i) e∧Dx (wk c' i) e≤(k+1:Nat):=by
 have hlen:=h.len
 have key:∀(j:Nat) (w:Ab),j<c.workers.length→c'.workers=c.workers.set j w→(Dx w e≤Dx (wk c j) e+1∧Dx (wk c j) e≤Dx w e+1)→∀i,i<c'.workers.length→ -((k+1:Nat):Int)≤Dx (wk c' i) e∧Dx (wk c' i) e≤(k+1:Nat):=by
  intro j w hj hw hb i hi
  rw [Ey hw hj]
  split
  ·have:=hs j hj;omega
  ·have:=hs i Ac;omega
 cases h with
 |quiet j w' hj hq hw hf ht hd=>exact key j w' hj hw (by rw [hq.1];omega)
 |send j w' hj hp h1 h2 h3 hw hf ht hd=>exact key j w' hj hw Ac
 |take j w' hj h1 h2 h3 hw hf ht hd=>exact key j w' hj hw Ac
 |start hT hg w' h1 h2 h3 h4 hw hf ht hd=>exact key 0 w' hl hw Ac
 |pass hT hg j ha h0 hj w' h1 h2 h3 h4 hw hf ht hd=>exact key j w' hj hw Ac
 |fail hT hg ha hno hw hf ht hd=>
  intro i hi
  have:wk c' i=wk c i:=by unfold wk;rw [hw]
  rw [this]
  have:=hs i Ac
  omega
 |told hT hg ha hb hb0 hs0 w' hq hw hf ht hd=>exact key 0 w' hl hw (by rw [hq.1];omega)
theorem B8z {e:Int}{k:Nat}{c c':A3}(h:Fl e c c')(hC:Ap c)(hs:∀i,i<c.workers.length→ -(k:Int)≤Dx (wk c i) e∧Dx (wk c i) e≤k)(ht:Ue k (A4 c e).at_ (A4 c e).sum):
  Ue (k+1:Nat) (A4 c' e).at_ (A4 c' e).sum:=by
 have hn:c.workers.length≤4:=by have:=hC.1.2.1;have:=hC.1.1.2.1;omega
 have same:Ue (k+1:Nat) (A4 c e).at_ (A4 c e).sum:=by unfold Ue at *;omega
 cases h with
 |quiet j w' hj hq hw hf ht hd=>rw [ht];exact same
 |send j w' hj hp h1 h2 h3 hw hf ht hd=>rw [ht];exact same
 |take j w' hj h1 h2 h3 hw hf ht hd=>rw [ht];exact same
 |start hT hg w' h1 h2 h3 h4 hw hf ht hd=>
  rw [ht]
  have hz:Ue (k+1:Nat) ((c.workers.length:Int)-1) 0:=by unfold Ue;omega
  exact hz
 |pass hT hg j ha h0 hj w' h1 h2 h3 h4 hw hf ht' hd=>
  rw [ht']
  have:=hs j hj
  rw [ha] at ht
  unfold Ue at *
  simp only
  omega
 |fail hT hg ha hno hw hf ht' hd=>rw [ht'];rw [ha] at same;exact same
 |told hT hg ha hb hb0 hs0 w' hq hw hf ht' hd=>rw [ht'];rw [ha] at same;exact same
theorem Xd {c:A3}{k:Nat}{j:Int}{l:C2}(h:∀l∈c.links,l.sent≤k)(hl:l.sent≤(k+1:Nat)):∀x∈(B6 c j l).links,x.sent≤(k+1:Nat):=fun x hx=>by
 rcases M6 hx with hx|rfl
 ·have:=h x hx;omega
 ·exact hl
theorem Nn {c:A3}{k:Nat}{j:Int}(h:∀l∈c.links,l.sent≤k):(An c j).sent≤k:=by
 unfold An
 by_cases hj:j.toNat<c.links.length
 ·exact h _ (Aq hj)
 ·rw [show c.links.getD j.toNat default=default by simp only [List.getD,List.getElem?_eq_none (Nat.le_of_not_lt hj),Option.getD_none]]
  show (0:Int)≤k
  omega
theorem B1h {c:A3}{p:Bl}{k:Nat}(h:∀l∈c.links,l.sent≤k):∀l∈(Ag c p).1.links,l.sent≤(k+1:Nat):=by
 have same:∀l∈c.links,l.sent≤(k+1:Nat):=fun l hl=>by have:=h l hl;omega
 unfold Ag
 split
 ·unfold Cr;split<;>exact same
 split
 ·unfold Cg;split<;>exact same
 split
 ·unfold C6
  split
  ·split
   ·exact same
   split
   ·refine Xd h ?_
    have:=Nn (j:=Ae c p.a (B8 c p.a)) h
    unfold Dn
    split
    ·show (An c _).sent+1≤_
     omega
    ·show (An c _).sent≤_
     omega
   ·exact same
  ·exact same
 split
 ·unfold Cd
  split
  ·refine Xd h ?_
   have:=Nn (j:=Ae c p.a p.b) h
   unfold At
   split<;>(show (An c _).sent≤_;omega)
  ·exact same
 split
 ·unfold Br
  split
  ·refine Xd h ?_
   have:=Nn (j:=Ae c p.a p.b) h
   unfold Bn
   split<;>(show (An c _).sent≤_;omega)
  ·exact same
 split
 ·rw [O5];exact same
 split
 ·unfold D4
  split
  ·split<;>exact same
  ·exact same
 ·exact same
theorem W3 {c:A3}{e:Int}(h:Ap c)(he:0≤e∧e≤3):0≤(A4 c e).at_∧(A4 c e).at_<c.workers.length:=by
 have hTP:O7 c.graph.workers (A4 c e):=h.2.2.2.1 _ (Aq (d:=default) (show e.toNat<c.tokens.length by have:=h.1.2.2.2;omega))
 have:=h.1.2.1
 have:=hTP.1
 omega
theorem Ki {c:A3}(h:Ap c):0<c.workers.length:=by have:=h.1.2.1;have:=h.1.1.2.1;omega
theorem Et.step {k:Nat}{c:A3}{p:Bl}(h:Et k c)(hk:k<200000):Et (k+1) (Ag c p).1:=by
 have hE:∀e:Int,0≤e→e≤3→Fl e c (Ag c p).1:=fun e h0 h1=>Nz h.ok h.news.one ⟨h0,h1⟩
 refine ⟨?_,A6y h.ok h.news,fun i hi e h0 h1=>B8x (hE e h0 h1) (Ki h.ok) (fun i hi=>h.sums i hi e h0 h1) i hi,fun e h0 h1=>B8z (hE e h0 h1) h.ok (fun i hi=>h.sums i hi e h0 h1) (h.toks e h0 h1),B1h h.sent,fun e h0 h1=>?_⟩
 ·refine of_decide_eq_true (show Fp (Ag c p).1=true from ?_)
  rw [A5g h.ok]
  split
  ·split
   ·rename_i hm
    refine decide_eq_true ?_
    have hM:Hh c p.a∧0<(A6 c p.a).staged.length:=by
     unfold C6 at hm
     split at hm
     ·assumption
     ·exact Bool.noConfusion hm.1
    have:=(L5 hM.1 hM.2).1.2.1
    have:=h.sums p.a.toNat (by have:=hM.1.2;omega) (B7 c p.a).stamp.epoch this.1 this.2
    have e:A1g c p.a=Dx (wk c p.a.toNat) (B7 c p.a).stamp.epoch+1:=rfl
    rw [e]
    unfold Jy
    omega
   ·rfl
  ·split
   ·split
    ·rename_i hm
     refine decide_eq_true ?_
     have hM:Jw c p.a p.b∧(At (An c (Ae c p.a p.b))).2.2=true:=by
      unfold Cd at hm
      split at hm
      ·assumption
      ·exact Bool.noConfusion hm
     have:=(Xp hM.1 hM.2).1.2.1
     have ht:=hM.1.2.2.2
     have:=h.sums p.b.toNat (by have:=h.ok.1.2.1;omega) (I8 c p.a p.b).stamp.epoch this.1 this.2
     have e:A2e c p.a p.b=Dx (wk c p.b.toNat) (I8 c p.a p.b).stamp.epoch+ -1:=rfl
     rw [e]
     unfold Jy
     omega
    ·rfl
   ·rfl
 ·obtain ⟨s1,s2,s3⟩:=h.sf e h0 h1
  have hl:=Ki h.ok
  exact ⟨Ln.step (hE e h0 h1) hl s1,Sn.step (hE e h0 h1) hl (W3 h.ok ⟨h0,h1⟩) s1 s2,A2o.step (hE e h0 h1) hl s1 s2 s3⟩
theorem Et.picks:∀(l:List Bl) {k:Nat} (s:A3×List Bool),Et k s.1→k+l.length≤200000→Et (k+l.length) (l.foldl Cl s).1
 | [],_,_,h,_=>h
 |p::l,k,s,h,hk=>by
  simp only [List.length_cons] at hk ⊢
  have:=Et.picks l (k:=k+1) (Cl s p) (h.step Ac) Ac
  rw [show k+(l.length+1)=k+1+l.length by omega]
  exact this
theorem Et.runs {k:Nat}{c:A3}{l:List Bl}(h:Et k c)(hk:k+l.length≤200000):Et (k+l.length) (Bh c l).1:=Et.picks l (c,[]) h hk
theorem Et.more {k m:Nat}{c:A3}(h:Et k c)(hm:k≤m):Et m c:=by
 refine ⟨h.ok,h.news,fun i hi e h0 h1=>?_,fun e h0 h1=>?_,fun l hl=>?_,h.sf⟩
 ·have:=h.sums i hi e h0 h1;omega
 ·have:=h.toks e h0 h1;unfold Ue at *;omega
 ·have:=h.sent l hl;omega
theorem Et.round {k:Nat}{c:A3}(h:Et k c)(hk:k+44≤200000):Et (k+44) (Ba c).1:=by
 have h2:=H0 c
 exact (h.runs (l:=Gz (Co c)) Ac).more Ac
theorem Et.frN {k:Nat}{c:A3}(h:Et k c):∀n,k+44 * n≤200000→Et (k+44 * n) (frN c n)
 | 0,_=>h
 |n+1,hk=>(Et.frN h n Ac).round Ac
theorem A0w (n:Nat)(c:A3):∃m,m≤n∧Di n c=(frN c m,m)∧(m=n∨∃j,m=j+1∧(Ba (frN c j)).2=0):=by
 by_cases h:∀i,i<n→(Ba (frN c i)).2≠0
 ·exact ⟨n,Nat.le_refl _,Rq h,.inl rfl⟩
 ·have:∃k,k<n∧(Ba (frN c k)).2=0∧∀i,i<k→(Ba (frN c i)).2≠0:=by
   have hex:∃k,k<n∧(Ba (frN c k)).2=0:=by
    by_cases q:∃k,k<n∧(Ba (frN c k)).2=0
    ·exact q
    ·exact absurd (fun i hi hz=>q ⟨i,hi,hz⟩) h
   obtain ⟨k,hk,hz⟩:=hex
   induction k using Nat.strongRecOn with
   |_ k ih=>
    by_cases q:∃i,i<k∧(Ba (frN c i)).2=0
    ·obtain ⟨i,hi,hz'⟩:=q
     exact ih i hi Ac hz'
    ·exact ⟨k,hk,hz,fun i hi hz'=>q ⟨i,hi,hz'⟩⟩
  obtain ⟨k,hk,hz,hb⟩:=this
  exact ⟨k+1,by omega,N7 hk hb hz,.inr ⟨k,rfl,hz⟩⟩
end Go.Proofs.YtonodkjaoalfjaaGreat
