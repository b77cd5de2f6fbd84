/- Part 12 of the proof that each of the laws FnSpread returns true for every input. No conditions. -/
import Derived.Test.YtdendlkeiaccpaaGreatQ11
import Derived.Test.YtdendlkeiaccpaaGreatQ4
import Derived.Test.YtdendlkeiaccpaaGreatQ6

set_option linter.unusedSimpArgs false
set_option linter.unusedVariables false
set_option maxRecDepth 100000
namespace Go.Proofs.YtdendlkeiaccpaaGreat
open Go.Sx
def Pf (i:Int) (l:List Di):Nat:=(l.filter fun x=>x.to_==i).length
structure Ka (c:A3):Prop where
 one:B6s c
 tell:∀e,Cv (wk c 0) e=true→∀i:Nat,1≤i→i<c.workers.length→Cv (wk c i) e=true∨∃x∈c.news,x.to_=i∧x.epoch=e
 cnt:∀i:Nat,1≤i→i<c.workers.length→Pf i c.news+(wk c i).dones.length≤(wk c 0).dones.length
theorem Ka.nd {c c':A3}(h:Ka c)(hn:c'.news=c.news)(hl:c'.workers.length=c.workers.length)(hd:∀i,(wk c' i).dones=(wk c i).dones):Ka c':=by
 have hi:∀i e,Cv (wk c' i) e=Cv (wk c i) e:=fun i e=>V4 (hd i) e;refine ⟨⟨fun x hx=>?_,fun i hi' e he=>?_⟩,fun e he i h1 h2=>?_,fun i h1 h2=>?_⟩
 ·rw [hi];exact h.one.1 x (hn▸hx)
 ·rw [hi] at he ⊢;exact h.one.2 i Ad e he
 ·rw [hi] at he ⊢
  rw [hn];exact h.tell e he i h1 Ad
 rw [hn,hd,hd];exact h.cnt i h1 Ad
theorem B4y {c:A3}{w:Int}{v:Ab}(hv:v.dones=(A8 c w).dones)(i:Nat):(wk (Av c w v) i).dones=(wk c i).dones:=by
 unfold wk Av
 simp only
 rw [Ep]
 split
 ·rename_i h
  rw [hv];unfold A8;rw [←h.1]
 rfl
theorem Ka.set {c:A3}{w:Int}{v:Ab}(h:Ka c)(hv:v.dones=(A8 c w).dones):Ka (Av c w v):=h.nd rfl (by simp only [Av,List.length_set]) (B4y hv)
theorem Ka.lnk {c:A3}{k:Int}{l:Ca}(h:Ka c):Ka (Bi c k l):=h.nd rfl rfl fun _=>rfl
theorem Ka.tok {c:A3}{k:Int}{l:Fs}(h:Ka c):Ka (De c k l):=h.nd rfl rfl fun _=>rfl
theorem Zw (i:Int)(l l':List Di):Pf i (l++l')=Pf i l+Pf i l':=by unfold Pf;rw [List.filter_append,List.length_append]
theorem A3u (i e:Int)(b:Bool):∀k:Nat,Pf i (Ip e b k)=if 1≤i∧i≤k then 1 else 0
 | 0=>by
  rw [if_neg Ad];rfl
 |k+1=>by
  have ih:=A3u i e b k
  have:Ip e b (k+1)=Ip e b k++[⟨(k:Int)+1,e,b⟩]:=by unfold Ip;rw [List.range_succ,List.map_append];rfl
  rw [this,Zw,ih];unfold Pf;simp only [List.filter_cons,List.filter_nil]
  by_cases h1:((k:Int)+1==i)=true
  ·rw [if_pos h1]
   have:=eq_of_beq h1
   rw [if_neg Ad,if_pos Ad];rfl
  rw [if_neg h1]
  have:(k:Int)+1≠i:=fun q=>h1 (by rw [q];exact beq_self_eq_true i)
  by_cases h2:1≤i∧i≤k
  ·rw [if_pos h2,if_pos Ad];rfl
  rw [if_neg h2,if_neg Ad];rfl
theorem Wm (i:Int):∀(l:List Di) (k:Nat),k<l.length→Pf i (l.eraseIdx k)+(if (l.getD k default).to_=i then 1 else 0)=Pf i l
 | [],_,h=>absurd h (Nat.not_lt_zero _)
 |x::r,0,_=>by
  unfold Pf;simp only [List.eraseIdx_cons_zero,List.getD_cons_zero,List.filter_cons]
  by_cases h:x.to_=i
  ·rw [if_pos h,if_pos (by rw [h];exact beq_self_eq_true i)];rfl
  rw [if_neg h,if_neg (fun q=>h (eq_of_beq q))];rfl
 |x::r,k+1,h=>by
  have ih:=Wm i r k (by simpa using h);unfold Pf at ih ⊢;simp only [List.eraseIdx_cons_succ,List.getD_cons_succ,List.filter_cons]
  split
  ·simp only [List.length_cons];omega
  exact ih
theorem Wy {α:Type} [Inhabited α]:∀{l:List α} {k:Nat} {x:α},x∈l→x=l.getD k default∨x∈l.eraseIdx k
 |y::r,0,x,h=>by
  rcases List.mem_cons.1 h with rfl|h
  ·exact .inl rfl
  exact .inr h
 |y::r,k+1,x,h=>by
  rcases List.mem_cons.1 h with rfl|h
  ·exact .inr (List.mem_cons_self ..)
  rcases Wy (k:=k) h with h|h
  ·exact .inl h
  exact .inr (List.mem_cons_of_mem _ h)
theorem Xx {w:Ab}{d:F6}{e:Int}(h:Cv w e=true):Cv (Ef w d) e=true:=by
 unfold Cv Ef at *
 simp only
 rw [List.any_append,h,Bool.true_or]
theorem A1b (w:Ab)(e:Int)(b:Bool):Cv (Ef w ⟨e,b⟩) e=true:=by
 unfold Cv Ef;simp only [List.any_append,List.any_cons,beq_self_eq_true,Bool.true_or,Bool.or_true]
theorem Xy {w:Ab}{d:F6}{e:Int}(h:Cv (Ef w d) e=true):Cv w e=true∨d.epoch=e:=by
 unfold Cv Ef at *;simp only [List.any_append,List.any_cons,List.any_nil,Bool.or_false,Bool.or_eq_true] at h
 rcases h with h|h
 ·exact .inl h
 exact .inr (eq_of_beq h)
theorem B1j {c:A3}{e:Int}{b:Bool}{w:Ab}(h:Ka c)(hl:0<c.workers.length)(hw:w.dones=(wk c 0).dones)(hd:Cv (wk c 0) e=false):Ka (Jl (Av c 0 (Ef w ⟨e,b⟩)) (Ip e b (c.workers.length-1))):=by
 have hw':∀e',Cv w e'=Cv (wk c 0) e':=fun e'=>V4 hw e'
 have h0:wk (Jl (Av c 0 (Ef w ⟨e,b⟩)) (Ip e b (c.workers.length-1))) 0=Ef w ⟨e,b⟩:=by
  rw [H4 (c:=c) (j:=0) (w:=Ef w ⟨e,b⟩) rfl hl,if_pos rfl]
 have hi:∀i,i≠0→wk (Jl (Av c 0 (Ef w ⟨e,b⟩)) (Ip e b (c.workers.length-1))) i=wk c i:=fun i h=>by
  rw [H4 (c:=c) (j:=0) (w:=Ef w ⟨e,b⟩) rfl hl,if_neg h]
 have hlen:(Jl (Av c 0 (Ef w ⟨e,b⟩)) (Ip e b (c.workers.length-1))).workers.length=c.workers.length:=by simp only [Jl,Av,List.length_set]
 have hm:∀e',Cv (wk c 0) e'=true→Cv (Ef w ⟨e,b⟩) e'=true:=fun e' q=>Xx (by rw [hw'];exact q);refine ⟨⟨fun x hx=>?_,fun i hi' e' he=>?_⟩,fun e' he i h1 h2=>?_,fun i h1 h2=>?_⟩
 ·rw [h0]
  rcases List.mem_append.1 hx with hx|hx
  ·exact hm _ (h.one.1 x hx)
  obtain ⟨j,_,rfl⟩:=List.mem_map.1 hx;exact A1b _ _ _
 ·rw [h0]
  by_cases hz:i=0
  ·subst hz;rw [h0] at he;exact he
  rw [hi i hz] at he;exact hm _ (h.one.2 i Ad e' he)
 ·rw [hi i Ad]
  rw [hlen] at h2;rw [h0] at he
  rcases Xy he with he|he
  ·rw [hw'] at he
   rcases h.tell e' he i h1 h2 with q|⟨x,hx,q⟩
   ·exact .inl q
   exact .inr ⟨x,List.mem_append_left _ hx,q⟩
  simp only at he
  subst he;exact .inr ⟨⟨(i:Int),e,b⟩,List.mem_append_right _ (List.mem_map.2 ⟨i-1,List.mem_range.2 Ad,by simp only [Di.mk.injEq,and_true];omega⟩),rfl,rfl⟩
 rw [hi i Ad,h0];rw [hlen] at h2
 have:=h.cnt i h1 h2
 show Pf i (c.news++Ip e b (c.workers.length-1))+_≤_
 rw [Zw,A3u,if_pos Ad];simp only [Ef,List.length_append,List.length_singleton,hw];omega
theorem B5j {c:A3}{w:Int}(hn:c.news.any (Hk w)=true):Gf c w<c.news.length:=by
 obtain ⟨x,hx,hw⟩:=List.any_eq_true.1 hn
 by_cases hlt:Gf c w<c.news.length
 ·exact hlt
 have:=Ux (Hk w) c.news
 have he:Fa (Hk w) c.news=c.news.length:=by unfold Gf at hlt;omega
 have:=Pn (Hk w) c.news x (by rw [he,List.take_length];exact hx)
 rw [hw] at this;cases this
theorem B1h {c:A3}{w:Int}(h:B7 c)(hN:Ka c):Ka (Dj c w).1:=by
 unfold Dj
 split
 ·rename_i hn
  obtain ⟨m1,m2⟩:=Sa h hn.2;have hNw:=h.2.2.2.2 _ m1;have hw:0≤w∧w<c.workers.length:=by have:=h.1.2.1;have:=hNw.1;omega
  have hat:=B5j hn.2;have hd0:=hN.one.1 _ m1;have hers:∀x,x∈(Jd c w).news→x∈c.news:=fun x hx=>List.mem_of_mem_eraseIdx hx
  split
  ·rename_i hdw
   refine ⟨⟨fun x hx=>hN.one.1 x (hers x hx),hN.one.2⟩,fun e he i h1 h2=>?_,fun i h1 h2=>?_⟩
   ·rcases hN.tell e he i h1 h2 with q|⟨x,hx,q1,q2⟩
    ·exact .inl q
    rcases Wy (k:=Gf c w) hx with rfl|hx
    ·refine .inl ?_
     have:(c.news.getD (Gf c w) default).to_=w:=m2
     have hiw:w.toNat=i:=by omega
     have:Cv (wk c w.toNat) (Eg c w).epoch=true:=hdw
     rw [hiw,show (Eg c w).epoch=e from q2] at this
     exact this
    exact .inr ⟨x,hx,q1,q2⟩
   have:=hN.cnt i h1 h2
   have h3:=Wm i c.news (Gf c w) hat
   show Pf i (c.news.eraseIdx (Gf c w))+(wk c i).dones.length≤(wk c 0).dones.length
   omega
  rename_i hdw
  have hne:w.toNat≠0:=fun e0=>by
   rw [P3,e0] at hdw;exact hdw hd0
  have hj:w.toNat<c.workers.length:=by omega
  have hws:∀i,wk (Av (Jd c w) w (Ef (A8 c w) ⟨(Eg c w).epoch,(Eg c w).capped⟩)) i=if i=w.toNat then Ef (A8 c w) ⟨(Eg c w).epoch,(Eg c w).capped⟩ else wk c i:=fun i=>H4 (c:=c) rfl hj
  have hlen:(Av (Jd c w) w (Ef (A8 c w) ⟨(Eg c w).epoch,(Eg c w).capped⟩)).workers.length=c.workers.length:=by simp only [Av,Jd,List.length_set]
  refine ⟨⟨fun x hx=>?_,fun i hi' e he=>?_⟩,fun e he i h1 h2=>?_,fun i h1 h2=>?_⟩
  ·rw [hws,if_neg (Ne.symm hne)]
   exact hN.one.1 x (hers x hx)
  ·rw [hws,if_neg (Ne.symm hne)]
   rw [hws] at he;rw [hlen] at hi'
   split at he
   ·rcases Xy he with he|he
    ·exact hN.one.2 w.toNat hj e he
    simp only at he
    rw [←he];exact hd0
   exact hN.one.2 i hi' e he
  ·rw [hws,if_neg (Ne.symm hne)] at he
   rw [hlen] at h2;rw [hws]
   rcases hN.tell e he i h1 h2 with q|⟨x,hx,q1,q2⟩
   ·refine .inl ?_
    split
    ·rename_i e0
     subst e0;exact Xx q
    exact q
   rcases Wy (k:=Gf c w) hx with rfl|hx
   ·refine .inl ?_
    have:(c.news.getD (Gf c w) default).to_=w:=m2
    rw [if_pos Ad,show e=(Eg c w).epoch from q2.symm]
    exact A1b _ _ _
   exact .inr ⟨x,hx,q1,q2⟩
  rw [hlen] at h2
  have:=hN.cnt i h1 h2
  have h3:=Wm i c.news (Gf c w) hat;rw [hws,hws,if_neg (Ne.symm hne)]
  show Pf i (c.news.eraseIdx (Gf c w))+_≤_
  split
  ·rename_i e0
   have h4:(c.news.getD (Gf c w) default).to_=w:=m2;rw [if_pos (by rw [h4];omega)] at h3;simp only [Ef,List.length_append,List.length_singleton];have h5:(A8 c w).dones.length=(wk c i).dones.length:=by rw [P3,e0]
   omega
  omega
 exact hN
theorem B1i {c:A3}{p:D7}(h:B7 c)(hN:Ka c):Ka (Aq c p).1:=by
 unfold Aq
 split
 ·unfold Dk
  split
  ·exact hN.set (by unfold Fi;split<;>rfl)
  exact hN
 split
 ·unfold D9
  split
  ·exact hN.set (by unfold Df;split<;>rfl)
  exact hN
 split
 ·unfold C7
  split
  ·split
   ·exact hN.set rfl
   split
   ·exact hN.lnk.set (by unfold E5;split<;>rfl)
   exact hN
  exact hN
 split
 ·unfold Ct
  split
  ·exact hN.lnk.set (by unfold D0;split<;>rfl)
  exact hN
 split
 ·unfold D4
  split
  ·exact hN.lnk
  exact hN
 split
 ·unfold Ci
  dsimp only
  split
  ·rename_i hT
   have hTP:Lt c.graph.workers (A9 c p.a):=h.2.2.2.1 _ (At (d:=default) (show p.a.toNat<c.tokens.length by have:=h.1.2.2.2;have:=hT.2.1;omega))
   split
   ·exact hN.tok.set rfl
   split
   ·split
    ·exact hN.tok.set rfl
    exact hN
   rename_i hA
   have hA:(A9 c p.a).at_=0:=by have:=hTP.1;omega
   unfold Gw
   split
   ·have hl:0<c.workers.length:=by have:=h.1.2.1;have:=h.1.1.2.1;omega
    refine B1j (hN.tok (k:=p.a) (l:=⟨false,(A9 c p.a).at_,(A9 c p.a).sum,(A9 c p.a).black,(A9 c p.a).capped⟩)) hl ?_ hT.2.2.1;rw [hA];rfl
   exact hN.tok
  exact hN
 split
 ·exact B1h h hN
 exact hN
def A2p (k a s:Int):Prop:=(a=3→s=0)∧(a=2→ -k≤s∧s≤k)∧(a=1→ -(2 * k)≤s∧s≤2 * k)∧(a=0→ -(3 * k)≤s∧s≤3 * k)
structure M7 (k:Nat) (c:A3):Prop where
 ok:B7 c
 news:Ka c
 sums:∀i,i<c.workers.length→∀e:Int,0≤e→e≤3→ -(k:Int)≤Fc (wk c i) e∧Fc (wk c i) e≤k
 toks:∀e:Int,0≤e→e≤3→A2p k (A9 c e).at_ (A9 c e).sum
 sent:∀l∈c.links,l.sent≤k
 sf:∀e:Int,0≤e→e≤3→Qt c e∧Wf c e∧A7b c e
theorem C4h {e:Int}{k:Nat}{c c':A3}(h:Gz e c c')(hl:0<c.workers.length)(hs:∀i,i<c.workers.length→ -(k:Int)≤Fc (wk c i) e∧Fc (wk c i) e≤k):
  ∀i,i<c'.workers.length→ -((k+1:Nat):Int)≤Fc (wk c' i) e∧Fc (wk c' i) e≤(k+1:Nat):=by
 have hlen:=h.len
 have key:∀(j:Nat) (w:Ab),j<c.workers.length→c'.workers=c.workers.set j w→(Fc w e≤Fc (wk c j) e+1∧Fc (wk c j) e≤Fc w e+1)→∀i,i<c'.workers.length→ -((k+1:Nat):Int)≤Fc (wk c' i) e∧Fc (wk c' i) e≤(k+1:Nat):=by
  intro j w hj hw hb i hi;rw [H4 hw hj]
  split
  ·have:=hs j hj;omega
  have:=hs i Ad;omega
 cases h with
 |quiet j w' hj hq hw hf ht hd=>exact key j w' hj hw (by rw [hq.1];omega)
 |send j w' hj hp h1 h2 h3 hw hf ht hd=>exact key j w' hj hw Ad
 |take j w' hj h1 h2 h3 hw hf ht hd=>exact key j w' hj hw Ad
 |start hT hg w' h1 h2 h3 h4 hw hf ht hd=>exact key 0 w' hl hw Ad
 |pass hT hg j ha h0 hj w' h1 h2 h3 h4 hw hf ht hd=>exact key j w' hj hw Ad
 |fail hT hg ha hno hw hf ht hd=>
  intro i hi
  have:wk c' i=wk c i:=by unfold wk;rw [hw]
  rw [this]
  have:=hs i Ad
  omega
 |told hT hg ha hb hb0 hs0 w' hq hw hf ht hd=>exact key 0 w' hl hw (by rw [hq.1];omega)
theorem C4j {e:Int}{k:Nat}{c c':A3}(h:Gz e c c')(hC:B7 c)(hs:∀i,i<c.workers.length→ -(k:Int)≤Fc (wk c i) e∧Fc (wk c i) e≤k)(ht:A2p k (A9 c e).at_ (A9 c e).sum):
  A2p (k+1:Nat) (A9 c' e).at_ (A9 c' e).sum:=by
 have hn:c.workers.length≤4:=by have:=hC.1.2.1;have:=hC.1.1.2.1;omega
 have same:A2p (k+1:Nat) (A9 c e).at_ (A9 c e).sum:=by unfold A2p at *;omega
 cases h with
 |quiet j w' hj hq hw hf ht hd=>rw [ht];exact same
 |send j w' hj hp h1 h2 h3 hw hf ht hd=>rw [ht];exact same
 |take j w' hj h1 h2 h3 hw hf ht hd=>rw [ht];exact same
 |start hT hg w' h1 h2 h3 h4 hw hf ht hd=>
  rw [ht];have hz:A2p (k+1:Nat) ((c.workers.length:Int)-1) 0:=by unfold A2p;omega
  exact hz
 |pass hT hg j ha h0 hj w' h1 h2 h3 h4 hw hf ht' hd=>
  rw [ht']
  have:=hs j hj
  rw [ha] at ht;unfold A2p at *
  simp only
  omega
 |fail hT hg ha hno hw hf ht' hd=>rw [ht'];rw [ha] at same;exact same
 |told hT hg ha hb hb0 hs0 w' hq hw hf ht' hd=>rw [ht'];rw [ha] at same;exact same
theorem A2a {c:A3}{k:Nat}{j:Int}{l:Ca}(h:∀l∈c.links,l.sent≤k)(hl:l.sent≤(k+1:Nat)):∀x∈(Bi c j l).links,x.sent≤(k+1:Nat):=fun x hx=>by
 rcases Ie hx with hx|rfl
 ·have:=h x hx;omega
 exact hl
theorem Tw {c:A3}{k:Nat}{j:Int}(h:∀l∈c.links,l.sent≤k):(Ba c j).sent≤k:=by
 unfold Ba
 by_cases hj:j.toNat<c.links.length
 ·exact h _ (At hj)
 rw [show c.links.getD j.toNat default=default by simp only [List.getD,List.getElem?_eq_none (Nat.le_of_not_lt hj),Option.getD_none]]
 show (0:Int)≤k
 omega
theorem B54 {c:A3}{p:D7}{k:Nat}(h:∀l∈c.links,l.sent≤k):∀l∈(Aq c p).1.links,l.sent≤(k+1:Nat):=by
 have same:∀l∈c.links,l.sent≤(k+1:Nat):=fun l hl=>by have:=h l hl;omega
 unfold Aq
 split
 ·unfold Dk;split<;>exact same
 split
 ·unfold D9;split<;>exact same
 split
 ·unfold C7
  split
  ·split
   ·exact same
   split
   ·refine A2a h ?_
    have:=Tw (j:=Ao c p.a (B8 c p.a)) h
    unfold Cf
    split
    ·show (Ba c _).sent+1≤_
     omega
    show (Ba c _).sent≤_
    omega
   exact same
  exact same
 split
 ·unfold Ct
  split
  ·refine A2a h ?_
   have:=Tw (j:=Ao c p.a p.b) h
   unfold Bc
   split<;>(show (Ba c _).sent≤_;omega)
  exact same
 split
 ·unfold D4
  split
  ·refine A2a h ?_
   have:=Tw (j:=Ao c p.a p.b) h
   unfold Ce
   split<;>(show (Ba c _).sent≤_;omega)
  exact same
 split
 ·rw [Qo];exact same
 split
 ·unfold Dj
  split
  ·split<;>exact same
  exact same
 exact same
theorem C3y {c:A3}{e:Int}(h:B7 c)(he:0≤e∧e≤3):0≤(A9 c e).at_∧(A9 c e).at_<c.workers.length:=by
 have hTP:Lt c.graph.workers (A9 c e):=h.2.2.2.1 _ (At (d:=default) (show e.toNat<c.tokens.length by have:=h.1.2.2.2;omega))
 have:=h.1.2.1
 have:=hTP.1
 omega
theorem A57 {c:A3}(h:B7 c):0<c.workers.length:=by have:=h.1.2.1;have:=h.1.1.2.1;omega
theorem M7.step {k:Nat}{c:A3}{p:D7}(h:M7 k c)(hk:k<200000):M7 (k+1) (Aq c p).1:=by
 have hE:∀e:Int,0≤e→e≤3→Gz e c (Aq c p).1:=fun e h0 h1=>B2d h.ok h.news.one ⟨h0,h1⟩
 refine ⟨?_,B1i h.ok h.news,fun i hi e h0 h1=>C4h (hE e h0 h1) (A57 h.ok) (fun i hi=>h.sums i hi e h0 h1) i hi,fun e h0 h1=>C4j (hE e h0 h1) h.ok (fun i hi=>h.sums i hi e h0 h1) (h.toks e h0 h1),B54 h.sent,fun e h0 h1=>?_⟩
 ·refine of_decide_eq_true (show Bf (Aq c p).1=true from ?_)
  rw [Rz h.ok]
  split
  ·split
   ·rename_i hm
    refine decide_eq_true ?_
    have hM:Gm c p.a∧0<(A8 c p.a).staged.length:=by
     unfold C7 at hm
     split at hm
     ·assumption
     exact Bool.noConfusion hm.1
    have:=(N1 hM.1 hM.2).1.2.1
    have:=h.sums p.a.toNat (by have:=hM.1.2;omega) (B1 c p.a).stamp.epoch this.1 this.2
    have e:Yx c p.a=Fc (wk c p.a.toNat) (B1 c p.a).stamp.epoch+1:=rfl;rw [e];unfold Hf;omega
   rfl
  split
  ·split
   ·rename_i hm
    refine decide_eq_true ?_
    have hM:L0 c p.a p.b∧(Bc (Ba c (Ao c p.a p.b))).2.2=true:=by
     unfold Ct at hm
     split at hm
     ·assumption
     exact Bool.noConfusion hm
    have:=(W6 hM.1 hM.2).1.2.1
    have ht:=hM.1.2.2.2
    have:=h.sums p.b.toNat (by have:=h.ok.1.2.1;omega) (Hq c p.a p.b).stamp.epoch this.1 this.2
    have e:Z0 c p.a p.b=Fc (wk c p.b.toNat) (Hq c p.a p.b).stamp.epoch+ -1:=rfl;rw [e];unfold Hf;omega
   rfl
  rfl
 obtain ⟨s1,s2,s3⟩:=h.sf e h0 h1;have hl:=A57 h.ok;exact ⟨Qt.step (hE e h0 h1) hl s1,Wf.step (hE e h0 h1) hl (C3y h.ok ⟨h0,h1⟩) s1 s2,A7b.step (hE e h0 h1) hl s1 s2 s3⟩
theorem M7.picks:∀(l:List D7) {k:Nat} (s:A3×List Bool),M7 k s.1→k+l.length≤200000→M7 (k+l.length) (l.foldl G8 s).1
 | [],_,_,h,_=>h
 |p::l,k,s,h,hk=>by
  simp only [List.length_cons] at hk ⊢
  have:=M7.picks l (k:=k+1) (G8 s p) (h.step Ad) Ad
  rw [show k+(l.length+1)=k+1+l.length by omega]
  exact this
theorem M7.runs {k:Nat}{c:A3}{l:List D7}(h:M7 k c)(hk:k+l.length≤200000):M7 (k+l.length) (Bb c l).1:=M7.picks l (c,[]) h hk
theorem M7.more {k m:Nat}{c:A3}(h:M7 k c)(hm:k≤m):M7 m c:=by
 refine ⟨h.ok,h.news,fun i hi e h0 h1=>?_,fun e h0 h1=>?_,fun l hl=>?_,h.sf⟩
 ·have:=h.sums i hi e h0 h1;omega
 ·have:=h.toks e h0 h1;unfold A2p at *;omega
 have:=h.sent l hl;omega
theorem M7.round {k:Nat}{c:A3}(h:M7 k c)(hk:k+44≤200000):M7 (k+44) (C5 c).1:=by
 have h2:=Oi c;exact (h.runs (l:=Mh (H1 c)) Ad).more Ad
theorem M7.frN {k:Nat}{c:A3}(h:M7 k c):∀n,k+44 * n≤200000→M7 (k+44 * n) (frN c n)
 | 0,_=>h
 |n+1,hk=>(M7.frN h n Ad).round Ad
theorem Uu (n:Nat)(c:A3):∃m,m≤n∧Cy n c=(frN c m,m)∧(m=n∨∃j,m=j+1∧(C5 (frN c j)).2=0):=by
 by_cases h:∀i,i<n→(C5 (frN c i)).2≠0
 ·exact ⟨n,Nat.le_refl _,Pj h,.inl rfl⟩
 have:∃k,k<n∧(C5 (frN c k)).2=0∧∀i,i<k→(C5 (frN c i)).2≠0:=by
  have hex:∃k,k<n∧(C5 (frN c k)).2=0:=by
   by_cases q:∃k,k<n∧(C5 (frN c k)).2=0
   ·exact q
   exact absurd (fun i hi hz=>q ⟨i,hi,hz⟩) h
  obtain ⟨k,hk,hz⟩:=hex
  induction k using Nat.strongRecOn with
  |_ k ih=>
   by_cases q:∃i,i<k∧(C5 (frN c i)).2=0
   ·obtain ⟨i,hi,hz'⟩:=q
    exact ih i hi Ad hz'
   exact ⟨k,hk,hz,fun i hi hz'=>q ⟨i,hi,hz'⟩⟩
 obtain ⟨k,hk,hz,hb⟩:=this;exact ⟨k+1,by omega,Pk hk hb hz,.inr ⟨k,rfl,hz⟩⟩
theorem A9q {α:Type} [Inhabited α]:∀(l:List α) (j:Nat),l.set j (l.getD j default)=l
 | [],_=>rfl
 |x::r,0=>rfl
 |x::r,j+1=>congrArg (x:: ·) (by rw [List.getD_cons_succ];exact A9q r j)
theorem K4 (c:A3)(w:Int):Av c w (A8 c w)=c:=by
 unfold Av A8;rw [A9q]
def C52 (c:A3) (e:Int):Prop:=(∀i,i<c.workers.length→Dx (wk c i) e=true)∧G7 c e=0
def B2n (c:A3) (e a:Int):Prop:=∀i:Nat,i<c.workers.length→a<(i:Int)→Hg (wk c i) e=false
def C21 (c:A3) (e:Int):Prop:=(A9 c e).black=false∧(∀i:Nat,i<c.workers.length→(i:Int)≤(A9 c e).at_→Hg (wk c i) e=false)∧(A9 c e).sum+I3 c e ((A9 c e).at_.toNat+1)=0
instance (c:A3) (e a:Int):Decidable (B2n c e a):=by unfold B2n;infer_instance
instance (c:A3) (e:Int):Decidable (C21 c e):=by unfold C21;infer_instance
structure C6h (c c':A3) (p:D7):Prop where
 mono:∀i e,Cv (wk c i) e=true→Cv (wk c' i) e=true
 meas:∀w:Nat,1≤w→w<c.workers.length→Pf w c'.news+(4-(wk c' 0).dones.length)≤Pf w c.news+(4-(wk c 0).dones.length)
 hear:∀w:Nat,1≤w→p=⟨7,w,0⟩→0<Pf w c.news→Pf w c'.news+(4-(wk c' 0).dones.length)+1≤Pf w c.news+(4-(wk c 0).dones.length)
theorem B1e {α:Type} [Inhabited α] {l:List α}{x:α}(h:x∈l):∃i,i<l.length∧l.getD i default=x:=by
 obtain ⟨i,hi,rfl⟩:=List.getElem_of_mem h;exact ⟨i,hi,by simp only [List.getD,List.getElem?_eq_getElem hi,Option.getD_some]⟩
theorem B3q {α:Type}(f:Nat→List α)(R:α→α→Prop)(h1:∀e,(f e).Pairwise R)(h2:∀e e',e<e'→∀x∈f e,∀y∈f e',R x y):∀n,((List.range n).flatMap f).Pairwise R
 | 0=>List.Pairwise.nil
 |n+1=>by
  rw [Mk];refine List.pairwise_append.2 ⟨B3q f R h1 h2 n,h1 n,fun x hx y hy=>?_⟩;obtain ⟨e,he,hx⟩:=List.mem_flatMap.1 hx;exact h2 e n (List.mem_range.1 he) x hx y hy
theorem Se {n:Int}{l:List Aa}{w:Nat}{r:Aa}(h:r∈Rf n l w):r∈l∧Bn r.key n=w:=by
 simp only [Rf,List.mem_flatMap,List.mem_filter] at h;obtain ⟨e,_,h,hw⟩:=h;simp only [Cz,List.mem_filter] at h;exact ⟨h.1,eq_of_beq hw⟩
theorem A28 (n:Int)(l:List Aa)(w:Nat):(Rf n l w).Pairwise fun a b=>a.stamp.epoch≤b.stamp.epoch:=by
 have hm:∀(e:Nat) (r:Aa),r∈((Cz l e).filter fun r=>Bn r.key n==w)→r.stamp.epoch=e:=fun e r hr=>by
  have:=(List.mem_filter.1 hr).1
  simp only [Cz,List.mem_filter] at this;exact eq_of_beq this.2
 refine B3q _ _ (fun e=>?_) (fun e e' hlt x hx y hy=>?_) 4
 ·rw [List.pairwise_iff_getElem]
  intro i j hi hj _;have a:=hm e _ (List.getElem_mem hi);have b:=hm e _ (List.getElem_mem hj);omega
 have a:=hm e x hx;have b:=hm e' y hy;omega
theorem C1l {l:List Aa}(h1:∀r∈l,r.op=0∧r.stamp.turn=0)(h2:l.Pairwise fun a b=>a.stamp.epoch≤b.stamp.epoch):A7e l:=fun i hi=>by
 have e:∀j,(h:j<l.length)→l.getD j default=l[j]:=fun j h=>by simp [List.getD,h]
 have a:=h1 _ (List.getElem_mem hi);refine ⟨by rw [e i hi];exact a.1,by rw [e i hi];exact a.2,fun h0=>?_⟩;rw [e i hi,e (i-1) Ad];exact List.pairwise_iff_getElem.1 h2 (i-1) i Ad hi Ad
theorem A97:∀(l:List Int),(∀x∈l,x=0)→l.sum=0
 | [],_=>rfl
 |x::l,h=>by
  rw [List.sum_cons,h x (List.mem_cons_self ..),A97 l (fun y hy=>h y (List.mem_cons_of_mem _ hy))];rfl
theorem B3d:∀{l:List Nat} {x:Nat},x∈l→x≤l.sum
 |y::l,x,h=>by
  rw [List.sum_cons]
  rcases List.mem_cons.1 h with rfl|h
  ·omega
  have:=B3d h
  omega
theorem A4s:∀(l:List Nat),(∀x∈l,x=0)→l.sum=0
 | [],_=>rfl
 |x::l,h=>by
  rw [List.sum_cons,h x (List.mem_cons_self ..),A4s l (fun y hy=>h y (List.mem_cons_of_mem _ hy))]
theorem Vb {g:Ah}{l:List Aa}(hN:L3 g l)(i:Nat)(hi:i<(Aj g l).1.workers.length):wk (Aj g l).1 i=⟨[],[],Rf g.workers l i,[],List.replicate 4 0,List.replicate 4 false,List.replicate 4 false,[]⟩:=by
 unfold Aj at *;rw [if_pos hN] at *;unfold wk Du at *;simp only [List.length_map,List.length_range] at hi;simp only [List.getD,List.getElem?_map,List.getElem?_range hi,Option.map_some,Option.getD_some]
theorem A1k {g:Ah}{l:List Aa}(hN:L3 g l):((Aj g l).1.workers.length:Int)=g.workers:=by
 have:=hN.1.2.1
 unfold Aj Du;rw [if_pos hN];simp only [List.length_map,List.length_range];omega
theorem Va {g:Ah}{l:List Aa}(hN:L3 g l):∀x∈(Aj g l).1.links,x=F2 g.cap:=by
 unfold Aj;rw [if_pos hN];exact fun x hx=>List.eq_of_mem_replicate hx
theorem A8x {g:Ah}{l:List Aa}(hN:L3 g l):∀x∈(Aj g l).1.tokens,x=default:=by
 unfold Aj;rw [if_pos hN];exact fun x hx=>List.eq_of_mem_replicate hx
theorem C1y {g:Ah}{l:List Aa}(hN:L3 g l):B7 (Aj g l).1:=by
 have hlen:=A1k hN;have hwk:=Vb hN;have hlk:=Va hN;have htk:=A8x hN;have hg:(Aj g l).1.graph=g:=by unfold Aj;rw [if_pos hN]
 have hw:=hN.1.2.1;have hc:=hN.1.2.2.1;refine ⟨⟨by rw [hg];exact hN.1,by rw [hg];exact hlen,?_,?_⟩,fun w hw'=>?_,fun i hi=>?_,fun t ht=>?_,fun x hx=>?_⟩
 ·rw [hg]
  unfold Aj;rw [if_pos hN];simp only [List.length_replicate];obtain ⟨n,hn⟩:∃n:Nat,g.workers=n:=⟨g.workers.toNat,by omega⟩;rw [hn];simp only [Int.toNat_natCast];exact Int.natCast_mul n n
 ·unfold Aj
  rw [if_pos hN];rfl
 ·obtain ⟨i,hi,rfl⟩:=B1e hw'
  have:(Aj g l).1.workers.getD i default=wk (Aj g l).1 i:=rfl
  rw [this,hwk i hi,hg];refine ⟨⟨fun r hr=>(by cases hr),fun r hr=>(by cases hr),fun r hr=>?_,fun i hi=>absurd hi (Nat.not_lt_zero i)⟩,⟨rfl,rfl,rfl⟩,?_,fun n hn=>?_,fun i hi=>absurd hi (Nat.not_lt_zero i)⟩
  ·have:=hN.2.2 r (Se hr).1
   have:=hN.1.1
   exact ⟨‹_∧_∧_›.1,by omega⟩
  ·exact C1l (fun r hr=>(hN.2.2 r (Se hr).1).2) (A28 _ _ _)
  rw [List.eq_of_mem_replicate hn];unfold Hf;omega
 ·have:=hlk _ (At (d:=default) hi)
  unfold M5;rw [this];have hb:Cx g.cap 1 4=g.cap:=by unfold Cx;rw [if_neg Ad,if_neg Ad]
  refine ⟨⟨?_,fun r hr=>(by cases hr)⟩,by unfold Z6;exact ⟨by unfold F2;rw [hb,hg],fun r hr=>(by cases hr),fun _=>rfl⟩⟩
  unfold Xl F2;rw [hb];simp only [List.length_nil];omega
 ·rw [htk t ht,hg]
  have:Lt g.workers default↔(0≤(0:Int)∧(0:Int)≤g.workers-1)∧(false=false→(0:Int)=0)∧(-1000000≤(0:Int)∧(0:Int)≤1000000):=Iff.rfl
  exact this.2 ⟨by omega,fun _=>rfl,by omega⟩
 unfold Aj at hx;rw [if_pos hN] at hx
 cases hx
theorem A8w {g:Ah}{l:List Aa}(hN:L3 g l):M7 0 (Aj g l).1:=by
 have hlen:=A1k hN;have hwk:=Vb hN;have hlk:=Va hN;have htk:=A8x hN;have hok:=C1y hN;have hnews:(Aj g l).1.news=[]:=by unfold Aj;rw [if_pos hN]
 have htok:∀e:Int,0≤e→e≤3→A9 (Aj g l).1 e=default:=fun e h0 h1=>htk _ (At (d:=default) (by have:=hok.1.2.2.2;omega))
 have hsum:∀i,i<(Aj g l).1.workers.length→∀e:Int,0≤e→e≤3→Fc (wk (Aj g l).1 i) e=0:=fun i hi e h0 h1=>by
  rw [hwk i hi]
  have:e=0∨e=1∨e=2∨e=3:=by omega
  rcases this with rfl|rfl|rfl|rfl<;>rfl
 have hdn:∀i,i<(Aj g l).1.workers.length→(wk (Aj g l).1 i).dones=[]:=fun i hi=>by rw [hwk i hi]
 have hnd:∀i,i<(Aj g l).1.workers.length→∀e,Cv (wk (Aj g l).1 i) e=false:=fun i hi e=>by unfold Cv;rw [hdn i hi];rfl
 have hl:=A57 hok;refine ⟨hok,⟨⟨fun x hx=>?_,fun i hi e he=>?_⟩,fun e he=>?_,fun i h1 h2=>?_⟩,fun i hi e h0 h1=>?_,fun e h0 h1=>?_,fun x hx=>?_,fun e h0 h1=>⟨?_,fun hg=>?_,fun hd=>?_⟩⟩
 ·rw [hnews] at hx;cases hx
 ·rw [hnd i hi] at he;cases he
 ·rw [hnd 0 hl] at he;cases he
 ·rw [hnews,hdn i h2];exact Nat.zero_le _
 ·rw [hsum i hi e h0 h1];omega
 ·rw [htok e h0 h1]
  show A2p 0 0 0
  unfold A2p;omega
 ·rw [hlk x hx]
  show (0:Int)≤(0:Nat)
  omega
 ·unfold Qt I3 G7
  rw [List.take_length,A97,A4s]
  ·rfl
  ·intro x hx
   obtain ⟨y,hy,rfl⟩:=List.mem_map.1 hx;rw [hlk y hy];rfl
  intro x hx;obtain ⟨y,hy,rfl⟩:=List.mem_map.1 hx;obtain ⟨i,hi,rfl⟩:=B1e hy;exact hsum i hi e h0 h1
 ·rw [htok e h0 h1] at hg;cases hg
 rw [Ph,hnd 0 hl] at hd;cases hd
structure Ey where
 a:Option Addr
 n:Nat
 c:Nat
 b:Nat→Nat
 hb:∀i,b i≤255
 hn:n≤16777216
abbrev Ey.v (d:Ey):Value:= .slice d.a d.n d.c
abbrev Ey.cell (d:Ey):Ai:= .sl d.n 1 fun i=>[.val (.int .u8 (d.b i))]
abbrev Ey.pins (d:Ey):List (Ai×Value):=[(d.cell,d.v)]
abbrev Ey.cur (d:Ey) (i h:Int):List Ai:=[.val d.v,vi i,vi h]
abbrev HT:World→Prop:=fun _=>True
theorem Uo (d:Ey)(i h:Int)(hi:0≤i∧i≤d.n):E3 Tryz.prog HT 79 d.pins (d.cur i h) [] (fun r:Int×Int×Int=>(0≤r.1∧r.1≤d.n)∧0≤r.2.2∧r.2.2≤255) (fun r=>d.cur r.1 r.2.1) (fun r=>[.one (vi r.2.2)]):=by
 have hn:=d.hn;refine Em A0 true Tryz.func79 rfl B5 fun B b hH hp=>?_;conv=>whnf
 first|(refine Ax 2 rfl [0,1,2,3,4,5,6,7,8,9,10,11,12] A6 (go A0 true ?_);conv=>whnf)|(refine Ax 3 rfl [0,1,2,3,4,5,6,7,8,9] A6 (go A0 true ?_);conv=>whnf)|(refine Ax 4 rfl [0,1,2,3,4,5,6,7,8,9,10,11,12,13,14] A6 (go A0 true ?_);conv=>whnf)
 refine C5m rfl rfl rfl rfl B5 (fun r=>go A0 true ?_);conv=>whnf
 refine C5m rfl rfl rfl rfl B5 (fun r2=>go A0 true ?_);conv=>whnf
 refine C6f rfl rfl rfl rfl (fun r3=>go A0 true ?_);conv=>whnf
 refine C3f rfl rfl rfl rfl B5 B5 (fun x0 h0 h1=>go A0 true ?_);conv=>whnf
 first|(refine Ax 2 rfl [0,1,2,3,4,5,6,7,8,9,10,11,12] A6 (go A0 true ?_);conv=>whnf)|(refine Ax 3 rfl [0,1,2,3,4,5,6,7,8,9] A6 (go A0 true ?_);conv=>whnf)|(refine Ax 4 rfl [0,1,2,3,4,5,6,7,8,9,10,11,12,13,14] A6 (go A0 true ?_);conv=>whnf)
 refine Eo (fun hlt=>?_) fun hlt=>?_<;>conv=>whnf
 ·first|(refine Ax 2 rfl [0,1,2,3,4,5,6,7,8,9,10,11,12] A6 (go A0 true ?_);conv=>whnf)|(refine Ax 3 rfl [0,1,2,3,4,5,6,7,8,9] A6 (go A0 true ?_);conv=>whnf)|(refine Ax 4 rfl [0,1,2,3,4,5,6,7,8,9,10,11,12,13,14] A6 (go A0 true ?_);conv=>whnf)
  refine C44 A0 hp 0 rfl rfl rfl rfl rfl rfl rfl rfl rfl (⟨hi.1,hlt⟩) (go A0 true ?_);conv=>whnf
  refine C3f rfl rfl rfl rfl B5 B5 (fun x1 g0 g1=>go A0 true ?_);conv=>whnf
  exact C3 A0 (i+1,_,x1) ⟨⟨by omega,by show i+1≤_;omega⟩,g0,g1⟩ rfl rfl rfl rfl ⟨⟨A1n _ _,by show Ai.val _=_;rw [show IntKind.i64.wrap (i+1)=i+1 by rw [IntKind.wrap_i64];omega],rfl,trivial⟩,rfl,trivial⟩
 exact C3 A0 (i,_,x0) ⟨hi,h0,h1⟩ rfl rfl rfl rfl B0
theorem C2z {i:Int}(h: -9223372036854775808≤i∧i≤9223372036854775807):IntKind.i64.wrap i=i:=by rw [IntKind.wrap_i64];omega
theorem Wq (d:Ey):A42 Tryz.prog 46 d.pins [.one (.val d.v)] (fun _:Int=>True) (fun h=>d.cur 0 h):=by
 have hn:=d.hn;refine B7x A0 true Tryz.func46 rfl B5 fun W hp=>?_;conv=>whnf
 refine Bk A0 true [] (fun j:Nat×Int=>[(3,.c (vi j.2)),(4,.c (vi j.1))]) (fun j=>[]) (fun j=>[]) (fun j=>(j.1:Int)≤d.n) (fun j=>d.n-j.1) ((0,_)) (Int.natCast_nonneg _) ⟨F0,F0,trivial⟩ trivial trivial C1 A6 (fun j hj=>?_);conv=>whnf
 refine Eo (fun h=>?_) fun h=>?_<;>conv=>whnf
 ·refine B3a (by first|with_reducible rfl|assumption|(simp only [decide_eq_true_eq];omega)|simp) ?_
  conv=>whnf
  refine B3a (by first|with_reducible rfl|assumption|(simp only [decide_eq_true_eq];omega)|simp) ?_;conv=>whnf
  refine Eo (fun h2=>?_) fun h2=>?_<;>conv=>whnf
  ·refine C44 A0 hp 0 rfl rfl rfl rfl rfl rfl rfl rfl rfl (⟨by omega,h⟩) (go A0 true ?_)
   conv=>whnf
   refine C3f rfl rfl rfl rfl B5 B5 (fun r r0 r1=>go A0 true ?_);conv=>whnf
   refine Az [] ((j.1+1,r)) ((by show ((j.1+1:Nat):Int)≤_;omega)) (by show d.n-(j.1+1)<_;omega) ⟨rfl,(by show AV.c (vi _)=AV.c (vi _);rw [C2z Ad];rfl),trivial⟩ trivial trivial A6 C1 A6
  exact C4a A0 j.2 trivial rfl rfl rfl B0
 repeat' (first|(refine L4 ?_;conv=>whnf)|(refine L5 ?_;conv=>whnf)|(refine ⟨fun h=>?_,fun h=>?_⟩<;>conv=>whnf)|(refine Gi ?_;conv=>whnf)|fail)
 exact C4a A0 j.2 trivial rfl rfl rfl B0
theorem Au (d:Ey)(i h n:Int)(hi:0≤i∧i≤d.n)(hn:n≤1099511627776):E3 Tryz.prog HT 49 d.pins (d.cur i h) [.one (vi n)] (fun r:Int×Int×Int=>(0≤r.1∧r.1≤d.n)∧0≤r.2.2∧(n≤0→r.2.2=0)∧(0<n→r.2.2<n)) (fun r=>d.cur r.1 r.2.1) (fun r=>[.one (vi r.2.2)]):=by
 have hdn:=d.hn;refine Em A0 false Tryz.func49 rfl B5 fun B b hH hp=>?_;conv=>whnf
 refine Eo (fun h0=>?_) fun h0=>?_<;>conv=>whnf
 ·exact C3 A0 (i,h,0) ⟨hi,Int.le_refl _,fun _=>rfl,fun h=>by omega⟩ rfl rfl rfl rfl B0
 refine Eo (fun h1=>?_) fun h1=>?_<;>conv=>whnf
 ·refine Ay (Uo d i h hi) hH hp rfl B0 rfl rfl (fun r hr=>go A0 false ?_)
  conv=>whnf
  (repeat refine Ap ?_);exact C3 A0 (r.1,r.2.1,r.2.2.tmod n) ⟨hr.1,Int.tmod_nonneg _ hr.2.1,fun h=>by omega,fun h=>Int.tmod_lt_of_pos _ h⟩ rfl rfl rfl rfl B0
 refine Ay (Uo d i h hi) hH hp rfl B0 rfl rfl (fun r hr=>go A0 false ?_);conv=>whnf
 refine Ay (Uo d r.1 r.2.1 hr.1) hH hp rfl B0 rfl rfl (fun r2 hr2=>go A0 false ?_);conv=>whnf
 refine Ay (Uo d r2.1 r2.2.1 hr2.1) hH hp rfl B0 rfl rfl (fun r3 hr3=>go A0 false ?_);conv=>whnf
 refine Ay (Uo d r3.1 r3.2.1 hr3.1) hH hp rfl B0 rfl rfl (fun r4 hr4=>go A0 false ?_);conv=>whnf
 (repeat refine Ap ?_);exact C3 A0 (r4.1,r4.2.1,(r.2.2 * 16777216+r2.2.2 * 65536+r3.2.2 * 256+r4.2.2).tmod n) ⟨hr4.1,Int.tmod_nonneg _ Ad,fun h=>by omega,fun h=>Int.tmod_lt_of_pos _ h⟩ rfl rfl rfl rfl B0
theorem Up (d:Ey)(i h n:Int)(hi:0≤i∧i≤d.n)(hn:n≤1099511627776):E3 Tryz.prog HT 78 d.pins (d.cur i h) [.one (vi n)] (fun r:Int×Int×Bool=>0≤r.1∧r.1≤d.n) (fun r=>d.cur r.1 r.2.1) (fun r=>[.one (vb r.2.2)]):=by
 refine Em A0 false Tryz.func78 rfl B5 fun B b hH hp=>?_;conv=>whnf
 refine Ay (Au d i h n hi hn) hH hp rfl B0 rfl rfl (fun r hr=>go A0 false ?_);conv=>whnf
 exact C3 A0 (r.1,r.2.1,_) hr.1 rfl rfl rfl rfl B0
theorem Dt (d:Ey)(i h:Int)(xs:List Int)(hi:0≤i∧i≤d.n)(hx:0<xs.length∧xs.length≤16777216):E3 Tryz.prog HT 50 d.pins (d.cur i h) [.one (Bh xs)] (fun r:Int×Int×Nat=>(0≤r.1∧r.1≤d.n)∧r.2.2<xs.length) (fun r=>d.cur r.1 r.2.1) (fun r=>[.one (vi (xs.getD r.2.2 0))]):=by
 refine Em A0 false Tryz.func50 rfl B5 fun B b hH hp=>?_;conv=>whnf
 refine Ay (Au d i h xs.length hi Ad) hH hp rfl B0 rfl rfl (fun r hr=>go A0 false ?_);conv=>whnf
 (repeat refine Ap ?_);exact C3 A0 (r.1,r.2.1,r.2.2.toNat) ⟨hr.1,by have:=hr.2.2.2 Ad;show r.2.2.toNat<_;omega⟩ rfl rfl rfl rfl B0
def Wg (x:Bw):Prop:=(-9≤x.kind∧x.kind≤1000)∧(-9≤x.a∧x.a≤1000)∧(-9≤x.b∧x.b≤1000)∧x.outs.length≤10∧∀n∈x.outs,-9≤n∧n≤1000
def A4y (xs:List Bw):Prop:=∀x∈xs,Wg x
theorem Jj {k a b:Int}{l:List Int}(hk: -9≤k∧k≤1000)(ha: -9≤a∧a≤1000)(hb: -9≤b∧b≤1000)(hl:l.length≤10)(h:∀n∈l,-9≤n∧n≤1000):Wg ⟨k,a,b,l⟩:=⟨hk,ha,hb,hl,h⟩
theorem Ja:A4y []:=fun _ h=>(List.not_mem_nil h).elim
theorem Ia {x:Bw}{xs:List Bw}(h:Wg x)(hs:A4y xs):A4y (x::xs):=fun y hy=>by
 rcases List.mem_cons.1 hy with rfl|hy
 ·exact h
 exact hs y hy
theorem Ib {x:Bw}{xs:List Bw}(hs:A4y xs)(h:Wg x):A4y (xs++[x]):=fun y hy=>by
 rcases List.mem_append.1 hy with hy|hy
 ·exact hs y hy
 rw [List.mem_singleton.1 hy];exact h
theorem Jb {x:Bw}{xs:List Bw}{j:Nat}(hs:A4y xs)(h:Wg x):A4y (xs.set j x):=fun y hy=>by
 rcases List.mem_or_eq_of_mem_set hy with hy|rfl
 ·exact hs y hy
 exact h
def Zo (G a b:Int):List Bw:=[⟨1,0,0,[1]⟩,⟨G,0,0,[2,5]⟩,⟨4,a,0,[3]⟩,⟨2,b,0,[4]⟩,⟨7,0,0,[1]⟩,⟨8,0,0,[]⟩]
def Z9 (l:List Bw):Prop:=∃G a b k:Int,(G=6∨G=5)∧(1≤a∧a≤3)∧(0≤b∧b≤3)∧(1≤k∧k≤3)∧
 (l=(Zo G a b).set 3 ⟨3,k,0,[4]⟩∨l=[⟨1,0,0,[1]⟩,⟨G,0,0,[2,5]⟩,⟨4,a,0,[3]⟩,⟨2,b,0,[4]⟩,⟨8,0,0,[]⟩,⟨8,0,0,[]⟩]∨l=(Zo G a b).set 2 ⟨4,a,0,[3,4]⟩∨l=(Zo G a b++[(⟨8,0,0,[]⟩:Bw)]).set 0 ⟨1,0,0,[1,6]⟩∨l=Zo G a b)
def Wc (g:Ah):Prop:=(1≤g.workers∧g.workers≤3)∧(1≤g.cap∧g.cap≤3)∧Z9 g.nodes
def Z5 (g:Ah):Prop:=g.w≤64∧A4y g.nodes∧(1≤g.nodes.length∧g.nodes.length≤7)∧(0≤g.workers∧g.workers≤100)∧(0≤g.cap∧g.cap≤100)
set_option maxHeartbeats 1600000 in
theorem Wo (d:Ey)(i h:Int)(hi:0≤i∧i≤d.n):E3 Tryz.prog HT 47 d.pins (d.cur i h) [] (fun r:Int×Int×Ah=>(0≤r.1∧r.1≤d.n)∧Z5 r.2.2∧Wc r.2.2) (fun r=>d.cur r.1 r.2.1) (fun r=>[.agg r.2.2.c]):=by
 refine Em A0 false Tryz.func47 rfl B5 fun B b hH hp=>?_;conv=>whnf
 refine Ay (Au d i h 3 hi B5) hH hp rfl B0 rfl rfl (fun r hr=>go A0 false ?_);conv=>whnf
 (repeat refine Ap ?_);refine Ay (Au d r.1 r.2.1 3 hr.1 B5) hH hp rfl B0 rfl rfl (fun r2 hr2=>go A0 false ?_);conv=>whnf
 (repeat refine Ap ?_);refine Fx 3 (Bh [2,5]) rfl (Bu rfl C2) ?_;refine Ay (Up d r2.1 r2.2.1 3 hr2.1 B5) hH hp rfl B0 rfl rfl (fun r3 hr3=>go A0 false ?_);conv=>whnf
 refine ⟨fun cg=>?_,fun cg=>?_⟩<;>conv=>whnf
 ·refine Ay (Au d r3.1 r3.2.1 3 hr3 B5) hH hp rfl B0 rfl rfl (fun r4 hr4=>go A0 false ?_)
  conv=>whnf
  (repeat refine Ap ?_);refine Fx 5 (Bh [3]) rfl (Bu rfl C2) ?_;refine Ay (Au d r4.1 r4.2.1 4 hr4.1 B5) hH hp rfl B0 rfl rfl (fun r5 hr5=>go A0 false ?_);conv=>whnf
  refine Fx 7 (Bh [4]) rfl (Bu rfl C2) ?_;refine Ay (Au d r5.1 r5.2.1 3 hr5.1 B5) hH hp rfl B0 rfl rfl (fun r6 hr6=>goF 28 A0 false ?_);conv=>whnf
  refine ⟨by show _∧_;omega,?_⟩
  conv=>whnf
  refine Es 9 (Bh [4]) rfl (Bu rfl C2) ?_;refine Es 11 (Bh [1]) rfl (Bu rfl C2) ?_;refine Es 14 (Bh [1]) rfl (Bu rfl C2) ?_
  refine Kg A0 rfl rfl rfl rfl rfl rfl (l:=[.c (vi 1),.c (vi 0),.c (vi 0),.own 14,.c (vi 6),.c (vi 0),.c (vi 0),.own 3,.c (vi 4),.c (vi (1+r4.2.2)),.c (vi 0),.own 5,.c (vi 2),.c (vi r5.2.2),.c (vi 0),.own 7,.c (vi 7),.c (vi 0),.c (vi 0),.own 11,.c (vi 8),.c (vi 0),.c (vi 0),.c (.val (.slice none 0 0))]) A6
   (cs:=[vi 1,vi 0,vi 0,Bh [1],vi 6,vi 0,vi 0,Bh [2,5],vi 4,vi (1+r4.2.2),vi 0,Bh [3],vi 2,vi r5.2.2,vi 0,Bh [4],vi 7,vi 0,vi 0,Bh [1],vi 8,vi 0,vi 0,.val (.slice none 0 0)]) (ks:=[14,3,5,7,11]) A6 A6 (G3 ?_)
  conv=>whnf
  refine Fx 15 (Bg [⟨1,0,0,[1]⟩,⟨6,0,0,[2,5]⟩,⟨4,1+r4.2.2,0,[3]⟩,⟨2,r5.2.2,0,[4]⟩,⟨7,0,0,[1]⟩,⟨8,0,0,[]⟩]) rfl (Hx rfl A44) ?_;refine Ay (Au d r6.1 r6.2.1 6 hr6.1 B5) hH hp rfl B0 rfl rfl (fun r7 hr7=>go A0 false ?_);conv=>whnf
  have q1:=hr.2.2.2 B5;have p1:=hr.2.1;have q2:=hr2.2.2.2 B5;have p2:=hr2.2.1;have q4:=hr4.2.2.2 B5;have p4:=hr4.2.1;have q5:=hr5.2.2.2 B5;have p5:=hr5.2.1;have q6:=hr6.2.2.2 B5;have p6:=hr6.2.1;refine ⟨fun c0=>?_,fun c0=>?_⟩<;>conv=>whnf
  ·refine ⟨by simp,?_⟩
   conv=>whnf
   refine Bv (j:=3) A0 rfl rfl rfl rfl rfl rfl rfl rfl _ (Ck (j:=3) (xs:=[⟨1,0,0,[1]⟩,⟨6,0,0,[2,5]⟩,⟨4,1+r4.2.2,0,[3]⟩,⟨2,r5.2.2,0,[4]⟩,⟨7,0,0,[1]⟩,⟨8,0,0,[]⟩]) (e:=Bw.c) (x:=⟨3,1+r6.2.2,0,[4]⟩) C8 rfl) (A7 ?_);exact C3 A0 (r7.1,r7.2.1,⟨List.set [⟨1,0,0,[1]⟩,⟨6,0,0,[2,5]⟩,⟨4,1+r4.2.2,0,[3]⟩,⟨2,r5.2.2,0,[4]⟩,⟨7,0,0,[1]⟩,⟨8,0,0,[]⟩] 3 ⟨3,1+r6.2.2,0,[4]⟩,1+r.2.2,1+r2.2.2⟩) ⟨hr7.1,⟨Nat.le_of_ble_eq_true rfl,(by repeat' (first|exact Ja|refine Ib ?_ ?_|refine Jb ?_ ?_|refine Ia ?_ ?_|refine Jj ?_ ?_ ?_ ?_ ?_|decide|omega)),⟨Nat.le_of_ble_eq_true rfl,Nat.le_of_ble_eq_true rfl⟩,⟨by show 0≤1+r.2.2;omega,by show 1+r.2.2≤100;omega⟩,⟨by show 0≤1+r2.2.2;omega,by show 1+r2.2.2≤100;omega⟩⟩,⟨by show 1≤1+r.2.2;omega,by show 1+r.2.2≤3;omega⟩,⟨by show 1≤1+r2.2.2;omega,by show 1+r2.2.2≤3;omega⟩,6,1+r4.2.2,r5.2.2,1+r6.2.2,by decide,by omega,by omega,by omega,.inl rfl⟩ rfl rfl rfl rfl A2w
  refine ⟨fun c1=>?_,fun c1=>?_⟩<;>conv=>whnf
  ·refine ⟨by simp,?_⟩
   conv=>whnf
   refine Bv (j:=4) A0 rfl rfl rfl rfl rfl rfl rfl rfl _ (A4w (j:=4) rfl) (A7 ?_);refine Jc 15 (Bg [⟨1,0,0,[1]⟩,⟨6,0,0,[2,5]⟩,⟨4,1+r4.2.2,0,[3]⟩,⟨2,r5.2.2,0,[4]⟩,⟨8,0,0,[]⟩,⟨8,0,0,[]⟩]) rfl (Hx rfl A44) ?_;exact C3 A0 (r7.1,r7.2.1,⟨[⟨1,0,0,[1]⟩,⟨6,0,0,[2,5]⟩,⟨4,1+r4.2.2,0,[3]⟩,⟨2,r5.2.2,0,[4]⟩,⟨8,0,0,[]⟩,⟨8,0,0,[]⟩],1+r.2.2,1+r2.2.2⟩) ⟨hr7.1,⟨Nat.le_of_ble_eq_true rfl,(by repeat' (first|exact Ja|refine Ib ?_ ?_|refine Jb ?_ ?_|refine Ia ?_ ?_|refine Jj ?_ ?_ ?_ ?_ ?_|decide|omega)),⟨Nat.le_of_ble_eq_true rfl,Nat.le_of_ble_eq_true rfl⟩,⟨by show 0≤1+r.2.2;omega,by show 1+r.2.2≤100;omega⟩,⟨by show 0≤1+r2.2.2;omega,by show 1+r2.2.2≤100;omega⟩⟩,⟨by show 1≤1+r.2.2;omega,by show 1+r.2.2≤3;omega⟩,⟨by show 1≤1+r2.2.2;omega,by show 1+r2.2.2≤3;omega⟩,6,1+r4.2.2,r5.2.2,1+r6.2.2,by decide,by omega,by omega,by omega,.inr (.inl rfl)⟩ rfl rfl rfl rfl A2w
  refine ⟨fun c2=>?_,fun c2=>?_⟩<;>conv=>whnf
  ·refine ⟨by simp,?_⟩
   conv=>whnf
   refine Es 16 (Bh [3,4]) rfl (Bu rfl C2) ?_;refine Bv (j:=2) A0 rfl rfl rfl rfl rfl rfl rfl rfl _ (Ck (j:=2) (xs:=[⟨1,0,0,[1]⟩,⟨6,0,0,[2,5]⟩,⟨4,1+r4.2.2,0,[3]⟩,⟨2,r5.2.2,0,[4]⟩,⟨7,0,0,[1]⟩,⟨8,0,0,[]⟩]) (e:=Bw.c) (x:=⟨4,1+r4.2.2,0,[3,4]⟩) C8 rfl) (A7 ?_);exact C3 A0 (r7.1,r7.2.1,⟨List.set [⟨1,0,0,[1]⟩,⟨6,0,0,[2,5]⟩,⟨4,1+r4.2.2,0,[3]⟩,⟨2,r5.2.2,0,[4]⟩,⟨7,0,0,[1]⟩,⟨8,0,0,[]⟩] 2 ⟨4,1+r4.2.2,0,[3,4]⟩,1+r.2.2,1+r2.2.2⟩) ⟨hr7.1,⟨Nat.le_of_ble_eq_true rfl,(by repeat' (first|exact Ja|refine Ib ?_ ?_|refine Jb ?_ ?_|refine Ia ?_ ?_|refine Jj ?_ ?_ ?_ ?_ ?_|decide|omega)),⟨Nat.le_of_ble_eq_true rfl,Nat.le_of_ble_eq_true rfl⟩,⟨by show 0≤1+r.2.2;omega,by show 1+r.2.2≤100;omega⟩,⟨by show 0≤1+r2.2.2;omega,by show 1+r2.2.2≤100;omega⟩⟩,⟨by show 1≤1+r.2.2;omega,by show 1+r.2.2≤3;omega⟩,⟨by show 1≤1+r2.2.2;omega,by show 1+r2.2.2≤3;omega⟩,6,1+r4.2.2,r5.2.2,1+r6.2.2,by decide,by omega,by omega,by omega,.inr (.inr (.inl rfl))⟩ rfl rfl rfl rfl A2w
  refine ⟨fun c3=>?_,fun c3=>?_⟩<;>conv=>whnf
  ·refine Es 16 (Bg [⟨8,0,0,[]⟩]) rfl (Hx rfl A44) ?_
   refine Bj A0 rfl rfl rfl rfl rfl rfl rfl rfl rfl rfl rfl (Bg ([⟨1,0,0,[1]⟩,⟨6,0,0,[2,5]⟩,⟨4,1+r4.2.2,0,[3]⟩,⟨2,r5.2.2,0,[4]⟩,⟨7,0,0,[1]⟩,⟨8,0,0,[]⟩]++[⟨8,0,0,[]⟩])) (An (xs:=[⟨1,0,0,[1]⟩,⟨6,0,0,[2,5]⟩,⟨4,1+r4.2.2,0,[3]⟩,⟨2,r5.2.2,0,[4]⟩,⟨7,0,0,[1]⟩,⟨8,0,0,[]⟩]) (x:=⟨8,0,0,[]⟩) (e:=Bw.c) rfl) C6 C8 (A7 ?_);refine ⟨by simp,?_⟩;conv=>whnf
   refine Es 18 (Bh [1,6]) rfl (Bu rfl C2) ?_;refine Bv (j:=0) A0 rfl rfl rfl rfl rfl rfl rfl rfl _ (Ck (j:=0) (xs:=[⟨1,0,0,[1]⟩,⟨6,0,0,[2,5]⟩,⟨4,1+r4.2.2,0,[3]⟩,⟨2,r5.2.2,0,[4]⟩,⟨7,0,0,[1]⟩,⟨8,0,0,[]⟩]++[⟨8,0,0,[]⟩]) (e:=Bw.c) (x:=⟨1,0,0,[1,6]⟩) C8 rfl) (A7 ?_);exact C3 A0 (r7.1,r7.2.1,⟨List.set ([⟨1,0,0,[1]⟩,⟨6,0,0,[2,5]⟩,⟨4,1+r4.2.2,0,[3]⟩,⟨2,r5.2.2,0,[4]⟩,⟨7,0,0,[1]⟩,⟨8,0,0,[]⟩]++[⟨8,0,0,[]⟩]) 0 ⟨1,0,0,[1,6]⟩,1+r.2.2,1+r2.2.2⟩) ⟨hr7.1,⟨Nat.le_of_ble_eq_true rfl,(by repeat' (first|exact Ja|refine Ib ?_ ?_|refine Jb ?_ ?_|refine Ia ?_ ?_|refine Jj ?_ ?_ ?_ ?_ ?_|decide|omega)),⟨Nat.le_of_ble_eq_true rfl,Nat.le_of_ble_eq_true rfl⟩,⟨by show 0≤1+r.2.2;omega,by show 1+r.2.2≤100;omega⟩,⟨by show 0≤1+r2.2.2;omega,by show 1+r2.2.2≤100;omega⟩⟩,⟨by show 1≤1+r.2.2;omega,by show 1+r.2.2≤3;omega⟩,⟨by show 1≤1+r2.2.2;omega,by show 1+r2.2.2≤3;omega⟩,6,1+r4.2.2,r5.2.2,1+r6.2.2,by decide,by omega,by omega,by omega,.inr (.inr (.inr (.inl rfl)))⟩ rfl rfl rfl rfl A2w
  exact C3 A0 (r7.1,r7.2.1,⟨[⟨1,0,0,[1]⟩,⟨6,0,0,[2,5]⟩,⟨4,1+r4.2.2,0,[3]⟩,⟨2,r5.2.2,0,[4]⟩,⟨7,0,0,[1]⟩,⟨8,0,0,[]⟩],1+r.2.2,1+r2.2.2⟩) ⟨hr7.1,⟨Nat.le_of_ble_eq_true rfl,(by repeat' (first|exact Ja|refine Ib ?_ ?_|refine Jb ?_ ?_|refine Ia ?_ ?_|refine Jj ?_ ?_ ?_ ?_ ?_|decide|omega)),⟨Nat.le_of_ble_eq_true rfl,Nat.le_of_ble_eq_true rfl⟩,⟨by show 0≤1+r.2.2;omega,by show 1+r.2.2≤100;omega⟩,⟨by show 0≤1+r2.2.2;omega,by show 1+r2.2.2≤100;omega⟩⟩,⟨by show 1≤1+r.2.2;omega,by show 1+r.2.2≤3;omega⟩,⟨by show 1≤1+r2.2.2;omega,by show 1+r2.2.2≤3;omega⟩,6,1+r4.2.2,r5.2.2,1+r6.2.2,by decide,by omega,by omega,by omega,.inr (.inr (.inr (.inr rfl)))⟩ rfl rfl rfl rfl A2w
 refine Ay (Au d r3.1 r3.2.1 3 hr3 B5) hH hp rfl B0 rfl rfl (fun r4 hr4=>go A0 false ?_);conv=>whnf
 (repeat refine Ap ?_);refine Fx 5 (Bh [3]) rfl (Bu rfl C2) ?_;refine Ay (Au d r4.1 r4.2.1 4 hr4.1 B5) hH hp rfl B0 rfl rfl (fun r5 hr5=>go A0 false ?_);conv=>whnf
 refine Fx 7 (Bh [4]) rfl (Bu rfl C2) ?_;refine Ay (Au d r5.1 r5.2.1 3 hr5.1 B5) hH hp rfl B0 rfl rfl (fun r6 hr6=>goF 28 A0 false ?_);conv=>whnf
 refine ⟨by show _∧_;omega,?_⟩
 conv=>whnf
 refine Es 9 (Bh [4]) rfl (Bu rfl C2) ?_;refine Es 11 (Bh [1]) rfl (Bu rfl C2) ?_;refine Es 14 (Bh [1]) rfl (Bu rfl C2) ?_
 refine Kg A0 rfl rfl rfl rfl rfl rfl (l:=[.c (vi 1),.c (vi 0),.c (vi 0),.own 14,.c (vi 5),.c (vi 0),.c (vi 0),.own 3,.c (vi 4),.c (vi (1+r4.2.2)),.c (vi 0),.own 5,.c (vi 2),.c (vi r5.2.2),.c (vi 0),.own 7,.c (vi 7),.c (vi 0),.c (vi 0),.own 11,.c (vi 8),.c (vi 0),.c (vi 0),.c (.val (.slice none 0 0))]) A6
  (cs:=[vi 1,vi 0,vi 0,Bh [1],vi 5,vi 0,vi 0,Bh [2,5],vi 4,vi (1+r4.2.2),vi 0,Bh [3],vi 2,vi r5.2.2,vi 0,Bh [4],vi 7,vi 0,vi 0,Bh [1],vi 8,vi 0,vi 0,.val (.slice none 0 0)]) (ks:=[14,3,5,7,11]) A6 A6 (G3 ?_)
 conv=>whnf
 refine Fx 15 (Bg [⟨1,0,0,[1]⟩,⟨5,0,0,[2,5]⟩,⟨4,1+r4.2.2,0,[3]⟩,⟨2,r5.2.2,0,[4]⟩,⟨7,0,0,[1]⟩,⟨8,0,0,[]⟩]) rfl (Hx rfl A44) ?_;refine Ay (Au d r6.1 r6.2.1 6 hr6.1 B5) hH hp rfl B0 rfl rfl (fun r7 hr7=>go A0 false ?_);conv=>whnf
 have q1:=hr.2.2.2 B5;have p1:=hr.2.1;have q2:=hr2.2.2.2 B5;have p2:=hr2.2.1;have q4:=hr4.2.2.2 B5;have p4:=hr4.2.1;have q5:=hr5.2.2.2 B5;have p5:=hr5.2.1;have q6:=hr6.2.2.2 B5;have p6:=hr6.2.1;refine ⟨fun c0=>?_,fun c0=>?_⟩<;>conv=>whnf
 ·refine ⟨by simp,?_⟩
  conv=>whnf
  refine Bv (j:=3) A0 rfl rfl rfl rfl rfl rfl rfl rfl _ (Ck (j:=3) (xs:=[⟨1,0,0,[1]⟩,⟨5,0,0,[2,5]⟩,⟨4,1+r4.2.2,0,[3]⟩,⟨2,r5.2.2,0,[4]⟩,⟨7,0,0,[1]⟩,⟨8,0,0,[]⟩]) (e:=Bw.c) (x:=⟨3,1+r6.2.2,0,[4]⟩) C8 rfl) (A7 ?_);exact C3 A0 (r7.1,r7.2.1,⟨List.set [⟨1,0,0,[1]⟩,⟨5,0,0,[2,5]⟩,⟨4,1+r4.2.2,0,[3]⟩,⟨2,r5.2.2,0,[4]⟩,⟨7,0,0,[1]⟩,⟨8,0,0,[]⟩] 3 ⟨3,1+r6.2.2,0,[4]⟩,1+r.2.2,1+r2.2.2⟩) ⟨hr7.1,⟨Nat.le_of_ble_eq_true rfl,(by repeat' (first|exact Ja|refine Ib ?_ ?_|refine Jb ?_ ?_|refine Ia ?_ ?_|refine Jj ?_ ?_ ?_ ?_ ?_|decide|omega)),⟨Nat.le_of_ble_eq_true rfl,Nat.le_of_ble_eq_true rfl⟩,⟨by show 0≤1+r.2.2;omega,by show 1+r.2.2≤100;omega⟩,⟨by show 0≤1+r2.2.2;omega,by show 1+r2.2.2≤100;omega⟩⟩,⟨by show 1≤1+r.2.2;omega,by show 1+r.2.2≤3;omega⟩,⟨by show 1≤1+r2.2.2;omega,by show 1+r2.2.2≤3;omega⟩,5,1+r4.2.2,r5.2.2,1+r6.2.2,by decide,by omega,by omega,by omega,.inl rfl⟩ rfl rfl rfl rfl A2w
 refine ⟨fun c1=>?_,fun c1=>?_⟩<;>conv=>whnf
 ·refine ⟨by simp,?_⟩
  conv=>whnf
  refine Bv (j:=4) A0 rfl rfl rfl rfl rfl rfl rfl rfl _ (A4w (j:=4) rfl) (A7 ?_);refine Jc 15 (Bg [⟨1,0,0,[1]⟩,⟨5,0,0,[2,5]⟩,⟨4,1+r4.2.2,0,[3]⟩,⟨2,r5.2.2,0,[4]⟩,⟨8,0,0,[]⟩,⟨8,0,0,[]⟩]) rfl (Hx rfl A44) ?_;exact C3 A0 (r7.1,r7.2.1,⟨[⟨1,0,0,[1]⟩,⟨5,0,0,[2,5]⟩,⟨4,1+r4.2.2,0,[3]⟩,⟨2,r5.2.2,0,[4]⟩,⟨8,0,0,[]⟩,⟨8,0,0,[]⟩],1+r.2.2,1+r2.2.2⟩) ⟨hr7.1,⟨Nat.le_of_ble_eq_true rfl,(by repeat' (first|exact Ja|refine Ib ?_ ?_|refine Jb ?_ ?_|refine Ia ?_ ?_|refine Jj ?_ ?_ ?_ ?_ ?_|decide|omega)),⟨Nat.le_of_ble_eq_true rfl,Nat.le_of_ble_eq_true rfl⟩,⟨by show 0≤1+r.2.2;omega,by show 1+r.2.2≤100;omega⟩,⟨by show 0≤1+r2.2.2;omega,by show 1+r2.2.2≤100;omega⟩⟩,⟨by show 1≤1+r.2.2;omega,by show 1+r.2.2≤3;omega⟩,⟨by show 1≤1+r2.2.2;omega,by show 1+r2.2.2≤3;omega⟩,5,1+r4.2.2,r5.2.2,1+r6.2.2,by decide,by omega,by omega,by omega,.inr (.inl rfl)⟩ rfl rfl rfl rfl A2w
 refine ⟨fun c2=>?_,fun c2=>?_⟩<;>conv=>whnf
 ·refine ⟨by simp,?_⟩
  conv=>whnf
  refine Es 16 (Bh [3,4]) rfl (Bu rfl C2) ?_;refine Bv (j:=2) A0 rfl rfl rfl rfl rfl rfl rfl rfl _ (Ck (j:=2) (xs:=[⟨1,0,0,[1]⟩,⟨5,0,0,[2,5]⟩,⟨4,1+r4.2.2,0,[3]⟩,⟨2,r5.2.2,0,[4]⟩,⟨7,0,0,[1]⟩,⟨8,0,0,[]⟩]) (e:=Bw.c) (x:=⟨4,1+r4.2.2,0,[3,4]⟩) C8 rfl) (A7 ?_);exact C3 A0 (r7.1,r7.2.1,⟨List.set [⟨1,0,0,[1]⟩,⟨5,0,0,[2,5]⟩,⟨4,1+r4.2.2,0,[3]⟩,⟨2,r5.2.2,0,[4]⟩,⟨7,0,0,[1]⟩,⟨8,0,0,[]⟩] 2 ⟨4,1+r4.2.2,0,[3,4]⟩,1+r.2.2,1+r2.2.2⟩) ⟨hr7.1,⟨Nat.le_of_ble_eq_true rfl,(by repeat' (first|exact Ja|refine Ib ?_ ?_|refine Jb ?_ ?_|refine Ia ?_ ?_|refine Jj ?_ ?_ ?_ ?_ ?_|decide|omega)),⟨Nat.le_of_ble_eq_true rfl,Nat.le_of_ble_eq_true rfl⟩,⟨by show 0≤1+r.2.2;omega,by show 1+r.2.2≤100;omega⟩,⟨by show 0≤1+r2.2.2;omega,by show 1+r2.2.2≤100;omega⟩⟩,⟨by show 1≤1+r.2.2;omega,by show 1+r.2.2≤3;omega⟩,⟨by show 1≤1+r2.2.2;omega,by show 1+r2.2.2≤3;omega⟩,5,1+r4.2.2,r5.2.2,1+r6.2.2,by decide,by omega,by omega,by omega,.inr (.inr (.inl rfl))⟩ rfl rfl rfl rfl A2w
 refine ⟨fun c3=>?_,fun c3=>?_⟩<;>conv=>whnf
 ·refine Es 16 (Bg [⟨8,0,0,[]⟩]) rfl (Hx rfl A44) ?_
  refine Bj A0 rfl rfl rfl rfl rfl rfl rfl rfl rfl rfl rfl (Bg ([⟨1,0,0,[1]⟩,⟨5,0,0,[2,5]⟩,⟨4,1+r4.2.2,0,[3]⟩,⟨2,r5.2.2,0,[4]⟩,⟨7,0,0,[1]⟩,⟨8,0,0,[]⟩]++[⟨8,0,0,[]⟩])) (An (xs:=[⟨1,0,0,[1]⟩,⟨5,0,0,[2,5]⟩,⟨4,1+r4.2.2,0,[3]⟩,⟨2,r5.2.2,0,[4]⟩,⟨7,0,0,[1]⟩,⟨8,0,0,[]⟩]) (x:=⟨8,0,0,[]⟩) (e:=Bw.c) rfl) C6 C8 (A7 ?_);refine ⟨by simp,?_⟩;conv=>whnf
  refine Es 18 (Bh [1,6]) rfl (Bu rfl C2) ?_;refine Bv (j:=0) A0 rfl rfl rfl rfl rfl rfl rfl rfl _ (Ck (j:=0) (xs:=[⟨1,0,0,[1]⟩,⟨5,0,0,[2,5]⟩,⟨4,1+r4.2.2,0,[3]⟩,⟨2,r5.2.2,0,[4]⟩,⟨7,0,0,[1]⟩,⟨8,0,0,[]⟩]++[⟨8,0,0,[]⟩]) (e:=Bw.c) (x:=⟨1,0,0,[1,6]⟩) C8 rfl) (A7 ?_);exact C3 A0 (r7.1,r7.2.1,⟨List.set ([⟨1,0,0,[1]⟩,⟨5,0,0,[2,5]⟩,⟨4,1+r4.2.2,0,[3]⟩,⟨2,r5.2.2,0,[4]⟩,⟨7,0,0,[1]⟩,⟨8,0,0,[]⟩]++[⟨8,0,0,[]⟩]) 0 ⟨1,0,0,[1,6]⟩,1+r.2.2,1+r2.2.2⟩) ⟨hr7.1,⟨Nat.le_of_ble_eq_true rfl,(by repeat' (first|exact Ja|refine Ib ?_ ?_|refine Jb ?_ ?_|refine Ia ?_ ?_|refine Jj ?_ ?_ ?_ ?_ ?_|decide|omega)),⟨Nat.le_of_ble_eq_true rfl,Nat.le_of_ble_eq_true rfl⟩,⟨by show 0≤1+r.2.2;omega,by show 1+r.2.2≤100;omega⟩,⟨by show 0≤1+r2.2.2;omega,by show 1+r2.2.2≤100;omega⟩⟩,⟨by show 1≤1+r.2.2;omega,by show 1+r.2.2≤3;omega⟩,⟨by show 1≤1+r2.2.2;omega,by show 1+r2.2.2≤3;omega⟩,5,1+r4.2.2,r5.2.2,1+r6.2.2,by decide,by omega,by omega,by omega,.inr (.inr (.inr (.inl rfl)))⟩ rfl rfl rfl rfl A2w
 exact C3 A0 (r7.1,r7.2.1,⟨[⟨1,0,0,[1]⟩,⟨5,0,0,[2,5]⟩,⟨4,1+r4.2.2,0,[3]⟩,⟨2,r5.2.2,0,[4]⟩,⟨7,0,0,[1]⟩,⟨8,0,0,[]⟩],1+r.2.2,1+r2.2.2⟩) ⟨hr7.1,⟨Nat.le_of_ble_eq_true rfl,(by repeat' (first|exact Ja|refine Ib ?_ ?_|refine Jb ?_ ?_|refine Ia ?_ ?_|refine Jj ?_ ?_ ?_ ?_ ?_|decide|omega)),⟨Nat.le_of_ble_eq_true rfl,Nat.le_of_ble_eq_true rfl⟩,⟨by show 0≤1+r.2.2;omega,by show 1+r.2.2≤100;omega⟩,⟨by show 0≤1+r2.2.2;omega,by show 1+r2.2.2≤100;omega⟩⟩,⟨by show 1≤1+r.2.2;omega,by show 1+r.2.2≤3;omega⟩,⟨by show 1≤1+r2.2.2;omega,by show 1+r2.2.2≤3;omega⟩,5,1+r4.2.2,r5.2.2,1+r6.2.2,by decide,by omega,by omega,by omega,.inr (.inr (.inr (.inr rfl)))⟩ rfl rfl rfl rfl A2w
theorem B4v (d:Ey)(i h:Int)(hi:0≤i∧i≤d.n):E3 Tryz.prog HT 47 d.pins (d.cur i h) [] (fun r:Int×Int×Ah=>(0≤r.1∧r.1≤d.n)∧Z5 r.2.2) (fun r=>d.cur r.1 r.2.1) (fun r=>[.agg r.2.2.c]):=(Wo d i h hi).weak fun _ h=>⟨h.1,h.2.1⟩
end Go.Proofs.YtdendlkeiaccpaaGreat
