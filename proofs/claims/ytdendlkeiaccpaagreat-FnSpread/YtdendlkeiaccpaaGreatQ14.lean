/- Part 14 of the proof that each of the laws FnSpread returns true for every input. No conditions. -/
import Derived.Test.YtdendlkeiaccpaaGreatQ9
import Derived.Test.YtdendlkeiaccpaaGreatQ13
import Derived.Test.YtdendlkeiaccpaaGreatQ6
import Derived.Test.YtdendlkeiaccpaaGreatQ11
import Derived.Test.YtdendlkeiaccpaaGreatQ4

set_option linter.unusedSimpArgs false
set_option linter.unusedVariables false
set_option maxRecDepth 100000
namespace Go.Proofs.YtdendlkeiaccpaaGreat
open Go.Sx
def A7d (g:Ah) (x:Ae):Prop:=(0≤x.op∧x.op<g.nodes.length)∧Ea g∧(0≤x.epoch∧x.epoch≤3)∧Ky x.key x.val
instance (g:Ah) (x:Ae):Decidable (A7d g x):=by unfold A7d;infer_instance
def A4b (g:Ah) (x:Ae) (k:Int):Ae:=⟨k,x.epoch,(B9 (Ac g x.op) x.key x.val).1,(B9 (Ac g x.op) x.key x.val).2.1⟩
def N5 (g:Ah) (x:Ae):List Ae:=if (B9 (Ac g x.op) x.key x.val).2.2=true then (Ac g x.op).outs.map (A4b g x) else []
def Fb (g:Ah) (best:List Ae) (x:Ae):List Ae×List Ae:=
 if A7d g x then (if Hb best x then (best,[]) else ((Ei best x).1,N5 g x)) else (best,[])
theorem A0w {g:Ah}{best:List Ae}{x:Ae}(h:¬ A7d g x):Fb g best x=(best,[]):=if_neg h
theorem B3s (best:List Ae)(x:Ae):Bs 5 best x=Ei best x:=if_pos (.inl rfl)
theorem C1i {g:Ah}{best:List Ae}{x:Ae}(h:A7d g x)(h6:(Bs 5 best x).2=false):Fb g best x=(best,[]):=by
 rw [B3s] at h6;unfold Ei at h6
 split at h6
 ·rename_i hn
  unfold Fb;rw [if_pos h,if_pos hn]
 cases h6
theorem C1h {g:Ah}{best:List Ae}{x:Ae}(h:A7d g x)(h6:(Bs 5 best x).2=true):Fb g best x=((Bs 5 best x).1,N5 g x):=by
 rw [B3s] at h6 ⊢;unfold Ei at h6
 split at h6
 ·cases h6
 rename_i hn
 unfold Fb;rw [if_pos h,if_neg hn]
theorem B1f {g:Ah}{x:Ae}:(N5 g x).length≤(Ac g x.op).outs.length:=by
 unfold N5
 split
 ·rw [List.length_map];exact Nat.le_refl _
 exact Nat.zero_le _
inductive Drv (g:Ah) (ins:List Aa) (e:Int):Int→Int→Int→Prop
 |inp (r:Aa) (h:r∈ins) (he:r.stamp.epoch=e):Drv g ins e 0 r.key r.val
 |step (op k v k':Int) (h:Drv g ins e op k v) (ho:0≤op∧op<g.nodes.length) (hk:k'∈(Ac g op).outs) (hg:(B9 (Ac g op) k v).2.2=true):Drv g ins e k' (B9 (Ac g op) k v).1 (B9 (Ac g op) k v).2.1
def Yj (ins:List Aa):Prop:=∀r∈ins,H2 r∧r.op=0∧r.stamp.turn=0
theorem Ur {g:Ah}{ins:List Aa}{e op k v:Int}(hg:Ea g)(hi:Yj ins)(h:Drv g ins e op k v):Ky k v:=by
 induction h with
 |inp r hr he=>exact (hi r hr).1.2.2.2
 |step op k v k' h ho hk hgo ih=>exact Um (K1 hg ho.1 ho.2).1 ih
theorem Un {x:Bw}{k v v':Int}(hg:(B9 x k v).2.2=true)(h0:0≤v')(h1:v'≤v):(B9 x k v').1=(B9 x k v).1∧(B9 x k v').2.1≤(B9 x k v).2.1∧(B9 x k v').2.2=true:=by
 unfold B9 at *
 split at hg
 ·rename_i hp
  have hp':Jv x∧Ky k v':=⟨hp.1,hp.2.1,h0,by have:=hp.2.2.2;omega⟩;rw [if_pos hp,if_pos hp']
  split
  ·refine ⟨rfl,?_,rfl⟩
   show (if v'+x.a<999 then v'+x.a else 999)≤(if v+x.a<999 then v+x.a else 999)
   split<;>split<;>omega
  rename_i h2
  rw [if_neg h2] at hg
  split
  ·exact ⟨rfl,h1,rfl⟩
  rename_i h4
  rw [if_neg h4] at hg
  split
  ·rename_i h3
   rw [if_pos h3] at hg;exact ⟨rfl,h1,hg⟩
  rename_i h3
  rw [if_neg h3] at hg;exact ⟨rfl,h1,hg⟩
 cases hg
def Im (c:A3) (q:Aa):Prop:=(∃i,i<c.workers.length∧(q∈(wk c i).queue∨q∈(wk c i).staged∨q∈(wk c i).inputs))∨∃j,j<c.links.length∧q∈(c.links.getD j default).queue
def PH (c:A3) (e:Int) (H:Int→Int→Int→Prop) (op k v:Int):Prop:=(∃q,Im c q∧q.op=op∧q.stamp.epoch=e∧q.key=k∧q.val=v)∨H op k v
structure Og (g:Ah) (ins:List Aa) (e:Int) (c:A3) (H:Int→Int→Int→Prop):Prop where
 gr:c.graph=g
 inp:∀r∈ins,r.stamp.epoch=e→∃v,v≤r.val∧PH c e H 0 r.key v
 nxt:∀op k v k',H op k v→0≤op∧op<g.nodes.length→k'∈(Ac g op).outs→(B9 (Ac g op) k v).2.2=true→(∃v',v'≤(B9 (Ac g op) k v).2.1∧PH c e H k' (B9 (Ac g op) k v).1 v')∨∃i,i<c.workers.length∧Dl (wk c i) e=true
 sound:∀op k v,PH c e H op k v→Drv g ins e op k v
 cell:∀i,i<c.workers.length→∀x∈(wk c i).cells,x.epoch=e→H x.op x.key x.val
 out:∀op k v,H op k v→(Ac g op).kind=8→∃i,i<c.workers.length∧∃x∈(wk c i).cells,x.op=op∧x.epoch=e∧x.key=k∧x.val≤v
 uniq:∀i,i<c.workers.length→∀x∈(wk c i).cells,∀y∈(wk c i).cells,(Ac g x.op).kind=8→x.op=y.op∧x.epoch=y.epoch∧x.key=y.key→x=y
theorem Og.moved {g:Ah}{ins:List Aa}{e:Int}{c c':A3}{H:Int→Int→Int→Prop}(h:Og g ins e c H)(hg:c'.graph=c.graph)(hl:c'.workers.length=c.workers.length)(hp:∀q,Im c' q↔Im c q)
  (hc:∀i,(wk c' i).cells=(wk c i).cells∧Dl (wk c' i) e=Dl (wk c i) e):Og g ins e c' H:=by
 have hPH:∀op k v,PH c' e H op k v↔PH c e H op k v:=fun op k v=>by unfold PH;simp only [hp]
 refine ⟨by rw [hg];exact h.gr,fun r hr he=>?_,fun op k v k' hH ho hk hgo=>?_,fun op k v hv=>?_,fun i hi x hx=>?_,fun op k v hH h8=>?_,fun i hi x hx y hy=>?_⟩
 ·obtain ⟨v,h1,h2⟩:=h.inp r hr he
  exact ⟨v,h1,(hPH _ _ _).2 h2⟩
 ·rcases h.nxt op k v k' hH ho hk hgo with ⟨v',h1,h2⟩|⟨i,hi,hcap⟩
  ·exact .inl ⟨v',h1,(hPH _ _ _).2 h2⟩
  exact .inr ⟨i,by omega,by rw [(hc i).2];exact hcap⟩
 ·exact h.sound op k v ((hPH _ _ _).1 hv)
 ·rw [(hc i).1] at hx
  exact h.cell i Ad x hx
 ·obtain ⟨i,hi,x,hx,q⟩:=h.out op k v hH h8
  exact ⟨i,by omega,x,by rw [(hc i).1];exact hx,q⟩
 rw [(hc i).1] at hx hy;exact h.uniq i Ad x hx y hy
theorem Mq {c:A3}{w:Int}{v:Ab}(h:0≤w∧w<c.workers.length)(i:Nat):wk (Av c w v) i=if i=w.toNat then v else wk c i:=H4 rfl Ad
theorem Lz {c:A3}{w:Int}{v:Ab}(h:0≤w∧w<c.workers.length)(q:Aa):Im (Av c w v) q↔(q∈v.queue∨q∈v.staged∨q∈v.inputs)∨(∃i,i<c.workers.length∧i≠w.toNat∧(q∈(wk c i).queue∨q∈(wk c i).staged∨q∈(wk c i).inputs))∨∃j,j<c.links.length∧q∈(c.links.getD j default).queue:=by
 have hlen:(Av c w v).workers.length=c.workers.length:=by simp only [Av,List.length_set]
 unfold Im;rw [hlen]
 constructor
 ·rintro (⟨i,hi,hq⟩|hj)
  ·rw [Mq h] at hq
   by_cases e:i=w.toNat
   ·rw [if_pos e] at hq;exact .inl hq
   rw [if_neg e] at hq;exact .inr (.inl ⟨i,hi,e,hq⟩)
  exact .inr (.inr hj)
 rintro (hq|⟨i,hi,e,hq⟩|hj)
 ·exact .inl ⟨w.toNat,by omega,by rw [Mq h,if_pos rfl];exact hq⟩
 ·exact .inl ⟨i,hi,by rw [Mq h,if_neg e];exact hq⟩
 exact .inr hj
theorem Q2 {c:A3}{w:Int}(h:0≤w∧w<c.workers.length)(q:Aa):Im c q↔(q∈(A8 c w).queue∨q∈(A8 c w).staged∨q∈(A8 c w).inputs)∨(∃i,i<c.workers.length∧i≠w.toNat∧(q∈(wk c i).queue∨q∈(wk c i).staged∨q∈(wk c i).inputs))∨∃j,j<c.links.length∧q∈(c.links.getD j default).queue:=by
 have:=Lz (v:=A8 c w) h q
 rw [K4] at this;exact this
theorem Rd {α:Type} [Inhabited α] {l:List α}(h:0<l.length)(q:α):q∈l↔q=l.getD 0 default∨q∈l.drop 1:=by
 cases l with
 |nil=>cases h
 |cons x l=>simp
theorem B9j {c:A3}{k:Int}{l:Ca}(h:0≤k∧k<c.links.length)(q:Aa):Im (Bi c k l) q↔(∃i,i<c.workers.length∧(q∈(wk c i).queue∨q∈(wk c i).staged∨q∈(wk c i).inputs))∨q∈l.queue∨∃j,j<c.links.length∧j≠k.toNat∧q∈(c.links.getD j default).queue:=by
 unfold Im;refine or_congr Iff.rfl ?_;have hlen:(Bi c k l).links.length=c.links.length:=by simp only [Bi,List.length_set]
 rw [hlen]
 have hg:∀j,(Bi c k l).links.getD j default=if j=k.toNat then l else c.links.getD j default:=fun j=>by
  unfold Bi
  simp only
  rw [Ep]
  by_cases e:j=k.toNat
  ·rw [if_pos ⟨e,by omega⟩,if_pos e]
  rw [if_neg (fun q=>e q.1),if_neg e]
 constructor
 ·rintro ⟨j,hj,hq⟩
  rw [hg] at hq
  by_cases e:j=k.toNat
  ·rw [if_pos e] at hq;exact .inl hq
  rw [if_neg e] at hq;exact .inr ⟨j,hj,e,hq⟩
 rintro (hq|⟨j,hj,e,hq⟩)
 ·exact ⟨k.toNat,by omega,by rw [hg,if_pos rfl];exact hq⟩
 exact ⟨j,hj,by rw [hg,if_neg e];exact hq⟩
theorem S5 {c:A3}{w:Int}{v:Ab}{e:Int}(hw:0≤w∧w<c.workers.length)(h1:v.cells=(A8 c w).cells)(h2:v.caps=(A8 c w).caps)(i:Nat):(wk (Av c w v) i).cells=(wk c i).cells∧Dl (wk (Av c w v) i) e=Dl (wk c i) e:=by
 rw [Mq hw]
 split
 ·rename_i ei
  subst ei;unfold Dl;rw [h1,h2];exact ⟨rfl,rfl⟩
 exact ⟨rfl,rfl⟩
theorem B4n {c:A3}{e e':Int}:∀i,Dl (wk (Ci c e').1 i) e=Dl (wk c i) e:=by
 have st:∀(d:A3) (w:Int) (v:Ab),v.caps=(A8 d w).caps→∀i,Dl (wk (Av d w v) i) e=Dl (wk d i) e:=fun d w v hv i=>by
  unfold wk Av
  simp only
  rw [Ep]
  split
  ·rename_i q
   unfold Dl;rw [hv];unfold A8;rw [←q.1]
  rfl
 unfold Ci
 dsimp only
 split
 ·split
  ·exact st (De c _ _) _ _ rfl
  split
  ·split
   ·exact st (De c _ _) _ _ rfl
   exact fun _=>rfl
  rename_i hA
  unfold Gw
  split
  ·intro i
   have h0:(A9 c e').at_.toNat=(0:Int).toNat:=by
    have:¬ (A9 c e').at_>0:=hA
    have h00:(0:Int).toNat=0:=rfl;omega
   have hw:A8 (De c e' ⟨false,(A9 c e').at_,(A9 c e').sum,(A9 c e').black,(A9 c e').capped⟩) 0=A8 c (A9 c e').at_:=by
    unfold A8;rw [h0];rfl
   exact st (De c e' _) 0 _ (by rw [hw];rfl) i
  exact fun _=>rfl
 exact fun _=>rfl
theorem B4l {c:A3}{e w:Int}:∀i,Dl (wk (Dj c w).1 i) e=Dl (wk c i) e:=by
 unfold Dj
 split
 ·split
  ·exact fun _=>rfl
  intro i
  show Dl (wk (Av (Jd c w) w _) i) e=_
  unfold wk Av
  simp only
  rw [Ep]
  split
  ·rename_i q
   unfold Dl Ef A8;rw [←q.1]
  rfl
 exact fun _=>rfl
theorem A4l {c c':A3}(h:Mt c c')(q:Aa):Im c' q↔Im c q:=by
 obtain ⟨_,h2,h3,h4⟩:=h;unfold Im;rw [h2,h3]
 have:∀i,(q∈(wk c' i).queue∨q∈(wk c' i).staged∨q∈(wk c' i).inputs)↔(q∈(wk c i).queue∨q∈(wk c i).staged∨q∈(wk c i).inputs):=fun i=>by
  obtain ⟨a1,a2,a3,_⟩:=h4 i;rw [a1,a2,a3]
 simp only [this]
theorem B5x {g:Ah}{ins:List Aa}{e:Int}{c:A3}{p:D7}{H:Int→Int→Int→Prop}(hC:B7 c)(hp:p.kind≠1)(h:Og g ins e c H):Og g ins e (Aq c p).1 H:=by
 unfold Aq;rw [if_neg hp]
 split
 ·unfold D9
  split
  ·rename_i hW
   unfold Df
   split
   ·rename_i hP
    refine h.moved rfl (by simp only [Av,List.length_set]) (fun q=>?_) (S5 hW.2 rfl rfl);rw [Lz hW.2,Q2 hW.2];have hm:=Rd hP.2.2.2.2 q;refine or_congr ?_ Iff.rfl
    show (q∈(A8 c p.a).queue++[(A8 c p.a).inputs.getD 0 default]∨q∈(A8 c p.a).staged∨q∈(A8 c p.a).inputs.drop 1)↔_
    rw [List.mem_append,List.mem_singleton,hm]
    constructor
    ·rintro ((q1|q1)|q1|q1)
     ·exact .inl q1
     ·exact .inr (.inr (.inl q1))
     ·exact .inr (.inl q1)
     exact .inr (.inr (.inr q1))
    rintro (q1|q1|q1|q1)
    ·exact .inl (.inl q1)
    ·exact .inr (.inl q1)
    ·exact .inl (.inr q1)
    exact .inr (.inr q1)
   rw [K4];exact h
  exact h
 split
 ·unfold C7
  split
  ·rename_i hM
   obtain ⟨hW,hs⟩:=hM;have hfe:(A8 c p.a).staged.getD 0 default=B1 c p.a:=rfl
   split
   ·refine h.moved rfl (by simp only [Av,List.length_set]) (fun q=>?_) (S5 hW.2 rfl rfl)
    rw [Lz hW.2,Q2 hW.2];have hm:=Rd hs q;rw [hfe] at hm;refine or_congr ?_ Iff.rfl
    show (q∈(A8 c p.a).queue++[B1 c p.a]∨q∈(A8 c p.a).staged.drop 1∨q∈(A8 c p.a).inputs)↔_
    rw [List.mem_append,List.mem_singleton,hm]
    constructor
    ·rintro ((q1|q1)|q1|q1)
     ·exact .inl q1
     ·exact .inr (.inl (.inl q1))
     ·exact .inr (.inl (.inr q1))
     exact .inr (.inr q1)
    rintro (q1|(q1|q1)|q1)
    ·exact .inl (.inl q1)
    ·exact .inl (.inr q1)
    ·exact .inr (.inl q1)
    exact .inr (.inr q1)
   split
   ·rename_i hsend
    have hb:0≤p.a∧p.a<c.graph.workers:=by have:=hC.1.2.1;exact ⟨hW.2.1,by have:=hW.2.2;omega⟩
    have hk:=(Ge hC hb (Ox hW hs)).1
    have hq:(Cf (Ba c (Ao c p.a (B8 c p.a))) (B1 c p.a)).1.queue=(Ba c (Ao c p.a (B8 c p.a))).queue++[B1 c p.a]:=by
     unfold Cf at hsend ⊢
     split at hsend
     ·rename_i hp;rw [if_pos hp]
     cases hsend
    have hsa:(E5 (Cd (A8 c p.a)) (B1 c p.a).stamp.epoch).queue=(A8 c p.a).queue∧(E5 (Cd (A8 c p.a)) (B1 c p.a).stamp.epoch).staged=(A8 c p.a).staged.drop 1∧(E5 (Cd (A8 c p.a)) (B1 c p.a).stamp.epoch).inputs=(A8 c p.a).inputs∧(E5 (Cd (A8 c p.a)) (B1 c p.a).stamp.epoch).cells=(A8 c p.a).cells∧(E5 (Cd (A8 c p.a)) (B1 c p.a).stamp.epoch).caps=(A8 c p.a).caps:=by
     unfold E5
     split<;>exact ⟨rfl,rfl,rfl,rfl,rfl⟩
    generalize hS:E5 (Cd (A8 c p.a)) (B1 c p.a).stamp.epoch=v at *;generalize hL:(Cf (Ba c (Ao c p.a (B8 c p.a))) (B1 c p.a)).1=l at *;refine h.moved rfl (by simp only [Av,Bi,List.length_set]) (fun q=>?_) (fun i=>S5 (c:=Bi c (Ao c p.a (B8 c p.a)) l) hW.2 hsa.2.2.2.1 hsa.2.2.2.2 i);have hm:=Rd hs q;rw [hfe] at hm;have key:Im (Av (Bi c (Ao c p.a (B8 c p.a)) l) p.a v) q↔(q∈v.queue∨q∈v.staged∨q∈v.inputs)∨(∃i,i<c.workers.length∧i≠p.a.toNat∧(q∈(wk c i).queue∨q∈(wk c i).staged∨q∈(wk c i).inputs))∨∃j,j<(Bi c (Ao c p.a (B8 c p.a)) l).links.length∧q∈((Bi c (Ao c p.a (B8 c p.a)) l).links.getD j default).queue:=Lz (c:=Bi c (Ao c p.a (B8 c p.a)) l) hW.2 q
    have hlk:(∃j,j<(Bi c (Ao c p.a (B8 c p.a)) l).links.length∧q∈((Bi c (Ao c p.a (B8 c p.a)) l).links.getD j default).queue)↔(∃j,j<c.links.length∧q∈(c.links.getD j default).queue)∨q=B1 c p.a:=by
     have hg:∀j,(Bi c (Ao c p.a (B8 c p.a)) l).links.getD j default=if j=(Ao c p.a (B8 c p.a)).toNat then l else c.links.getD j default:=fun j=>by
      unfold Bi
      simp only
      rw [Ep]
      by_cases e:j=(Ao c p.a (B8 c p.a)).toNat
      ·rw [if_pos ⟨e,by omega⟩,if_pos e]
      rw [if_neg (fun q=>e q.1),if_neg e]
     have hln:(Bi c (Ao c p.a (B8 c p.a)) l).links.length=c.links.length:=by simp only [Bi,List.length_set]
     rw [hln]
     constructor
     ·rintro ⟨j,hj,hx⟩
      rw [hg] at hx
      split at hx
      ·rename_i e
       rw [hq] at hx
       rcases List.mem_append.1 hx with hx|hx
       ·exact .inl ⟨j,hj,by rw [e];exact hx⟩
       exact .inr (List.mem_singleton.1 hx)
      exact .inl ⟨j,hj,hx⟩
     rintro (⟨j,hj,hx⟩|hx)
     ·refine ⟨j,hj,?_⟩
      rw [hg]
      split
      ·rename_i e
       rw [hq,List.mem_append];rw [e] at hx;exact .inl hx
      exact hx
     refine ⟨(Ao c p.a (B8 c p.a)).toNat,by omega,?_⟩;rw [hg,if_pos rfl,hq,hx];exact List.mem_append_right _ (List.mem_singleton.2 rfl)
    rw [key,hlk,Q2 hW.2,hsa.1,hsa.2.1,hsa.2.2.1,hm]
    constructor
    ·rintro ((q1|q1|q1)|q1|q1|q1)
     ·exact .inl (.inl q1)
     ·exact .inl (.inr (.inl (.inr q1)))
     ·exact .inl (.inr (.inr q1))
     ·exact .inr (.inl q1)
     ·exact .inr (.inr q1)
     exact .inl (.inr (.inl (.inl q1)))
    rintro ((q1|(q1|q1)|q1)|q1|q1)
    ·exact .inl (.inl q1)
    ·exact .inr (.inr (.inr q1))
    ·exact .inl (.inr (.inl q1))
    ·exact .inl (.inr (.inr q1))
    ·exact .inr (.inl q1)
    exact .inr (.inr (.inl q1))
   exact h
  exact h
 split
 ·unfold Ct
  split
  ·rename_i hm
   obtain ⟨hL,htk⟩:=hm;have hkb:=(Ge hC hL.2.2.1 hL.2.2.2).1;have ht:0≤p.b∧p.b<c.workers.length:=by have:=hC.1.2.1;have:=hL.2.2.2;omega
   have hq:(Bc (Ba c (Ao c p.a p.b))).1.queue=(Ba c (Ao c p.a p.b)).queue.drop 1∧(Bc (Ba c (Ao c p.a p.b))).2.1=(Ba c (Ao c p.a p.b)).queue.getD 0 default∧0<(Ba c (Ao c p.a p.b)).queue.length:=by
    unfold Bc at htk ⊢
    split at htk
    ·rename_i hp;rw [if_pos hp];exact ⟨rfl,rfl,hp.2⟩
    cases htk
   generalize hr:(Bc (Ba c (Ao c p.a p.b))).2.1=r at *;generalize hl:(Bc (Ba c (Ao c p.a p.b))).1=l at *
   have hrc:(D0 (A8 c p.b) r).queue=(A8 c p.b).queue++[r]∧(D0 (A8 c p.b) r).staged=(A8 c p.b).staged∧(D0 (A8 c p.b) r).inputs=(A8 c p.b).inputs∧(D0 (A8 c p.b) r).cells=(A8 c p.b).cells∧(D0 (A8 c p.b) r).caps=(A8 c p.b).caps:=by
    unfold D0
    split<;>exact ⟨rfl,rfl,rfl,rfl,rfl⟩
   generalize hv:D0 (A8 c p.b) r=v at *;refine h.moved rfl (by simp only [Av,Bi,List.length_set]) (fun q=>?_) (fun i=>S5 (c:=Bi c (Ao c p.a p.b) l) ht hrc.2.2.2.1 hrc.2.2.2.2 i);have hm:=Rd hq.2.2 q;rw [←hq.2.1] at hm;have key:Im (Av (Bi c (Ao c p.a p.b) l) p.b v) q↔(q∈v.queue∨q∈v.staged∨q∈v.inputs)∨(∃i,i<c.workers.length∧i≠p.b.toNat∧(q∈(wk c i).queue∨q∈(wk c i).staged∨q∈(wk c i).inputs))∨∃j,j<(Bi c (Ao c p.a p.b) l).links.length∧q∈((Bi c (Ao c p.a p.b) l).links.getD j default).queue:=Lz (c:=Bi c (Ao c p.a p.b) l) ht q
   have hlk:(∃j,j<c.links.length∧q∈(c.links.getD j default).queue)↔(∃j,j<(Bi c (Ao c p.a p.b) l).links.length∧q∈((Bi c (Ao c p.a p.b) l).links.getD j default).queue)∨q=r:=by
    have hg:∀j,(Bi c (Ao c p.a p.b) l).links.getD j default=if j=(Ao c p.a p.b).toNat then l else c.links.getD j default:=fun j=>by
     unfold Bi
     simp only
     rw [Ep]
     by_cases e:j=(Ao c p.a p.b).toNat
     ·rw [if_pos ⟨e,by omega⟩,if_pos e]
     rw [if_neg (fun q=>e q.1),if_neg e]
    have hln:(Bi c (Ao c p.a p.b) l).links.length=c.links.length:=by simp only [Bi,List.length_set]
    rw [hln]
    constructor
    ·rintro ⟨j,hj,hx⟩
     by_cases e:j=(Ao c p.a p.b).toNat
     ·rw [e] at hx
      rcases hm.1 hx with hx|hx
      ·exact .inr hx
      exact .inl ⟨j,hj,by rw [hg,if_pos e,hq.1];exact hx⟩
     exact .inl ⟨j,hj,by rw [hg,if_neg e];exact hx⟩
    rintro (⟨j,hj,hx⟩|hx)
    ·rw [hg] at hx
     split at hx
     ·rename_i e
      rw [hq.1] at hx;exact ⟨j,hj,by rw [e];exact hm.2 (.inr hx)⟩
     exact ⟨j,hj,hx⟩
    exact ⟨(Ao c p.a p.b).toNat,by omega,hm.2 (.inl hx)⟩
   rw [key,Q2 ht,hlk,hrc.1,hrc.2.1,hrc.2.2.1,List.mem_append,List.mem_singleton]
   constructor
   ·rintro (((q1|q1)|q1|q1)|q1|q1)
    ·exact .inl (.inl q1)
    ·exact .inr (.inr (.inr q1))
    ·exact .inl (.inr (.inl q1))
    ·exact .inl (.inr (.inr q1))
    ·exact .inr (.inl q1)
    exact .inr (.inr (.inl q1))
   rintro ((q1|q1|q1)|q1|q1|q1)
   ·exact .inl (.inl (.inl q1))
   ·exact .inl (.inr (.inl q1))
   ·exact .inl (.inr (.inr q1))
   ·exact .inr (.inl q1)
   ·exact .inr (.inr q1)
   exact .inl (.inl (.inr q1))
  exact h
 split
 ·unfold D4
  split
  ·rename_i hL
   have hkb:=(Ge hC hL.2.2.1 hL.2.2.2).1
   have hq:(Ce (Ba c (Ao c p.a p.b))).1.queue=(Ba c (Ao c p.a p.b)).queue:=by
    unfold Ce
    split<;>rfl
   refine h.moved rfl rfl (fun q=>?_) (fun _=>⟨rfl,rfl⟩);rw [B9j hkb,hq];unfold Im;refine or_congr Iff.rfl ?_
   constructor
   ·rintro (hx|⟨j,hj,_,hx⟩)
    ·exact ⟨_,by omega,hx⟩
    exact ⟨j,hj,hx⟩
   rintro ⟨j,hj,hx⟩
   by_cases e:j=(Ao c p.a p.b).toNat
   ·rw [e] at hx;exact .inl hx
   exact .inr ⟨j,hj,e,hx⟩
  exact h
 split
 ·have hS:=U7 c p.a
  exact h.moved hS.1 hS.2.2.1 (A4l hS) fun i=>⟨(hS.2.2.2 i).2.2.2,B4n i⟩
 split
 ·have hS:=Xb c p.a
  exact h.moved hS.1 hS.2.2.1 (A4l hS) fun i=>⟨(hS.2.2.2 i).2.2.2,B4l i⟩
 exact h
def Lp (c:A3):Prop:=∀i,i<c.workers.length→∀x∈(wk c i).cells,Bn x.key c.graph.workers=i
theorem A11 {k:Int}{l:List Ae}{x y:Ae}(h:y∈(Bs k l x).1):y∈l∨y=x:=by
 unfold Bs at h
 split at h
 ·unfold Ei at h
  split at h
  ·exact .inl h
  rcases J2.1 h with h|h
  ·exact .inl (List.mem_filter.1 h).1
  exact .inr h
 split at h
 ·split at h
  ·exact .inl h
  exact J2.1 h
 exact .inl h
theorem Wl {g:Ah}{cs:List Ae}{r:Aa}{y:Ae}(h:y∈(Cj g cs r).1):y∈cs∨y=Co r:=by
 rcases Ks (g:=g) (cs:=cs) (r:=r) with e|e
 ·rw [e] at h;exact .inl h
 rw [e] at h;exact A11 h
theorem Oj {c:A3}{w:Int}{v:Ab}(h:Lp c)(hv:∀x∈v.cells,x∈(A8 c w).cells∨Bn x.key c.graph.workers=w.toNat):Lp (Av c w v):=fun i hi x hx=>by
 simp only [Av,List.length_set] at hi;unfold wk Av at hx
 simp only at hx
 rw [Ep] at hx
 show Bn x.key c.graph.workers=i
 split at hx
 ·rename_i e
  rcases hv x hx with q|q
  ·rw [e.1]
   exact h w.toNat e.2 x q
  rw [q,e.1]
 exact h i hi x hx
theorem B0n {g:Ah}{a b:Int}{ins:List Aa}{c:A3}{p:D7}(hD:Lq g a b ins c)(h:Lp c):Lp (Aq c p).1:=by
 unfold Aq
 split
 ·unfold Dk
  split
  ·rename_i hW
   unfold Fi
   split
   ·rename_i hP
    refine Oj h fun x hx=>?_
    rcases Wl (show x∈(Cj c.graph (A8 c p.a).cells ((A8 c p.a).queue.getD 0 default)).1 from hx) with q|q
    ·exact .inl q
    refine .inr ?_;rw [q,hD.gr];exact (hD.q p.a.toNat (by have:=hW.2;omega) _ (At (d:=default) hP.2.2.2)).2
   rw [K4];exact h
  exact h
 split
 ·unfold D9
  split
  ·refine Oj h fun x hx=> .inl ?_
   unfold Df at hx
   split at hx<;>exact hx
  exact h
 split
 ·unfold C7
  split
  ·split
   ·exact Oj h fun x hx=> .inl hx
   split
   ·refine Oj (c:=Bi c _ _) h fun x hx=> .inl ?_
    unfold E5 at hx
    split at hx<;>exact hx
   exact h
  exact h
 split
 ·unfold Ct
  split
  ·refine Oj (c:=Bi c _ _) h fun x hx=> .inl ?_
   unfold D0 at hx
   split at hx<;>exact hx
  exact h
 split
 ·unfold D4;split<;>exact h
 have same:∀c':A3,Mt c c'→Lp c':=fun c' hS i hi x hx=>by
  rw [hS.1];rw [(hS.2.2.2 i).2.2.2] at hx;exact h i (by rw [←hS.2.2.1];exact hi) x hx
 split
 ·exact same _ (U7 c p.a)
 split
 ·exact same _ (Xb c p.a)
 exact h
theorem B4m {c:A3}{w:Int}{e:Int}{v:Ab}(hw:0≤w∧w<c.workers.length)(hv:Dl (A8 c w) e=true→Dl v e=true){i:Nat}(h:Dl (wk c i) e=true):Dl (wk (Av c w v) i) e=true:=by
 rw [Mq hw]
 split
 ·rename_i ei
  subst ei;exact hv h
 exact h
theorem A4v {g:Ah}{cs:List Ae}{r:Aa}(h:∀x∈cs,∀y∈cs,(Ac g x.op).kind=8→x.op=y.op∧x.epoch=y.epoch∧x.key=y.key→x=y):
  ∀x∈(Cj g cs r).1,∀y∈(Cj g cs r).1,(Ac g x.op).kind=8→x.op=y.op∧x.epoch=y.epoch∧x.key=y.key→x=y:=by
 intro x hx y hy h8 hs
 rcases Ks (g:=g) (cs:=cs) (r:=r) with q|q
 ·rw [q] at hx hy;exact h x hx y hy h8 hs
 rw [q] at hx hy
 by_cases hk:(Ac g r.op).kind=5∨(Ac g r.op).kind=8
 ·have e:(Bs (Ac g r.op).kind cs (Co r))=Ei cs (Co r):=if_pos hk
  rw [e] at hx hy
  by_cases hn:Hb cs (Co r)
  ·unfold Ei at hx hy
   rw [if_pos hn] at hx hy;exact h x hx y hy h8 hs
  rcases (Lc hn).1 hx with ⟨x1,x2⟩|rfl<;>rcases (Lc hn).1 hy with ⟨y1,y2⟩|rfl
  ·exact h x x1 y y1 h8 hs
  ·exact absurd ⟨hs.1.symm,hs.2.1.symm,hs.2.2.symm⟩ x2
  ·exact absurd hs y2
  rfl
 have hsub:∀z,z∈(Bs (Ac g r.op).kind cs (Co r)).1→(Ac g z.op).kind=8→z∈cs:=fun z hz hz8=>by
  rcases A11 hz with q|rfl
  ·exact q
  exact absurd (.inr hz8) hk
 exact h x (hsub x hx h8) y (hsub y hy (by rw [←hs.1];exact h8)) h8 hs
theorem B9i {g:Ah}{cs:List Ae}{r:Aa}{x:Ae}(hx:x∈cs):∃y∈(Cj g cs r).1,(y.op=x.op∧y.epoch=x.epoch∧y.key=x.key)∧y.val≤x.val:=by
 rcases Ks (g:=g) (cs:=cs) (r:=r) with q|q
 ·rw [q];exact ⟨x,hx,⟨rfl,rfl,rfl⟩,Int.le_refl _⟩
 rw [q]
 by_cases hk:(Ac g r.op).kind=5∨(Ac g r.op).kind=8
 ·have e:(Bs (Ac g r.op).kind cs (Co r))=Ei cs (Co r):=if_pos hk
  rw [e];exact Fh.1 (Tk (Fh.2 ⟨x,hx,⟨rfl,rfl,rfl⟩,Int.le_refl _⟩))
 refine ⟨x,?_,⟨rfl,rfl,rfl⟩,Int.le_refl _⟩;unfold Bs;rw [if_neg hk]
 split
 ·split
  ·exact hx
  exact J2.2 (.inl hx)
 exact hx
theorem A6l {k:Int}{cs:List Ae}{x:Ae}(h:(Bs k cs x).2=false):(Bs k cs x).1=cs∧∃y∈cs,(y.op=x.op∧y.epoch=x.epoch∧y.key=x.key)∧y.val≤x.val:=by
 unfold Bs at *
 split at h
 ·rename_i hk
  rw [if_pos hk];unfold Ei at *
  split at h
  ·rename_i hn
   rw [if_pos hn];exact ⟨rfl,Fh.1 hn⟩
  cases h
 rename_i hk
 rw [if_neg hk]
 split at h
 ·rename_i h6
  rw [if_pos h6]
  split at h
  ·rename_i hh
   rw [if_pos hh];exact ⟨rfl,x,R5.1 hh,⟨rfl,rfl,rfl⟩,Int.le_refl _⟩
  cases h
 cases h
theorem B1r {cs:List Ae}{x:Ae}(h:(Bs 8 cs x).2=true):x∈(Bs 8 cs x).1:=by
 unfold Bs at *;rw [if_pos (.inr rfl)] at *;unfold Ei at *
 split at h
 ·cases h
 rename_i hn
 rw [if_neg hn];exact J2.2 (.inr rfl)
theorem B9y {g:Ah}{a b:Int}{ins:List Aa}{e:Int}{c:A3}{w:Int}{H:Int→Int→Int→Prop}(hC:B7 c)(hD:Lq g a b ins c)(hO:Lp c)(h:Og g ins e c H)(he:0≤e∧e≤3):∃H',Og g ins e (Dk c w).1 H':=by
 unfold Dk
 split
 case isFalse=>exact ⟨H,h⟩
 rename_i hW
 unfold Fi
 split
 case isFalse=>
  refine ⟨H,?_⟩;rw [K4];exact h
 rename_i hP
 obtain ⟨_,hwp,hst,hql⟩:=hP;have hi:w.toNat<c.workers.length:=by have:=hW.2;omega
 have hg:=h.gr;have hgP:Ea g:=by rw [←hg];exact hC.1.1
 have hrq:=hD.q w.toNat hi _ (At (d:=default) hql);have hro:=hwp.1.1 _ (At (d:=default) hql);have hmem:=fun q=>Rd hql q
 generalize hr:(A8 c w).queue.getD 0 default=r at *;have hr':(wk c w.toNat).queue.getD 0 default=r:=hr;rw [hr'] at hrq;have hSP:Kb g r:=⟨hgP,hro.1,by rw [←hg];exact hro.2⟩;have hst0:(A8 c w).staged=[]:=List.eq_nil_of_length_eq_zero hst;generalize hv:F9 c.graph (A8 c w)=v;have vq:v.queue=(A8 c w).queue.drop 1:=by rw [←hv];rfl
 have vs:v.staged=(Cj g (A8 c w).cells r).2.1:=by rw [←hv,←hg];unfold F9;rw [hr]
 have vi:v.inputs=(A8 c w).inputs:=by rw [←hv];rfl
 have vc:v.cells=(Cj g (A8 c w).cells r).1:=by rw [←hv,←hg];unfold F9;rw [hr]
 have vk:v.caps=if capped g r=true then (A8 c w).caps.set r.stamp.epoch.toNat true else (A8 c w).caps:=by rw [←hv,←hg];unfold F9;rw [hr]
 show ∃H',Og g ins e (Av c w v) H'
 have hlen:(Av c w v).workers.length=c.workers.length:=by simp only [Av,List.length_set]
 have hcm:∀i,Dl (wk c i) e=true→Dl (wk (Av c w v) i) e=true:=fun i q=>B4m hW.2 (fun q'=>by
  unfold Dl at q' ⊢;rw [vk]
  split
  ·rw [Ep]
   split
   ·rfl
   exact q'
  exact q') q
 have hwk:=fun i=>Mq (v:=v) hW.2 i
 have hold:∀q,Im c q→q≠r→Im (Av c w v) q:=fun q hq hne=>by
  rw [Lz hW.2,vq,vs,vi];rw [Q2 hW.2,hmem q,hst0] at hq
  rcases hq with ((q1|q1)|q1|q1)|q1|q1
  ·exact absurd q1 hne
  ·exact .inl (.inl q1)
  ·cases q1
  ·exact .inl (.inr (.inr q1))
  ·exact .inr (.inl q1)
  exact .inr (.inr q1)
 have hnew:∀q∈(Cj g (A8 c w).cells r).2.1,Im (Av c w v) q:=fun q hq=>by
  rw [Lz hW.2,vq,vs,vi];exact .inl (.inr (.inl hq))
 have hback:∀q,Im (Av c w v) q→Im c q∨q∈(Cj g (A8 c w).cells r).2.1:=fun q hq=>by
  rw [Lz hW.2,vq,vs,vi] at hq;rw [Q2 hW.2,hmem q]
  rcases hq with (q1|q1|q1)|q1|q1
  ·exact .inl (.inl (.inl (.inr q1)))
  ·exact .inr q1
  ·exact .inl (.inl (.inr (.inr q1)))
  ·exact .inl (.inr (.inl q1))
  exact .inl (.inr (.inr q1))
 have hcellback:∀i,∀x∈(wk (Av c w v) i).cells,x∈(wk c i).cells∨(i=w.toNat∧x=Co r):=fun i x hx=>by
  rw [hwk] at hx
  split at hx
  ·rename_i ei
   rw [vc] at hx
   rcases Wl hx with q|q
   ·rw [ei];exact .inl q
   exact .inr ⟨ei,q⟩
  exact .inl hx
 by_cases hre:r.stamp.epoch=e
 case neg=>
  have hPH:∀op k vv,PH (Av c w v) e H op k vv↔PH c e H op k vv:=fun op k vv=>by
   unfold PH;refine or_congr ?_ Iff.rfl
   constructor
   ·rintro ⟨q,hq,h1,h2,h3,h4⟩
    rcases hback q hq with q1|q1
    ·exact ⟨q,q1,h1,h2,h3,h4⟩
    exact absurd ((W4 q1).symm.trans h2) hre
   rintro ⟨q,hq,h1,h2,h3,h4⟩
   exact ⟨q,hold q hq (fun e0=>hre (by rw [←e0];exact h2)),h1,h2,h3,h4⟩
  have hkeep:∀i,∀x∈(wk c i).cells,i<c.workers.length→x.epoch=e→x∈(wk (Av c w v) i).cells:=fun i x hx _ hxe=>by
   rw [hwk]
   split
   ·rename_i ei
    rw [vc]
    rcases Ks (g:=g) (cs:=(A8 c w).cells) (r:=r) with q|q
    ·rw [q];rw [ei] at hx;exact hx
    rw [q];rw [ei] at hx;have hx:x∈(A8 c w).cells:=hx;unfold Bs
    split
    ·unfold Ei
     split
     ·exact hx
     refine J2.2 (.inl (List.mem_filter.2 ⟨hx,?_⟩));unfold Bq
     have:(Co r).epoch≠x.epoch:=by rw [hxe];exact hre
     simp [this]
    split
    ·split
     ·exact hx
     exact J2.2 (.inl hx)
    exact hx
   exact hx
  refine ⟨H,h.gr,fun r' hr' he'=>?_,fun op k vv k' hH ho hk hgo=>?_,fun op k vv hh=>h.sound op k vv ((hPH _ _ _).1 hh),fun i hi' x hx hxe=>?_,fun op k vv hH h8=>?_,fun i hi' x hx y hy h8 hs=>?_⟩
  ·obtain ⟨vv,h1,h2⟩:=h.inp r' hr' he'
   exact ⟨vv,h1,(hPH _ _ _).2 h2⟩
  ·rcases h.nxt op k vv k' hH ho hk hgo with ⟨v',h1,h2⟩|⟨i,hi',hcap⟩
   ·exact .inl ⟨v',h1,(hPH _ _ _).2 h2⟩
   exact .inr ⟨i,by omega,hcm i hcap⟩
  ·rcases hcellback i x hx with q|⟨_,q⟩
   ·exact h.cell i Ad x q hxe
   rw [q] at hxe;exact absurd hxe hre
  ·obtain ⟨i,hi',x,hx,q1,q2,q3⟩:=h.out op k vv hH h8
   exact ⟨i,by omega,x,hkeep i x hx hi' q2,q1,q2,q3⟩
  rw [hwk] at hx hy
  split at hx
  ·rename_i ei
   rw [if_pos ei] at hy;rw [vc] at hx hy;exact A4v (h.uniq w.toNat hi) x hx y hy h8 hs
  rename_i ei
  rw [if_neg ei] at hy;exact h.uniq i Ad x hx y hy h8 hs
 case pos=>
  have hcells0:∀i,(wk (Av c w v) i).cells=if i=w.toNat then (Cj g (A8 c w).cells r).1 else (wk c i).cells:=fun i=>by
   rw [hwk]
   split
   ·exact vc
   rfl
  have hout:∀op k vv,(∃i,i<c.workers.length∧∃x∈(wk c i).cells,x.op=op∧x.epoch=e∧x.key=k∧x.val≤vv)→∃i,i<(Av c w v).workers.length∧∃x∈(wk (Av c w v) i).cells,x.op=op∧x.epoch=e∧x.key=k∧x.val≤vv:=by
   rintro op k vv ⟨i,hi',x,hx,q1,q2,q3,q4⟩
   refine ⟨i,by omega,?_⟩;rw [hcells0]
   split
   ·rename_i ei
    rw [ei] at hx;obtain ⟨y,hy,s,hyv⟩:=B9i (g:=g) (r:=r) (show x∈(A8 c w).cells from hx)
    exact ⟨y,hy,by omega,by omega,by omega,by omega⟩
   exact ⟨x,hx,q1,q2,q3,q4⟩
  have huniq:∀i,i<(Av c w v).workers.length→∀x∈(wk (Av c w v) i).cells,∀y∈(wk (Av c w v) i).cells,(Ac g x.op).kind=8→x.op=y.op∧x.epoch=y.epoch∧x.key=y.key→x=y:=fun i hi' x hx y hy h8 hs=>by
   rw [hcells0] at hx hy
   split at hx
   ·rename_i ei
    rw [if_pos ei] at hy;exact A4v (h.uniq w.toNat hi) x hx y hy h8 hs
   rename_i ei
   rw [if_neg ei] at hy;exact h.uniq i Ad x hx y hy h8 hs
  have hrD:Drv g ins e r.op r.key r.val:=h.sound _ _ _ (.inl ⟨r,by rw [Q2 hW.2,hmem r];exact .inl (.inl (.inl rfl)),rfl,hre,rfl,rfl⟩)
  by_cases hB:(Bs (Ac g r.op).kind (A8 c w).cells (Co r)).2=false∧¬ ((B9 (Ac g r.op) r.key r.val).2.2=false∧(Ac g r.op).kind≠8)
  ·
   obtain ⟨hB,hgo⟩:=hB
   have hs:Cj g (A8 c w).cells r=((Bs (Ac g r.op).kind (A8 c w).cells (Co r)).1,[],true):=by
    unfold Cj;rw [if_pos hSP,if_neg hgo,if_pos hB]
   obtain ⟨hb1,y,hy,hys,hyv⟩:=A6l hB
   have hHr:H r.op r.key y.val:=by
    have:=h.cell w.toNat hi y hy (hys.2.1.trans hre)
    rw [hys.1,hys.2.2] at this;exact this
   have hPH:∀op k vv,PH c e H op k vv→∃v',v'≤vv∧PH (Av c w v) e H op k v':=by
    rintro op k vv (⟨q,hq,h1,h2,h3,h4⟩|hH)
    ·by_cases e0:q=r
     ·subst e0
      exact ⟨y.val,by have:(Co q).val=q.val:=rfl;omega,.inr (by rw [←h1,←h3];exact hHr)⟩
     exact ⟨vv,Int.le_refl _,.inl ⟨q,hold q hq e0,h1,h2,h3,h4⟩⟩
    exact ⟨vv,Int.le_refl _,.inr hH⟩
   refine ⟨H,h.gr,fun r' hr' he'=>?_,fun op k vv k' hH ho hk hgo'=>?_,?_,fun i hi' x hx hxe=>?_,fun op k vv hH h8=>hout _ _ _ (h.out op k vv hH h8),huniq⟩
   ·obtain ⟨vv,h1,h2⟩:=h.inp r' hr' he'
    obtain ⟨v',g1,g2⟩:=hPH _ _ _ h2;exact ⟨v',Int.le_trans g1 h1,g2⟩
   ·rcases h.nxt op k vv k' hH ho hk hgo' with ⟨v',h1,h2⟩|⟨i,hi',hcap⟩
    ·obtain ⟨v'',g1,g2⟩:=hPH _ _ _ h2
     exact .inl ⟨v'',Int.le_trans g1 h1,g2⟩
    exact .inr ⟨i,by omega,hcm i hcap⟩
   ·rintro op k vv (⟨q,hq,h1,h2,h3,h4⟩|hH)
    ·rcases hback q hq with q1|q1
     ·exact h.sound _ _ _ (.inl ⟨q,q1,h1,h2,h3,h4⟩)
     rw [hs] at q1;cases q1
    exact h.sound _ _ _ (.inr hH)
   rw [hcells0] at hx
   split at hx
   ·rename_i ei
    rw [hs] at hx
    simp only at hx
    rw [hb1] at hx;rw [ei] at hi';exact h.cell w.toNat hi x hx hxe
   exact h.cell i Ad x hx hxe
  ·
   have hPH:∀op k vv,PH c e H op k vv→PH (Av c w v) e (fun op k vv=>H op k vv∨(op=r.op∧k=r.key∧vv=r.val)) op k vv:=by
    rintro op k vv (⟨q,hq,h1,h2,h3,h4⟩|hH)
    ·by_cases e0:q=r
     ·subst e0
      exact .inr (.inr ⟨h1.symm,h3.symm,h4.symm⟩)
     exact .inl ⟨q,hold q hq e0,h1,h2,h3,h4⟩
    exact .inr (.inl hH)
   refine ⟨fun op k vv=>H op k vv∨(op=r.op∧k=r.key∧vv=r.val),h.gr,fun r' hr' he'=>?_,fun op k vv k' hH ho hk hgo'=>?_,?_,fun i hi' x hx hxe=>?_,fun op k vv hH h8=>?_,huniq⟩
   ·obtain ⟨vv,h1,h2⟩:=h.inp r' hr' he'
    exact ⟨vv,h1,hPH _ _ _ h2⟩
   ·rcases hH with hH|⟨rfl,rfl,rfl⟩
    ·rcases h.nxt op k vv k' hH ho hk hgo' with ⟨v',h1,h2⟩|⟨i,hi',hcap⟩
     ·exact .inl ⟨v',h1,hPH _ _ _ h2⟩
     exact .inr ⟨i,by omega,hcm i hcap⟩
    have hgo:¬ ((B9 (Ac g r.op) r.key r.val).2.2=false∧(Ac g r.op).kind≠8):=fun q=>by rw [hgo'] at q;cases q.1
    have hrc:¬ (Bs (Ac g r.op).kind (A8 c w).cells (Co r)).2=false:=fun q=>hB ⟨q,hgo⟩
    have hs:(Cj g (A8 c w).cells r).2.1=Hj g r:=by
     unfold Cj;rw [if_pos hSP,if_neg hgo,if_neg hrc]
    by_cases h7:(Ac g r.op).kind=7∧(Ch r.stamp).2=false
    ·refine .inr ⟨w.toNat,by omega,?_⟩
     rw [hwk,if_pos rfl];unfold Dl;have hcp:capped g r=true:=decide_eq_true ⟨hSP,h7.1,List.length_pos_of_mem hk,h7.2⟩;rw [vk,if_pos hcp,hre,Ep,if_pos ⟨rfl,by have:=hwp.2.1.2.2;omega⟩]
    refine .inl ⟨_,Int.le_refl _,.inl ⟨_,hnew _ (by rw [hs];unfold Hj;rw [if_neg h7];exact List.mem_map.2 ⟨k',hk,rfl⟩),rfl,?_,rfl,rfl⟩⟩
    have:=R3 (g:=g) (r:=r) (show _∈Hj g r by unfold Hj;rw [if_neg h7];exact List.mem_map.2 ⟨k',hk,rfl⟩)
    exact this.trans hre
   ·rintro op k vv (⟨q,hq,h1,h2,h3,h4⟩|hH|⟨rfl,rfl,rfl⟩)
    ·rcases hback q hq with q1|q1
     ·exact h.sound _ _ _ (.inl ⟨q,q1,h1,h2,h3,h4⟩)
     obtain ⟨m0,m8⟩:=Ry q1;obtain ⟨m1,_,m3,m4,_⟩:=Jx m0
     have hgo:(B9 (Ac g r.op) r.key r.val).2.2=true:=by
      rcases m8 with m8|m8
      ·have:=(K1 hgP hSP.2.1.1.1 hSP.2.2).1.2.2.2.2.2.2.1 m8
       have h0:(Ac g r.op).outs=[]:=List.eq_nil_of_length_eq_zero this;rw [h0] at m1
       cases m1
      exact m8
     have:=Drv.step r.op r.key r.val q.op hrD ⟨hSP.2.1.1.1,hSP.2.2⟩ m1 hgo
     rw [←h1,←h3,←h4,m3,m4];exact this
    ·exact h.sound _ _ _ (.inr hH)
    exact hrD
   ·rw [hcells0] at hx
    split at hx
    ·rename_i ei
     rcases Wl hx with q|q
     ·exact .inl (h.cell w.toNat hi x q hxe)
     rw [q];exact .inr ⟨rfl,rfl,rfl⟩
    exact .inl (h.cell i Ad x hx hxe)
   rcases hH with hH|⟨rfl,rfl,rfl⟩
   ·exact hout _ _ _ (h.out op k vv hH h8)
   have hgo:¬ ((B9 (Ac g r.op) r.key r.val).2.2=false∧(Ac g r.op).kind≠8):=fun q=>q.2 h8
   have hrc:(Bs (Ac g r.op).kind (A8 c w).cells (Co r)).2=true:=by
    cases hb:(Bs (Ac g r.op).kind (A8 c w).cells (Co r)).2 with
    |true=>rfl
    |false=>exact absurd ⟨hb,hgo⟩ hB
   have hs:(Cj g (A8 c w).cells r).1=(Bs (Ac g r.op).kind (A8 c w).cells (Co r)).1:=by
    unfold Cj;rw [if_pos hSP,if_neg hgo,if_neg (by rw [hrc];decide)]
   refine ⟨w.toNat,by omega,Co r,?_,rfl,hre,rfl,Int.le_refl _⟩;rw [hcells0,if_pos rfl,hs];rw [h8] at hrc ⊢;exact B1r hrc
theorem A8z {c:A3}{e:Int}{H:Int→Int→Int→Prop}(hnp:∀q,Im c q→q.stamp.epoch≠e){op k v:Int}(h:PH c e H op k v):H op k v:=by
 rcases h with ⟨q,hq,_,h2,_⟩|h
 ·exact absurd h2 (hnp q hq)
 exact h
theorem A4j {g:Ah}{ins:List Aa}{e:Int}{c:A3}{H:Int→Int→Int→Prop}(h:Og g ins e c H)(hg:Ea g)(hi:Yj ins)(hnp:∀q,Im c q→q.stamp.epoch≠e)(hcap:∀i,i<c.workers.length→Dl (wk c i) e=false)
  {op k v:Int}(hd:Drv g ins e op k v):∃v',v'≤v∧H op k v':=by
 induction hd with
 |inp r hr he=>
  obtain ⟨v,h1,h2⟩:=h.inp r hr he;exact ⟨v,h1,A8z hnp h2⟩
 |step op k v k' hd ho hk hgo ih=>
  obtain ⟨v',h1,h2⟩:=ih;have h0:0≤v':=(Ur hg hi (h.sound op k v' (.inr h2))).2.1;obtain ⟨c1,c2,c3⟩:=Un hgo h0 h1
  rcases h.nxt op k v' k' h2 ho hk c3 with ⟨v'',g1,g2⟩|⟨i,hi',hc⟩
  ·rw [c1] at g2
   exact ⟨v'',Int.le_trans g1 c2,A8z hnp g2⟩
  rw [hcap i hi'] at hc;cases hc
def C4v (g:Ah) (ins:List Aa) (e:Int) (x:Ae):Prop:=x.epoch=e∧(0≤x.op∧x.op<g.nodes.length)∧(Ac g x.op).kind=8∧Drv g ins e x.op x.key x.val∧∀v,Drv g ins e x.op x.key v→x.val≤v
theorem A8s:∀(cs l:List Ae) (x:Ae),x∈cs.foldl Do l↔x∈l∨x∈cs
 | [],l,x=>by simp
 |c::cs,l,x=>by
  rw [List.foldl_cons,A8s cs,J2,List.mem_cons]
  constructor
  ·rintro ((h|h)|h)
   ·exact .inl h
   ·exact .inr (.inl h)
   exact .inr (.inr h)
  rintro (h|h|h)
  ·exact .inl (.inl h)
  ·exact .inl (.inr h)
  exact .inr h
theorem B3r:∀(cs l:List Ae),l.Pairwise Eh→(cs.foldl Do l).Pairwise Eh
 | [],_,h=>h
 |c::cs,l,h=>B3r cs _ (B1p h)
theorem A8q {c:A3}{x:Ae}:x∈En c↔∃i,i<c.workers.length∧x∈(wk c i).cells:=by
 have key:∀(ws:List Ab) (l:List Ae),x∈ws.foldl (fun l w=>w.cells.foldl Do l) l↔x∈l∨∃w∈ws,x∈w.cells:=by
  intro ws
  induction ws with
  |nil=>intro l;simp
  |cons w ws ih=>
   intro l;rw [List.foldl_cons,ih,A8s]
   constructor
   ·rintro ((h|h)|⟨v,hv,h⟩)
    ·exact .inl h
    ·exact .inr ⟨w,List.mem_cons_self ..,h⟩
    exact .inr ⟨v,List.mem_cons_of_mem _ hv,h⟩
   rintro (h|⟨v,hv,h⟩)
   ·exact .inl (.inl h)
   rcases List.mem_cons.1 hv with rfl|hv
   ·exact .inl (.inr h)
   exact .inr ⟨v,hv,h⟩
 unfold En;rw [key]
 constructor
 ·rintro (h|⟨w,hw,h⟩)
  ·cases h
  obtain ⟨i,hi,rfl⟩:=B1e hw;exact ⟨i,hi,h⟩
 rintro ⟨i,hi,h⟩
 exact .inr ⟨_,At hi,h⟩
theorem B0o (c:A3):(En c).Pairwise Eh:=by
 have key:∀(ws:List Ab) (l:List Ae),l.Pairwise Eh→(ws.foldl (fun l w=>w.cells.foldl Do l) l).Pairwise Eh:=by
  intro ws
  induction ws with
  |nil=>intro l h;exact h
  |cons w ws ih=>intro l h;exact ih _ (B3r _ _ h)
 exact key _ [] List.Pairwise.nil
theorem A8r {g:Ah}{l:List Ae}{x:Ae}:x∈Dn g l↔x∈l∧(0≤x.op∧x.op<g.nodes.length)∧(Ac g x.op).kind=8:=by
 unfold Dn;rw [List.mem_filter,decide_eq_true_eq]
theorem C2f {g:Ah}{ins:List Aa}{e:Int}{c:A3}{H:Int→Int→Int→Prop}(h:Og g ins e c H)(hg:Ea g)(hi:Yj ins)(hO:Lp c)(hnp:∀q,Im c q→q.stamp.epoch≠e)(hcap:∀i,i<c.workers.length→Dl (wk c i) e=false)(x:Ae):
  x∈It c e↔C4v g ins e x:=by
 have hm:x∈It c e↔(∃i,i<c.workers.length∧x∈(wk c i).cells)∧((0≤x.op∧x.op<g.nodes.length)∧(Ac g x.op).kind=8)∧x.epoch=e:=by
  unfold It;rw [List.mem_filter,A8r,A8q,h.gr,beq_iff_eq,and_assoc]
 rw [hm]
 constructor
 ·rintro ⟨⟨i,hi',hx⟩,⟨ho,h8⟩,he⟩
  have hH:=h.cell i hi' x hx he;refine ⟨he,ho,h8,h.sound _ _ _ (.inr hH),fun v hv=>?_⟩;obtain ⟨v',h1,h2⟩:=A4j h hg hi hnp hcap hv;obtain ⟨j,hj,y,hy,q1,q2,q3,q4⟩:=h.out _ _ _ h2 h8;have o1:=hO i hi' x hx;have o2:=hO j hj y hy;rw [q3,o1] at o2;have hij:i=j:=by omega
  subst hij
  have:=h.uniq i hi' x hx y hy h8 ⟨q1.symm,by omega,q3.symm⟩
  rw [this];omega
 rintro ⟨he,ho,h8,hd,hmin⟩
 obtain ⟨v',h1,h2⟩:=A4j h hg hi hnp hcap hd;obtain ⟨j,hj,y,hy,q1,q2,q3,q4⟩:=h.out _ _ _ h2 h8;have hyd:=h.sound _ _ _ (.inr (h.cell j hj y hy q2));rw [q1,q3] at hyd
 have:=hmin _ hyd
 have hxy:x=y:=by
  obtain ⟨x1,x2,x3,x4⟩:=x;obtain ⟨y1,y2,y3,y4⟩:=y;simp only [Ae.mk.injEq] at *;omega
 rw [hxy] at ho h8 he ⊢;exact ⟨⟨j,hj,hy⟩,⟨ho,h8⟩,he⟩
theorem A82 (c:A3)(e:Int):(It c e).Pairwise Eh:=((B0o c).sublist List.filter_sublist).sublist List.filter_sublist
theorem B9s:∀{a b:List Ae},a.Pairwise Eh→b.Pairwise Eh→(∀x,x∈a↔x∈b)→a=b
 | [],[],_,_,_=>rfl
 | [],y::b,_,_,h=>absurd ((h y).2 (List.mem_cons_self ..)) C8
 |x::a,[],_,_,h=>absurd ((h x).1 (List.mem_cons_self ..)) C8
 |x::a,y::b,ha,hb,h=>by
  obtain ⟨a1,a2⟩:=List.pairwise_cons.1 ha;obtain ⟨b1,b2⟩:=List.pairwise_cons.1 hb
  have hxy:x=y:=by
   rcases List.mem_cons.1 ((h x).1 (List.mem_cons_self ..)) with e|hx
   ·exact e
   rcases List.mem_cons.1 ((h y).2 (List.mem_cons_self ..)) with e|hy
   ·exact e.symm
   exact absurd ((a1 y hy).trans (b1 x hx)) Eh.irr
  subst hxy;refine congrArg (x:: ·) (B9s a2 b2 fun z=>?_)
  constructor
  ·intro hz
   rcases List.mem_cons.1 ((h z).1 (List.mem_cons_of_mem _ hz)) with e|q
   ·subst e;exact absurd (a1 z hz) Eh.irr
   exact q
  intro hz
  rcases List.mem_cons.1 ((h z).2 (List.mem_cons_of_mem _ hz)) with e|q
  ·subst e;exact absurd (b1 z hz) Eh.irr
  exact q
structure Sp (g:Ah) (ins:List Aa) (e:Int) (best list:List Ae):Prop where
 a:∀x,x∈best∨x∈list→x.epoch=e∧(0≤x.op∧x.op<g.nodes.length)∧Drv g ins e x.op x.key x.val
 b:∀y∈best,∀k∈(Ac g y.op).outs,(B9 (Ac g y.op) y.key y.val).2.2=true→∃z,(z∈best∨z∈list)∧z.op=k∧z.key=(B9 (Ac g y.op) y.key y.val).1∧z.val≤(B9 (Ac g y.op) y.key y.val).2.1
 c:∀r∈ins,r.stamp.epoch=e→∃z,(z∈best∨z∈list)∧z.op=0∧z.key=r.key∧z.val≤r.val
 d:∀x∈best,∀y∈best,x.op=y.op∧x.epoch=y.epoch∧x.key=y.key→x=y
 s:best.Pairwise Eh
theorem B74 {g:Ah}{ins:List Aa}{e:Int}{best list:List Ae}{x:Ae}(hg:Ea g)(hi:Yj ins)(he:0≤e∧e≤3)(h:Sp g ins e best (x::list)):Sp g ins e (Fb g best x).1 (list++(Fb g best x).2):=by
 obtain ⟨hx1,hx2,hx3⟩:=h.a x (.inr (List.mem_cons_self ..));have hP:A7d g x:=⟨hx2,hg,by rw [hx1];exact he,Ur hg hi hx3⟩;unfold Fb;rw [if_pos hP]
 split
 ·rename_i hn
  rw [List.append_nil];obtain ⟨y,hy,hs,hv⟩:=Fh.1 hn
  have mv:∀z,(z∈best∨z∈x::list)→∃z',(z'∈best∨z'∈list)∧z'.op=z.op∧z'.key=z.key∧z'.val≤z.val:=fun z hz=>by
   rcases hz with hz|hz
   ·exact ⟨z,.inl hz,rfl,rfl,Int.le_refl _⟩
   rcases List.mem_cons.1 hz with rfl|hz
   ·exact ⟨y,.inl hy,hs.1,hs.2.2,hv⟩
   exact ⟨z,.inr hz,rfl,rfl,Int.le_refl _⟩
  refine ⟨fun z hz=>h.a z (hz.imp id (List.mem_cons_of_mem _)),fun y' hy' k hk hgo=>?_,fun r hr hre=>?_,h.d,h.s⟩
  ·obtain ⟨z,hz,z1,z2,z3⟩:=h.b y' hy' k hk hgo
   obtain ⟨z',w0,w1,w2,w3⟩:=mv z hz;exact ⟨z',w0,w1.trans z1,w2.trans z2,Int.le_trans w3 z3⟩
  obtain ⟨z,hz,z1,z2,z3⟩:=h.c r hr hre;obtain ⟨z',w0,w1,w2,w3⟩:=mv z hz;exact ⟨z',w0,w1.trans z1,w2.trans z2,Int.le_trans w3 z3⟩
 rename_i hn
 have hmb:=fun y=>Lc (y:=y) hn
 have hmo:∀z∈N5 g x,z.epoch=e∧(0≤z.op∧z.op<g.nodes.length)∧Drv g ins e z.op z.key z.val:=fun z hz=>by
  unfold N5 at hz
  split at hz
  ·rename_i hgo
   obtain ⟨k,hk,rfl⟩:=List.mem_map.1 hz;have hed:=(K1 hg hx2.1 hx2.2).2.2 k hk;have hk0:=(K1 hg hx2.1 hx2.2).1.2.2.2.2.2.2.2.2 k hk;exact ⟨hx1,⟨hk0.1,hed.1⟩,Drv.step x.op x.key x.val k hx3 hx2 hk hgo⟩
  cases hz
 have mv:∀z,(z∈best∨z∈x::list)→∃z',(z'∈(Ei best x).1∨z'∈list++N5 g x)∧z'.op=z.op∧z'.key=z.key∧z'.val≤z.val:=fun z hz=>by
  rcases hz with hz|hz
  ·by_cases hs:x.op=z.op∧x.epoch=z.epoch∧x.key=z.key
   ·refine ⟨x,.inl ((hmb x).2 (.inr rfl)),hs.1,hs.2.2,?_⟩
    by_cases hv:z.val≤x.val
    ·exact absurd (Fh.2 ⟨z,hz,⟨hs.1.symm,hs.2.1.symm,hs.2.2.symm⟩,hv⟩) hn
    omega
   exact ⟨z,.inl ((hmb z).2 (.inl ⟨hz,hs⟩)),rfl,rfl,Int.le_refl _⟩
  rcases List.mem_cons.1 hz with rfl|hz
  ·exact ⟨z,.inl ((hmb z).2 (.inr rfl)),rfl,rfl,Int.le_refl _⟩
  exact ⟨z,.inr (List.mem_append_left _ hz),rfl,rfl,Int.le_refl _⟩
 refine ⟨fun z hz=>?_,fun y' hy' k hk hgo=>?_,fun r hr hre=>?_,fun u hu v hv hs=>?_,A3o h.s⟩
 ·rcases hz with hz|hz
  ·rcases (hmb z).1 hz with ⟨hz,_⟩|rfl
   ·exact h.a z (.inl hz)
   exact ⟨hx1,hx2,hx3⟩
  rcases List.mem_append.1 hz with hz|hz
  ·exact h.a z (.inr (List.mem_cons_of_mem _ hz))
  exact hmo z hz
 ·rcases (hmb y').1 hy' with ⟨hy',_⟩|rfl
  ·obtain ⟨z,hz,z1,z2,z3⟩:=h.b y' hy' k hk hgo
   obtain ⟨z',w0,w1,w2,w3⟩:=mv z hz;exact ⟨z',w0,w1.trans z1,w2.trans z2,Int.le_trans w3 z3⟩
  refine ⟨⟨k,y'.epoch,(B9 (Ac g y'.op) y'.key y'.val).1,(B9 (Ac g y'.op) y'.key y'.val).2.1⟩,.inr (List.mem_append_right _ ?_),rfl,rfl,Int.le_refl _⟩;unfold N5;rw [if_pos hgo];exact List.mem_map.2 ⟨k,hk,rfl⟩
 ·obtain ⟨z,hz,z1,z2,z3⟩:=h.c r hr hre
  obtain ⟨z',w0,w1,w2,w3⟩:=mv z hz;exact ⟨z',w0,w1.trans z1,w2.trans z2,Int.le_trans w3 z3⟩
 rcases (hmb u).1 hu with ⟨hu,hu2⟩|rfl<;>rcases (hmb v).1 hv with ⟨hv,hv2⟩|rfl
 ·exact h.d u hu v hv hs
 ·exact absurd ⟨hs.1.symm,hs.2.1.symm,hs.2.2.symm⟩ hu2
 ·exact absurd hs hv2
 rfl
theorem A3y {g:Ah}{ins:List Aa}{e:Int}{best:List Ae}(hg:Ea g)(hi:Yj ins)(h:Sp g ins e best []){op k v:Int}(hd:Drv g ins e op k v):∃z∈best,z.op=op∧z.key=k∧z.val≤v:=by
 induction hd with
 |inp r hr he=>
  obtain ⟨z,hz|hz,q⟩:=h.c r hr he
  ·exact ⟨z,hz,q⟩
  cases hz
 |step op k v k' hd ho hk hgo ih=>
  obtain ⟨z,hz,z1,z2,z3⟩:=ih;have h0:0≤z.val:=(Ur hg hi (h.a z (.inl hz)).2.2).2.1;obtain ⟨c1,c2,c3⟩:=Un hgo h0 z3;rw [←z1] at hk;rw [←z1,←z2] at c3;obtain ⟨u,hu|hu,u1,u2,u3⟩:=h.b z hz k' hk c3
  ·rw [z1,z2] at u2 u3
   exact ⟨u,hu,u1,u2.trans c1,Int.le_trans u3 c2⟩
  cases hu
theorem C1c {g:Ah}{ins:List Aa}{e:Int}{best:List Ae}(hg:Ea g)(hi:Yj ins)(h:Sp g ins e best [])(x:Ae):x∈Dn g best↔C4v g ins e x:=by
 rw [A8r]
 constructor
 ·rintro ⟨hx,ho,h8⟩
  obtain ⟨x1,x2,x3⟩:=h.a x (.inl hx);refine ⟨x1,ho,h8,x3,fun v hv=>?_⟩;obtain ⟨z,hz,z1,z2,z3⟩:=A3y hg hi h hv;have hze:=(h.a z (.inl hz)).1;rw [h.d x hx z hz ⟨z1.symm,x1.trans hze.symm,z2.symm⟩];exact z3
 rintro ⟨he,ho,h8,hd,hmin⟩
 obtain ⟨z,hz,z1,z2,z3⟩:=A3y hg hi h hd;obtain ⟨y1,y2,y3⟩:=h.a z (.inl hz);rw [z1,z2] at y3
 have:=hmin _ y3
 have hxz:x=z:=by
  obtain ⟨x1,x2,x3,x4⟩:=x;obtain ⟨z1',z2',z3',z4'⟩:=z;simp only [Ae.mk.injEq] at *;omega
 rw [hxz] at ho h8 ⊢;exact ⟨hz,ho,h8⟩
theorem C2e {g:Ah}{ins:List Aa}{e:Int}{c:A3}{H:Int→Int→Int→Prop}{best:List Ae}(h:Og g ins e c H)(hg:Ea g)(hi:Yj ins)(hO:Lp c)(hnp:∀q,Im c q→q.stamp.epoch≠e)(hcap:∀i,i<c.workers.length→Dl (wk c i) e=false)
  (hF:Sp g ins e best []):It c e=Dn g best:=
 B9s (A82 c e) (hF.s.sublist List.filter_sublist) fun x=>(C2f h hg hi hO hnp hcap x).trans (C1c hg hi hF x).symm
def Of (e:Int) (ins:List Aa):List Ae:=(ins.filter fun r=>r.stamp.epoch==e&&Ev r).map fun r=>⟨0,e,r.key,r.val⟩
theorem A91 {e:Int}{ins:List Aa}{k:Nat}(h:k<ins.length):Of e (ins.take (k+1))=Of e (ins.take k)++(if ((ins.getD k default).stamp.epoch==e&&Ev (ins.getD k default))=true then [⟨0,e,(ins.getD k default).key,(ins.getD k default).val⟩] else []):=by
 have:ins.take (k+1)=ins.take k++[ins.getD k default]:=by
  rw [List.take_succ_eq_append_getElem h]
  simp [List.getD,h]
 unfold Of;rw [this,List.filter_append,List.map_append]
 congr 1
 simp only [List.filter_cons,List.filter_nil]
 split<;>rfl
theorem A2l (e:Int)(ins:List Aa):(Of e ins).length≤ins.length:=by
 unfold Of;rw [List.length_map];exact List.length_filter_le _ _
theorem B6c {g:Ah}{ins:List Aa}{e:Int}(hg:Ea g)(hi:Yj ins):Sp g ins e [] (Of e ins):=by
 refine ⟨fun x hx=>?_,fun y hy=>(by cases hy),fun r hr hre=>?_,fun x hx=>(by cases hx),List.Pairwise.nil⟩
 ·rcases hx with hx|hx
  ·cases hx
  obtain ⟨r,hr,rfl⟩:=List.mem_map.1 hx;obtain ⟨hr,hre⟩:=List.mem_filter.1 hr;rw [Bool.and_eq_true] at hre
  have:=hg.1.1
  exact ⟨rfl,⟨Int.le_refl _,by show (0:Int)<_;omega⟩,Drv.inp r hr (eq_of_beq hre.1)⟩
 refine ⟨⟨0,e,r.key,r.val⟩,.inr (List.mem_map.2 ⟨r,List.mem_filter.2 ⟨hr,?_⟩,rfl⟩),rfl,rfl,Int.le_refl _⟩;rw [Bool.and_eq_true];exact ⟨by rw [hre];exact beq_self_eq_true _,decide_eq_true (hi r hr).1⟩
def B63 (e:Int):List Ae:=(List.range 800000).map fun (i:Nat)=>⟨((i / 100000:Nat):Int),e,((i / 1000 % 100:Nat):Int),((i % 1000:Nat):Int)⟩
theorem B64 {e:Int}{x:Ae}(he:x.epoch=e)(ho:0≤x.op∧x.op≤7)(hk:Ky x.key x.val):x∈B63 e:=by
 obtain ⟨⟨k0,k1⟩,v0,v1⟩:=hk;refine List.mem_map.2 ⟨x.op.toNat * 100000+x.key.toNat * 1000+x.val.toNat,List.mem_range.2 Ad,?_⟩;obtain ⟨a,b,c,d⟩:=x;simp only [Ae.mk.injEq] at *;omega
def unc (e:Int) (best:List Ae):Nat:=((B63 e).filter fun x=>!M8 5 best x).length
theorem C4k (e:Int)(best:List Ae):unc e best≤800000:=by
 have h1:unc e best≤(B63 e).length:=List.length_filter_le _ _;have h2:(B63 e).length=800000:=by unfold B63;rw [List.length_map,List.length_range]
 omega
theorem C3t {g:Ah}{ins:List Aa}{e:Int}{best list:List Ae}{x:Ae}(hg:Ea g)(hi:Yj ins)(h:Sp g ins e best (x::list)):
  3 * unc e (Fb g best x).1+(list++(Fb g best x).2).length<3 * unc e best+(x::list).length∧(Fb g best x).1.length+unc e (Fb g best x).1≤best.length+unc e best:=by
 obtain ⟨hx1,hx2,hx3⟩:=h.a x (.inr (List.mem_cons_self ..));unfold Fb
 split
 ·rename_i hP
  split
  ·simp only [List.append_nil,List.length_cons]
   omega
  rename_i hn
  have hu:unc e (Ei best x).1+1≤unc e best:=by
   unfold unc;refine Tq _ _ _ (fun y _ hy=>?_) ⟨x,B64 hx1 ⟨hx2.1,by have:=hg.1.2;omega⟩ (Ur hg hi hx3),?_,?_⟩
   ·cases hc:M8 5 best y with
    |false=>rfl
    |true=>
     have:=Ok.2 (Tk (y:=x) (Ok.1 hc))
     rw [this] at hy
     cases hy
   ·cases hc:M8 5 best x with
    |false=>rfl
    |true=>exact absurd (Ok.1 hc) hn
   rw [Ok.2 Xm];rfl
  have hm:=B1f (g:=g) (x:=x);have ho:=(K1 hg hx2.1 hx2.2).1.2.2.2.2.2.1
  have hb:(Ei best x).1.length≤best.length+1:=by
   unfold Ei;rw [if_neg hn];have h1:=A6j (l:=best.filter fun y=>!Bq x y) (x:=x);have h2:=List.length_filter_le (fun y=>!Bq x y) best
   simp only
   omega
  have e2:(N5 g x).length≤2:=Nat.le_trans hm ho;simp only [List.length_append,List.length_cons];omega
 simp only [List.append_nil,List.length_cons];omega
def C48 (p:D7) (w:Int):Bool:=
 if p.kind==1 then p.a==w else if p.kind==2 then p.a==w else if p.kind==3 then p.a==w else if p.kind==7 then p.a==w
 else if p.kind==4 then (if p.a==w then true else p.b==w) else if p.kind==5 then (if p.a==w then true else p.b==w) else false
def C5w (xs:List D7) (w:Int):List D7:=xs.filter fun p=>!C48 p w
structure UI (n w e:Int) (c:A3):Prop where
 len:(c.workers.length:Int)=n
 done:Cv (A8 c 0) e=false
 tok:(A9 c e).going=true→w≤(A9 c e).at_
 rest:(A9 c e).going=false→(A9 c e).at_=0
 news:∀x∈c.news,x.epoch≠e
structure Nf (p:Prop):Prop where
 out:p
end Go.Proofs.YtdendlkeiaccpaaGreat
