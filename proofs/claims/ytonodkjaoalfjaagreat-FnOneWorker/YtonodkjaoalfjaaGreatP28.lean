/- Part 28 of the proof that each of the laws FnOneWorker returns true for every input. No conditions. -/
import Derived.Test.YtonodkjaoalfjaaGreatP26
import Derived.Test.YtonodkjaoalfjaaGreatP27

set_option linter.unusedSimpArgs false
set_option linter.unusedVariables false
set_option maxRecDepth 100000
namespace Go.Proofs.YtonodkjaoalfjaaGreat
open Go.Sx
inductive Drv (g:Ad) (ins:List A5) (e:Int):Int→Int→Int→Prop
 |inp (r:A5) (h:r∈ins) (he:r.stamp.epoch=e):Drv g ins e 0 r.key r.val
 |step (op k v k':Int) (h:Drv g ins e op k v) (ho:0≤op∧op<g.nodes.length) (hk:k'∈(A9 g op).outs) (hg:(As (A9 g op) k v).2.2=true):Drv g ins e k' (As (A9 g op) k v).1 (As (A9 g op) k v).2.1
def Uc (ins:List A5):Prop:=∀r∈ins,Ja r∧r.op=0∧r.stamp.turn=0
theorem Rn {g:Ad}{ins:List A5}{e op k v:Int}(hg:E7 g)(hi:Uc ins)(h:Drv g ins e op k v):Jd k v:=by
 induction h with
 |inp r hr he=>exact (hi r hr).1.2.2.2
 |step op k v k' h ho hk hgo ih=>exact Rj (Il hg ho.1 ho.2).1 ih
theorem Rk {x:Cb}{k v v':Int}(hg:(As x k v).2.2=true)(h0:0≤v')(h1:v'≤v):(As x k v').1=(As x k v).1∧(As x k v').2.1≤(As x k v).2.1∧(As x k v').2.2=true:=by
 unfold As at *
 split at hg
 ·rename_i hp
  have hp':Iw x∧Jd k v':=⟨hp.1,hp.2.1,h0,by have:=hp.2.2.2;omega⟩
  rw [if_pos hp,if_pos hp']
  split
  ·refine ⟨rfl,?_,rfl⟩
   show (if v'+x.a<999 then v'+x.a else 999)≤(if v+x.a<999 then v+x.a else 999)
   split<;>split<;>omega
  ·rename_i h2
   rw [if_neg h2] at hg
   split
   ·exact ⟨rfl,h1,rfl⟩
   ·rename_i h4
    rw [if_neg h4] at hg
    split
    ·rename_i h3
     rw [if_pos h3] at hg
     exact ⟨rfl,h1,hg⟩
    ·rename_i h3
     rw [if_neg h3] at hg
     exact ⟨rfl,h1,hg⟩
 ·cases hg
def H7 (c:A3) (q:A5):Prop:=(∃i,i<c.workers.length∧(q∈(wk c i).queue∨q∈(wk c i).staged∨q∈(wk c i).inputs))∨∃j,j<c.links.length∧q∈(c.links.getD j default).queue
def PH (c:A3) (e:Int) (H:Int→Int→Int→Prop) (op k v:Int):Prop:=(∃q,H7 c q∧q.op=op∧q.stamp.epoch=e∧q.key=k∧q.val=v)∨H op k v
structure Mw (g:Ad) (ins:List A5) (e:Int) (c:A3) (H:Int→Int→Int→Prop):Prop where
 gr:c.graph=g
 inp:∀r∈ins,r.stamp.epoch=e→∃v,v≤r.val∧PH c e H 0 r.key v
 nxt:∀op k v k',H op k v→0≤op∧op<g.nodes.length→k'∈(A9 g op).outs→(As (A9 g op) k v).2.2=true→(∃v',v'≤(As (A9 g op) k v).2.1∧PH c e H k' (As (A9 g op) k v).1 v')∨∃i,i<c.workers.length∧Ck (wk c i) e=true
 sound:∀op k v,PH c e H op k v→Drv g ins e op k v
 cell:∀i,i<c.workers.length→∀x∈(wk c i).cells,x.epoch=e→H x.op x.key x.val
 out:∀op k v,H op k v→(A9 g op).kind=8→∃i,i<c.workers.length∧∃x∈(wk c i).cells,x.op=op∧x.epoch=e∧x.key=k∧x.val≤v
 uniq:∀i,i<c.workers.length→∀x∈(wk c i).cells,∀y∈(wk c i).cells,(A9 g x.op).kind=8→x.op=y.op∧x.epoch=y.epoch∧x.key=y.key→x=y
theorem Mw.moved {g:Ad}{ins:List A5}{e:Int}{c c':A3}{H:Int→Int→Int→Prop}(h:Mw g ins e c H)(hg:c'.graph=c.graph)(hl:c'.workers.length=c.workers.length)(hp:∀q,H7 c' q↔H7 c q)
  (hc:∀i,(wk c' i).cells=(wk c i).cells∧Ck (wk c' i) e=Ck (wk c i) e):Mw g ins e c' H:=by
 have hPH:∀op k v,PH c' e H op k v↔PH c e H op k v:=fun op k v=>by unfold PH;simp only [hp]
 refine ⟨by rw [hg];exact h.gr,fun r hr he=>?_,fun op k v k' hH ho hk hgo=>?_,fun op k v hv=>?_,fun i hi x hx=>?_,fun op k v hH h8=>?_,fun i hi x hx y hy=>?_⟩
 ·obtain ⟨v,h1,h2⟩:=h.inp r hr he
  exact ⟨v,h1,(hPH _ _ _).2 h2⟩
 ·rcases h.nxt op k v k' hH ho hk hgo with ⟨v',h1,h2⟩|⟨i,hi,hcap⟩
  ·exact .inl ⟨v',h1,(hPH _ _ _).2 h2⟩
  ·exact .inr ⟨i,by omega,by rw [(hc i).2];exact hcap⟩
 ·exact h.sound op k v ((hPH _ _ _).1 hv)
 ·rw [(hc i).1] at hx
  exact h.cell i Ac x hx
 ·obtain ⟨i,hi,x,hx,q⟩:=h.out op k v hH h8
  exact ⟨i,by omega,x,by rw [(hc i).1];exact hx,q⟩
 ·rw [(hc i).1] at hx hy
  exact h.uniq i Ac x hx y hy
theorem Kq {c:A3}{w:Int}{v:Ab}(h:0≤w∧w<c.workers.length)(i:Nat):wk (Av c w v) i=if i=w.toNat then v else wk c i:=Ey rfl Ac
theorem K3 {c:A3}{w:Int}{v:Ab}(h:0≤w∧w<c.workers.length)(q:A5):H7 (Av c w v) q↔(q∈v.queue∨q∈v.staged∨q∈v.inputs)∨(∃i,i<c.workers.length∧i≠w.toNat∧(q∈(wk c i).queue∨q∈(wk c i).staged∨q∈(wk c i).inputs))∨∃j,j<c.links.length∧q∈(c.links.getD j default).queue:=by
 have hlen:(Av c w v).workers.length=c.workers.length:=by simp only [Av,List.length_set]
 unfold H7
 rw [hlen]
 constructor
 ·rintro (⟨i,hi,hq⟩|hj)
  ·rw [Kq h] at hq
   by_cases e:i=w.toNat
   ·rw [if_pos e] at hq;exact .inl hq
   ·rw [if_neg e] at hq;exact .inr (.inl ⟨i,hi,e,hq⟩)
  ·exact .inr (.inr hj)
 ·rintro (hq|⟨i,hi,e,hq⟩|hj)
  ·exact .inl ⟨w.toNat,by omega,by rw [Kq h,if_pos rfl];exact hq⟩
  ·exact .inl ⟨i,hi,by rw [Kq h,if_neg e];exact hq⟩
  ·exact .inr hj
theorem Nt {c:A3}{w:Int}(h:0≤w∧w<c.workers.length)(q:A5):H7 c q↔(q∈(A6 c w).queue∨q∈(A6 c w).staged∨q∈(A6 c w).inputs)∨(∃i,i<c.workers.length∧i≠w.toNat∧(q∈(wk c i).queue∨q∈(wk c i).staged∨q∈(wk c i).inputs))∨∃j,j<c.links.length∧q∈(c.links.getD j default).queue:=by
 have:=K3 (v:=A6 c w) h q
 rw [Gr] at this
 exact this
theorem P3 {α:Type} [Inhabited α] {l:List α}(h:0<l.length)(q:α):q∈l↔q=l.getD 0 default∨q∈l.drop 1:=by
 cases l with
 |nil=>cases h
 |cons x l=>simp
theorem B4u {c:A3}{k:Int}{l:C2}(h:0≤k∧k<c.links.length)(q:A5):H7 (B6 c k l) q↔(∃i,i<c.workers.length∧(q∈(wk c i).queue∨q∈(wk c i).staged∨q∈(wk c i).inputs))∨q∈l.queue∨∃j,j<c.links.length∧j≠k.toNat∧q∈(c.links.getD j default).queue:=by
 unfold H7
 refine or_congr Iff.rfl ?_
 have hlen:(B6 c k l).links.length=c.links.length:=by simp only [B6,List.length_set]
 rw [hlen]
 have hg:∀j,(B6 c k l).links.getD j default=if j=k.toNat then l else c.links.getD j default:=fun j=>by
  unfold B6
  simp only
  rw [Dr]
  by_cases e:j=k.toNat
  ·rw [if_pos ⟨e,by omega⟩,if_pos e]
  ·rw [if_neg (fun q=>e q.1),if_neg e]
 constructor
 ·rintro ⟨j,hj,hq⟩
  rw [hg] at hq
  by_cases e:j=k.toNat
  ·rw [if_pos e] at hq;exact .inl hq
  ·rw [if_neg e] at hq;exact .inr ⟨j,hj,e,hq⟩
 ·rintro (hq|⟨j,hj,e,hq⟩)
  ·exact ⟨k.toNat,by omega,by rw [hg,if_pos rfl];exact hq⟩
  ·exact ⟨j,hj,by rw [hg,if_neg e];exact hq⟩
theorem Po {c:A3}{w:Int}{v:Ab}{e:Int}(hw:0≤w∧w<c.workers.length)(h1:v.cells=(A6 c w).cells)(h2:v.caps=(A6 c w).caps)(i:Nat):(wk (Av c w v) i).cells=(wk c i).cells∧Ck (wk (Av c w v) i) e=Ck (wk c i) e:=by
 rw [Kq hw]
 split
 ·rename_i ei
  subst ei
  unfold Ck
  rw [h1,h2]
  exact ⟨rfl,rfl⟩
 ·exact ⟨rfl,rfl⟩
theorem A9t {c:A3}{e e':Int}:∀i,Ck (wk (Bo c e').1 i) e=Ck (wk c i) e:=by
 have st:∀(d:A3) (w:Int) (v:Ab),v.caps=(A6 d w).caps→∀i,Ck (wk (Av d w v) i) e=Ck (wk d i) e:=fun d w v hv i=>by
  unfold wk Av
  simp only
  rw [Dr]
  split
  ·rename_i q
   unfold Ck
   rw [hv]
   unfold A6
   rw [←q.1]
  ·rfl
 unfold Bo
 dsimp only
 split
 ·split
  ·exact st (Cp c _ _) _ _ rfl
  split
  ·split
   ·exact st (Cp c _ _) _ _ rfl
   ·exact fun _=>rfl
  ·rename_i hA
   unfold Gn
   split
   ·intro i
    have h0:(A4 c e').at_.toNat=(0:Int).toNat:=by
     have:¬ (A4 c e').at_>0:=hA
     have h00:(0:Int).toNat=0:=rfl
     omega
    have hw:A6 (Cp c e' ⟨false,(A4 c e').at_,(A4 c e').sum,(A4 c e').black,(A4 c e').capped⟩) 0=A6 c (A4 c e').at_:=by
     unfold A6
     rw [h0]
     rfl
    exact st (Cp c e' _) 0 _ (by rw [hw];rfl) i
   ·exact fun _=>rfl
 ·exact fun _=>rfl
theorem A9r {c:A3}{e w:Int}:∀i,Ck (wk (D4 c w).1 i) e=Ck (wk c i) e:=by
 unfold D4
 split
 ·split
  ·exact fun _=>rfl
  ·intro i
   show Ck (wk (Av (Ih c w) w _) i) e=_
   unfold wk Av
   simp only
   rw [Dr]
   split
   ·rename_i q
    unfold Ck Cx A6
    rw [←q.1]
   ·rfl
 ·exact fun _=>rfl
theorem Zt {c c':A3}(h:Gt c c')(q:A5):H7 c' q↔H7 c q:=by
 obtain ⟨_,h2,h3,h4⟩:=h
 unfold H7
 rw [h2,h3]
 have:∀i,(q∈(wk c' i).queue∨q∈(wk c' i).staged∨q∈(wk c' i).inputs)↔(q∈(wk c i).queue∨q∈(wk c i).staged∨q∈(wk c i).inputs):=fun i=>by
  obtain ⟨a1,a2,a3,_⟩:=h4 i
  rw [a1,a2,a3]
 simp only [this]
theorem B08 {g:Ad}{ins:List A5}{e:Int}{c:A3}{p:Bl}{H:Int→Int→Int→Prop}(hC:Ap c)(hp:p.kind≠1)(h:Mw g ins e c H):Mw g ins e (Ag c p).1 H:=by
 unfold Ag
 rw [if_neg hp]
 split
 ·unfold Cg
  split
  ·rename_i hW
   unfold Dg
   split
   ·rename_i hP
    refine h.moved rfl (by simp only [Av,List.length_set]) (fun q=>?_) (Po hW.2 rfl rfl)
    rw [K3 hW.2,Nt hW.2]
    have hm:=P3 hP.2.2.2.2 q
    refine or_congr ?_ Iff.rfl
    show (q∈(A6 c p.a).queue++[(A6 c p.a).inputs.getD 0 default]∨q∈(A6 c p.a).staged∨q∈(A6 c p.a).inputs.drop 1)↔_
    rw [List.mem_append,List.mem_singleton,hm]
    constructor
    ·rintro ((q1|q1)|q1|q1)
     ·exact .inl q1
     ·exact .inr (.inr (.inl q1))
     ·exact .inr (.inl q1)
     ·exact .inr (.inr (.inr q1))
    ·rintro (q1|q1|q1|q1)
     ·exact .inl (.inl q1)
     ·exact .inr (.inl q1)
     ·exact .inl (.inr q1)
     ·exact .inr (.inr q1)
   ·rw [Gr];exact h
  ·exact h
 split
 ·unfold C6
  split
  ·rename_i hM
   obtain ⟨hW,hs⟩:=hM
   have hfe:(A6 c p.a).staged.getD 0 default=B7 c p.a:=rfl
   split
   ·refine h.moved rfl (by simp only [Av,List.length_set]) (fun q=>?_) (Po hW.2 rfl rfl)
    rw [K3 hW.2,Nt hW.2]
    have hm:=P3 hs q
    rw [hfe] at hm
    refine or_congr ?_ Iff.rfl
    show (q∈(A6 c p.a).queue++[B7 c p.a]∨q∈(A6 c p.a).staged.drop 1∨q∈(A6 c p.a).inputs)↔_
    rw [List.mem_append,List.mem_singleton,hm]
    constructor
    ·rintro ((q1|q1)|q1|q1)
     ·exact .inl q1
     ·exact .inr (.inl (.inl q1))
     ·exact .inr (.inl (.inr q1))
     ·exact .inr (.inr q1)
    ·rintro (q1|(q1|q1)|q1)
     ·exact .inl (.inl q1)
     ·exact .inl (.inr q1)
     ·exact .inr (.inl q1)
     ·exact .inr (.inr q1)
   split
   ·rename_i hsend
    have hb:0≤p.a∧p.a<c.graph.workers:=by have:=hC.1.2.1;exact ⟨hW.2.1,by have:=hW.2.2;omega⟩
    have hk:=(El hC hb (Km hW hs)).1
    have hq:(Dn (An c (Ae c p.a (B8 c p.a))) (B7 c p.a)).1.queue=(An c (Ae c p.a (B8 c p.a))).queue++[B7 c p.a]:=by
     unfold Dn at hsend ⊢
     split at hsend
     ·rename_i hp;rw [if_pos hp]
     ·cases hsend
    have hsa:(Cs (Bt (A6 c p.a)) (B7 c p.a).stamp.epoch).queue=(A6 c p.a).queue∧(Cs (Bt (A6 c p.a)) (B7 c p.a).stamp.epoch).staged=(A6 c p.a).staged.drop 1∧(Cs (Bt (A6 c p.a)) (B7 c p.a).stamp.epoch).inputs=(A6 c p.a).inputs∧(Cs (Bt (A6 c p.a)) (B7 c p.a).stamp.epoch).cells=(A6 c p.a).cells∧(Cs (Bt (A6 c p.a)) (B7 c p.a).stamp.epoch).caps=(A6 c p.a).caps:=by
     unfold Cs
     split<;>exact ⟨rfl,rfl,rfl,rfl,rfl⟩
    generalize hS:Cs (Bt (A6 c p.a)) (B7 c p.a).stamp.epoch=v at *
    generalize hL:(Dn (An c (Ae c p.a (B8 c p.a))) (B7 c p.a)).1=l at *
    refine h.moved rfl (by simp only [Av,B6,List.length_set]) (fun q=>?_) (fun i=>Po (c:=B6 c (Ae c p.a (B8 c p.a)) l) hW.2 hsa.2.2.2.1 hsa.2.2.2.2 i)
    have hm:=P3 hs q
    rw [hfe] at hm
    have key:H7 (Av (B6 c (Ae c p.a (B8 c p.a)) l) p.a v) q↔(q∈v.queue∨q∈v.staged∨q∈v.inputs)∨(∃i,i<c.workers.length∧i≠p.a.toNat∧(q∈(wk c i).queue∨q∈(wk c i).staged∨q∈(wk c i).inputs))∨∃j,j<(B6 c (Ae c p.a (B8 c p.a)) l).links.length∧q∈((B6 c (Ae c p.a (B8 c p.a)) l).links.getD j default).queue:=K3 (c:=B6 c (Ae c p.a (B8 c p.a)) l) hW.2 q
    have hlk:(∃j,j<(B6 c (Ae c p.a (B8 c p.a)) l).links.length∧q∈((B6 c (Ae c p.a (B8 c p.a)) l).links.getD j default).queue)↔(∃j,j<c.links.length∧q∈(c.links.getD j default).queue)∨q=B7 c p.a:=by
     have hg:∀j,(B6 c (Ae c p.a (B8 c p.a)) l).links.getD j default=if j=(Ae c p.a (B8 c p.a)).toNat then l else c.links.getD j default:=fun j=>by
      unfold B6
      simp only
      rw [Dr]
      by_cases e:j=(Ae c p.a (B8 c p.a)).toNat
      ·rw [if_pos ⟨e,by omega⟩,if_pos e]
      ·rw [if_neg (fun q=>e q.1),if_neg e]
     have hln:(B6 c (Ae c p.a (B8 c p.a)) l).links.length=c.links.length:=by simp only [B6,List.length_set]
     rw [hln]
     constructor
     ·rintro ⟨j,hj,hx⟩
      rw [hg] at hx
      split at hx
      ·rename_i e
       rw [hq] at hx
       rcases List.mem_append.1 hx with hx|hx
       ·exact .inl ⟨j,hj,by rw [e];exact hx⟩
       ·exact .inr (List.mem_singleton.1 hx)
      ·exact .inl ⟨j,hj,hx⟩
     ·rintro (⟨j,hj,hx⟩|hx)
      ·refine ⟨j,hj,?_⟩
       rw [hg]
       split
       ·rename_i e
        rw [hq,List.mem_append]
        rw [e] at hx
        exact .inl hx
       ·exact hx
      ·refine ⟨(Ae c p.a (B8 c p.a)).toNat,by omega,?_⟩
       rw [hg,if_pos rfl,hq,hx]
       exact List.mem_append_right _ (List.mem_singleton.2 rfl)
    rw [key,hlk,Nt hW.2,hsa.1,hsa.2.1,hsa.2.2.1,hm]
    constructor
    ·rintro ((q1|q1|q1)|q1|q1|q1)
     ·exact .inl (.inl q1)
     ·exact .inl (.inr (.inl (.inr q1)))
     ·exact .inl (.inr (.inr q1))
     ·exact .inr (.inl q1)
     ·exact .inr (.inr q1)
     ·exact .inl (.inr (.inl (.inl q1)))
    ·rintro ((q1|(q1|q1)|q1)|q1|q1)
     ·exact .inl (.inl q1)
     ·exact .inr (.inr (.inr q1))
     ·exact .inl (.inr (.inl q1))
     ·exact .inl (.inr (.inr q1))
     ·exact .inr (.inl q1)
     ·exact .inr (.inr (.inl q1))
   ·exact h
  ·exact h
 split
 ·unfold Cd
  split
  ·rename_i hm
   obtain ⟨hL,htk⟩:=hm
   have hkb:=(El hC hL.2.2.1 hL.2.2.2).1
   have ht:0≤p.b∧p.b<c.workers.length:=by have:=hC.1.2.1;have:=hL.2.2.2;omega
   have hq:(At (An c (Ae c p.a p.b))).1.queue=(An c (Ae c p.a p.b)).queue.drop 1∧(At (An c (Ae c p.a p.b))).2.1=(An c (Ae c p.a p.b)).queue.getD 0 default∧0<(An c (Ae c p.a p.b)).queue.length:=by
    unfold At at htk ⊢
    split at htk
    ·rename_i hp;rw [if_pos hp];exact ⟨rfl,rfl,hp.2⟩
    ·cases htk
   generalize hr:(At (An c (Ae c p.a p.b))).2.1=r at *
   generalize hl:(At (An c (Ae c p.a p.b))).1=l at *
   have hrc:(Cj (A6 c p.b) r).queue=(A6 c p.b).queue++[r]∧(Cj (A6 c p.b) r).staged=(A6 c p.b).staged∧(Cj (A6 c p.b) r).inputs=(A6 c p.b).inputs∧(Cj (A6 c p.b) r).cells=(A6 c p.b).cells∧(Cj (A6 c p.b) r).caps=(A6 c p.b).caps:=by
    unfold Cj
    split<;>exact ⟨rfl,rfl,rfl,rfl,rfl⟩
   generalize hv:Cj (A6 c p.b) r=v at *
   refine h.moved rfl (by simp only [Av,B6,List.length_set]) (fun q=>?_) (fun i=>Po (c:=B6 c (Ae c p.a p.b) l) ht hrc.2.2.2.1 hrc.2.2.2.2 i)
   have hm:=P3 hq.2.2 q
   rw [←hq.2.1] at hm
   have key:H7 (Av (B6 c (Ae c p.a p.b) l) p.b v) q↔(q∈v.queue∨q∈v.staged∨q∈v.inputs)∨(∃i,i<c.workers.length∧i≠p.b.toNat∧(q∈(wk c i).queue∨q∈(wk c i).staged∨q∈(wk c i).inputs))∨∃j,j<(B6 c (Ae c p.a p.b) l).links.length∧q∈((B6 c (Ae c p.a p.b) l).links.getD j default).queue:=K3 (c:=B6 c (Ae c p.a p.b) l) ht q
   have hlk:(∃j,j<c.links.length∧q∈(c.links.getD j default).queue)↔(∃j,j<(B6 c (Ae c p.a p.b) l).links.length∧q∈((B6 c (Ae c p.a p.b) l).links.getD j default).queue)∨q=r:=by
    have hg:∀j,(B6 c (Ae c p.a p.b) l).links.getD j default=if j=(Ae c p.a p.b).toNat then l else c.links.getD j default:=fun j=>by
     unfold B6
     simp only
     rw [Dr]
     by_cases e:j=(Ae c p.a p.b).toNat
     ·rw [if_pos ⟨e,by omega⟩,if_pos e]
     ·rw [if_neg (fun q=>e q.1),if_neg e]
    have hln:(B6 c (Ae c p.a p.b) l).links.length=c.links.length:=by simp only [B6,List.length_set]
    rw [hln]
    constructor
    ·rintro ⟨j,hj,hx⟩
     by_cases e:j=(Ae c p.a p.b).toNat
     ·rw [e] at hx
      rcases hm.1 hx with hx|hx
      ·exact .inr hx
      ·exact .inl ⟨j,hj,by rw [hg,if_pos e,hq.1];exact hx⟩
     ·exact .inl ⟨j,hj,by rw [hg,if_neg e];exact hx⟩
    ·rintro (⟨j,hj,hx⟩|hx)
     ·rw [hg] at hx
      split at hx
      ·rename_i e
       rw [hq.1] at hx
       exact ⟨j,hj,by rw [e];exact hm.2 (.inr hx)⟩
      ·exact ⟨j,hj,hx⟩
     ·exact ⟨(Ae c p.a p.b).toNat,by omega,hm.2 (.inl hx)⟩
   rw [key,Nt ht,hlk,hrc.1,hrc.2.1,hrc.2.2.1,List.mem_append,List.mem_singleton]
   constructor
   ·rintro (((q1|q1)|q1|q1)|q1|q1)
    ·exact .inl (.inl q1)
    ·exact .inr (.inr (.inr q1))
    ·exact .inl (.inr (.inl q1))
    ·exact .inl (.inr (.inr q1))
    ·exact .inr (.inl q1)
    ·exact .inr (.inr (.inl q1))
   ·rintro ((q1|q1|q1)|q1|q1|q1)
    ·exact .inl (.inl (.inl q1))
    ·exact .inl (.inr (.inl q1))
    ·exact .inl (.inr (.inr q1))
    ·exact .inr (.inl q1)
    ·exact .inr (.inr q1)
    ·exact .inl (.inl (.inr q1))
  ·exact h
 split
 ·unfold Br
  split
  ·rename_i hL
   have hkb:=(El hC hL.2.2.1 hL.2.2.2).1
   have hq:(Bn (An c (Ae c p.a p.b))).1.queue=(An c (Ae c p.a p.b)).queue:=by
    unfold Bn
    split<;>rfl
   refine h.moved rfl rfl (fun q=>?_) (fun _=>⟨rfl,rfl⟩)
   rw [B4u hkb,hq]
   unfold H7
   refine or_congr Iff.rfl ?_
   constructor
   ·rintro (hx|⟨j,hj,_,hx⟩)
    ·exact ⟨_,by omega,hx⟩
    ·exact ⟨j,hj,hx⟩
   ·rintro ⟨j,hj,hx⟩
    by_cases e:j=(Ae c p.a p.b).toNat
    ·rw [e] at hx;exact .inl hx
    ·exact .inr ⟨j,hj,e,hx⟩
  ·exact h
 split
 ·have hS:=Lc c p.a
  exact h.moved hS.1 hS.2.2.1 (Zt hS) fun i=>⟨(hS.2.2.2 i).2.2.2,A9t i⟩
 split
 ·have hS:=Ko c p.a
  exact h.moved hS.1 hS.2.2.1 (Zt hS) fun i=>⟨(hS.2.2.2 i).2.2.2,A9r i⟩
 ·exact h
def Kr (c:A3):Prop:=∀i,i<c.workers.length→∀x∈(wk c i).cells,Cf x.key c.graph.workers=i
theorem X5 {k:Int}{l:List A7}{x y:A7}(h:y∈(Bb k l x).1):y∈l∨y=x:=by
 unfold Bb at h
 split at h
 ·unfold Dq at h
  split at h
  ·exact .inl h
  ·rcases J1.1 h with h|h
   ·exact .inl (List.mem_filter.1 h).1
   ·exact .inr h
 ·split at h
  ·split at h
   ·exact .inl h
   ·exact J1.1 h
  ·exact .inl h
theorem Sr {g:Ad}{cs:List A7}{r:A5}{y:A7}(h:y∈(Bv g cs r).1):y∈cs∨y=Cq r:=by
 rcases J7 (g:=g) (cs:=cs) (r:=r) with e|e
 ·rw [e] at h;exact .inl h
 ·rw [e] at h;exact X5 h
theorem Mh {c:A3}{w:Int}{v:Ab}(h:Kr c)(hv:∀x∈v.cells,x∈(A6 c w).cells∨Cf x.key c.graph.workers=w.toNat):Kr (Av c w v):=fun i hi x hx=>by
 simp only [Av,List.length_set] at hi
 unfold wk Av at hx
 simp only at hx
 rw [Dr] at hx
 show Cf x.key c.graph.workers=i
 split at hx
 ·rename_i e
  rcases hv x hx with q|q
  ·rw [e.1]
   exact h w.toNat e.2 x q
  ·rw [q,e.1]
 ·exact h i hi x hx
theorem A50 {g:Ad}{a b:Int}{ins:List A5}{c:A3}{p:Bl}(hD:H9 g a b ins c)(h:Kr c):Kr (Ag c p).1:=by
 unfold Ag
 split
 ·unfold Cr
  split
  ·rename_i hW
   unfold Fk
   split
   ·rename_i hP
    refine Mh h fun x hx=>?_
    rcases Sr (show x∈(Bv c.graph (A6 c p.a).cells ((A6 c p.a).queue.getD 0 default)).1 from hx) with q|q
    ·exact .inl q
    ·refine .inr ?_
     rw [q,hD.gr]
     exact (hD.q p.a.toNat (by have:=hW.2;omega) _ (Aq (d:=default) hP.2.2.2)).2
   ·rw [Gr];exact h
  ·exact h
 split
 ·unfold Cg
  split
  ·refine Mh h fun x hx=> .inl ?_
   unfold Dg at hx
   split at hx<;>exact hx
  ·exact h
 split
 ·unfold C6
  split
  ·split
   ·exact Mh h fun x hx=> .inl hx
   split
   ·refine Mh (c:=B6 c _ _) h fun x hx=> .inl ?_
    unfold Cs at hx
    split at hx<;>exact hx
   ·exact h
  ·exact h
 split
 ·unfold Cd
  split
  ·refine Mh (c:=B6 c _ _) h fun x hx=> .inl ?_
   unfold Cj at hx
   split at hx<;>exact hx
  ·exact h
 split
 ·unfold Br;split<;>exact h
 have same:∀c':A3,Gt c c'→Kr c':=fun c' hS i hi x hx=>by
  rw [hS.1]
  rw [(hS.2.2.2 i).2.2.2] at hx
  exact h i (by rw [←hS.2.2.1];exact hi) x hx
 split
 ·exact same _ (Lc c p.a)
 split
 ·exact same _ (Ko c p.a)
 ·exact h
theorem A9s {c:A3}{w:Int}{e:Int}{v:Ab}(hw:0≤w∧w<c.workers.length)(hv:Ck (A6 c w) e=true→Ck v e=true){i:Nat}(h:Ck (wk c i) e=true):Ck (wk (Av c w v) i) e=true:=by
 rw [Kq hw]
 split
 ·rename_i ei
  subst ei
  exact hv h
 ·exact h
theorem A0a {g:Ad}{cs:List A7}{r:A5}(h:∀x∈cs,∀y∈cs,(A9 g x.op).kind=8→x.op=y.op∧x.epoch=y.epoch∧x.key=y.key→x=y):
  ∀x∈(Bv g cs r).1,∀y∈(Bv g cs r).1,(A9 g x.op).kind=8→x.op=y.op∧x.epoch=y.epoch∧x.key=y.key→x=y:=by
 intro x hx y hy h8 hs
 rcases J7 (g:=g) (cs:=cs) (r:=r) with q|q
 ·rw [q] at hx hy;exact h x hx y hy h8 hs
 ·rw [q] at hx hy
  by_cases hk:(A9 g r.op).kind=5∨(A9 g r.op).kind=8
  ·have e:(Bb (A9 g r.op).kind cs (Cq r))=Dq cs (Cq r):=if_pos hk
   rw [e] at hx hy
   by_cases hn:G7 cs (Cq r)
   ·unfold Dq at hx hy
    rw [if_pos hn] at hx hy
    exact h x hx y hy h8 hs
   ·rcases (Jj hn).1 hx with ⟨x1,x2⟩|rfl<;>rcases (Jj hn).1 hy with ⟨y1,y2⟩|rfl
    ·exact h x x1 y y1 h8 hs
    ·exact absurd ⟨hs.1.symm,hs.2.1.symm,hs.2.2.symm⟩ x2
    ·exact absurd hs y2
    ·rfl
  ·have hsub:∀z,z∈(Bb (A9 g r.op).kind cs (Cq r)).1→(A9 g z.op).kind=8→z∈cs:=fun z hz hz8=>by
    rcases X5 hz with q|rfl
    ·exact q
    ·exact absurd (.inr hz8) hk
   exact h x (hsub x hx h8) y (hsub y hy (by rw [←hs.1];exact h8)) h8 hs
theorem B4m {g:Ad}{cs:List A7}{r:A5}{x:A7}(hx:x∈cs):∃y∈(Bv g cs r).1,(y.op=x.op∧y.epoch=x.epoch∧y.key=x.key)∧y.val≤x.val:=by
 rcases J7 (g:=g) (cs:=cs) (r:=r) with q|q
 ·rw [q];exact ⟨x,hx,⟨rfl,rfl,rfl⟩,Int.le_refl _⟩
 ·rw [q]
  by_cases hk:(A9 g r.op).kind=5∨(A9 g r.op).kind=8
  ·have e:(Bb (A9 g r.op).kind cs (Cq r))=Dq cs (Cq r):=if_pos hk
   rw [e]
   exact Ex.1 (Qn (Ex.2 ⟨x,hx,⟨rfl,rfl,rfl⟩,Int.le_refl _⟩))
  ·refine ⟨x,?_,⟨rfl,rfl,rfl⟩,Int.le_refl _⟩
   unfold Bb
   rw [if_neg hk]
   split
   ·split
    ·exact hx
    ·exact J1.2 (.inl hx)
   ·exact hx
theorem A1y {k:Int}{cs:List A7}{x:A7}(h:(Bb k cs x).2=false):(Bb k cs x).1=cs∧∃y∈cs,(y.op=x.op∧y.epoch=x.epoch∧y.key=x.key)∧y.val≤x.val:=by
 unfold Bb at *
 split at h
 ·rename_i hk
  rw [if_pos hk]
  unfold Dq at *
  split at h
  ·rename_i hn
   rw [if_pos hn]
   exact ⟨rfl,Ex.1 hn⟩
  ·cases h
 ·rename_i hk
  rw [if_neg hk]
  split at h
  ·rename_i h6
   rw [if_pos h6]
   split at h
   ·rename_i hh
    rw [if_pos hh]
    exact ⟨rfl,x,On.1 hh,⟨rfl,rfl,rfl⟩,Int.le_refl _⟩
   ·cases h
  ·cases h
theorem A68 {cs:List A7}{x:A7}(h:(Bb 8 cs x).2=true):x∈(Bb 8 cs x).1:=by
 unfold Bb at *
 rw [if_pos (.inr rfl)] at *
 unfold Dq at *
 split at h
 ·cases h
 ·rename_i hn
  rw [if_neg hn]
  exact J1.2 (.inr rfl)
theorem B45 {g:Ad}{a b:Int}{ins:List A5}{e:Int}{c:A3}{w:Int}{H:Int→Int→Int→Prop}(hC:Ap c)(hD:H9 g a b ins c)(hO:Kr c)(h:Mw g ins e c H)(he:0≤e∧e≤3):∃H',Mw g ins e (Cr c w).1 H':=by
 unfold Cr
 split
 case isFalse=>exact ⟨H,h⟩
 rename_i hW
 unfold Fk
 split
 case isFalse=>
  refine ⟨H,?_⟩
  rw [Gr]
  exact h
 rename_i hP
 obtain ⟨_,hwp,hst,hql⟩:=hP
 have hi:w.toNat<c.workers.length:=by have:=hW.2;omega
 have hg:=h.gr
 have hgP:E7 g:=by rw [←hg];exact hC.1.1
 have hrq:=hD.q w.toNat hi _ (Aq (d:=default) hql)
 have hro:=hwp.1.1 _ (Aq (d:=default) hql)
 have hmem:=fun q=>P3 hql q
 generalize hr:(A6 c w).queue.getD 0 default=r at *
 have hr':(wk c w.toNat).queue.getD 0 default=r:=hr
 rw [hr'] at hrq
 have hSP:Jx g r:=⟨hgP,hro.1,by rw [←hg];exact hro.2⟩
 have hst0:(A6 c w).staged=[]:=List.eq_nil_of_length_eq_zero hst
 generalize hv:Fx c.graph (A6 c w)=v
 have vq:v.queue=(A6 c w).queue.drop 1:=by rw [←hv];rfl
 have vs:v.staged=(Bv g (A6 c w).cells r).2.1:=by rw [←hv,←hg];unfold Fx;rw [hr]
 have vi:v.inputs=(A6 c w).inputs:=by rw [←hv];rfl
 have vc:v.cells=(Bv g (A6 c w).cells r).1:=by rw [←hv,←hg];unfold Fx;rw [hr]
 have vk:v.caps=if capped g r=true then (A6 c w).caps.set r.stamp.epoch.toNat true else (A6 c w).caps:=by rw [←hv,←hg];unfold Fx;rw [hr]
 show ∃H',Mw g ins e (Av c w v) H'
 have hlen:(Av c w v).workers.length=c.workers.length:=by simp only [Av,List.length_set]
 have hcm:∀i,Ck (wk c i) e=true→Ck (wk (Av c w v) i) e=true:=fun i q=>A9s hW.2 (fun q'=>by
  unfold Ck at q' ⊢
  rw [vk]
  split
  ·rw [Dr]
   split
   ·rfl
   ·exact q'
  ·exact q') q
 have hwk:=fun i=>Kq (v:=v) hW.2 i
 have hold:∀q,H7 c q→q≠r→H7 (Av c w v) q:=fun q hq hne=>by
  rw [K3 hW.2,vq,vs,vi]
  rw [Nt hW.2,hmem q,hst0] at hq
  rcases hq with ((q1|q1)|q1|q1)|q1|q1
  ·exact absurd q1 hne
  ·exact .inl (.inl q1)
  ·cases q1
  ·exact .inl (.inr (.inr q1))
  ·exact .inr (.inl q1)
  ·exact .inr (.inr q1)
 have hnew:∀q∈(Bv g (A6 c w).cells r).2.1,H7 (Av c w v) q:=fun q hq=>by
  rw [K3 hW.2,vq,vs,vi]
  exact .inl (.inr (.inl hq))
 have hback:∀q,H7 (Av c w v) q→H7 c q∨q∈(Bv g (A6 c w).cells r).2.1:=fun q hq=>by
  rw [K3 hW.2,vq,vs,vi] at hq
  rw [Nt hW.2,hmem q]
  rcases hq with (q1|q1|q1)|q1|q1
  ·exact .inl (.inl (.inl (.inr q1)))
  ·exact .inr q1
  ·exact .inl (.inl (.inr (.inr q1)))
  ·exact .inl (.inr (.inl q1))
  ·exact .inl (.inr (.inr q1))
 have hcellback:∀i,∀x∈(wk (Av c w v) i).cells,x∈(wk c i).cells∨(i=w.toNat∧x=Cq r):=fun i x hx=>by
  rw [hwk] at hx
  split at hx
  ·rename_i ei
   rw [vc] at hx
   rcases Sr hx with q|q
   ·rw [ei];exact .inl q
   ·exact .inr ⟨ei,q⟩
  ·exact .inl hx
 by_cases hre:r.stamp.epoch=e
 case neg=>
  have hPH:∀op k vv,PH (Av c w v) e H op k vv↔PH c e H op k vv:=fun op k vv=>by
   unfold PH
   refine or_congr ?_ Iff.rfl
   constructor
   ·rintro ⟨q,hq,h1,h2,h3,h4⟩
    rcases hback q hq with q1|q1
    ·exact ⟨q,q1,h1,h2,h3,h4⟩
    ·exact absurd ((Sd q1).symm.trans h2) hre
   ·rintro ⟨q,hq,h1,h2,h3,h4⟩
    exact ⟨q,hold q hq (fun e0=>hre (by rw [←e0];exact h2)),h1,h2,h3,h4⟩
  have hkeep:∀i,∀x∈(wk c i).cells,i<c.workers.length→x.epoch=e→x∈(wk (Av c w v) i).cells:=fun i x hx _ hxe=>by
   rw [hwk]
   split
   ·rename_i ei
    rw [vc]
    rcases J7 (g:=g) (cs:=(A6 c w).cells) (r:=r) with q|q
    ·rw [q];rw [ei] at hx;exact hx
    ·rw [q]
     rw [ei] at hx
     have hx:x∈(A6 c w).cells:=hx
     unfold Bb
     split
     ·unfold Dq
      split
      ·exact hx
      ·refine J1.2 (.inl (List.mem_filter.2 ⟨hx,?_⟩))
       unfold B2
       have:(Cq r).epoch≠x.epoch:=by rw [hxe];exact hre
       simp [this]
     ·split
      ·split
       ·exact hx
       ·exact J1.2 (.inl hx)
      ·exact hx
   ·exact hx
  refine ⟨H,h.gr,fun r' hr' he'=>?_,fun op k vv k' hH ho hk hgo=>?_,fun op k vv hh=>h.sound op k vv ((hPH _ _ _).1 hh),fun i hi' x hx hxe=>?_,fun op k vv hH h8=>?_,fun i hi' x hx y hy h8 hs=>?_⟩
  ·obtain ⟨vv,h1,h2⟩:=h.inp r' hr' he'
   exact ⟨vv,h1,(hPH _ _ _).2 h2⟩
  ·rcases h.nxt op k vv k' hH ho hk hgo with ⟨v',h1,h2⟩|⟨i,hi',hcap⟩
   ·exact .inl ⟨v',h1,(hPH _ _ _).2 h2⟩
   ·exact .inr ⟨i,by omega,hcm i hcap⟩
  ·rcases hcellback i x hx with q|⟨_,q⟩
   ·exact h.cell i Ac x q hxe
   ·rw [q] at hxe;exact absurd hxe hre
  ·obtain ⟨i,hi',x,hx,q1,q2,q3⟩:=h.out op k vv hH h8
   exact ⟨i,by omega,x,hkeep i x hx hi' q2,q1,q2,q3⟩
  ·rw [hwk] at hx hy
   split at hx
   ·rename_i ei
    rw [if_pos ei] at hy
    rw [vc] at hx hy
    exact A0a (h.uniq w.toNat hi) x hx y hy h8 hs
   ·rename_i ei
    rw [if_neg ei] at hy
    exact h.uniq i Ac x hx y hy h8 hs
 case pos=>
  have hcells0:∀i,(wk (Av c w v) i).cells=if i=w.toNat then (Bv g (A6 c w).cells r).1 else (wk c i).cells:=fun i=>by
   rw [hwk]
   split
   ·exact vc
   ·rfl
  have hout:∀op k vv,(∃i,i<c.workers.length∧∃x∈(wk c i).cells,x.op=op∧x.epoch=e∧x.key=k∧x.val≤vv)→∃i,i<(Av c w v).workers.length∧∃x∈(wk (Av c w v) i).cells,x.op=op∧x.epoch=e∧x.key=k∧x.val≤vv:=by
   rintro op k vv ⟨i,hi',x,hx,q1,q2,q3,q4⟩
   refine ⟨i,by omega,?_⟩
   rw [hcells0]
   split
   ·rename_i ei
    rw [ei] at hx
    obtain ⟨y,hy,s,hyv⟩:=B4m (g:=g) (r:=r) (show x∈(A6 c w).cells from hx)
    exact ⟨y,hy,by omega,by omega,by omega,by omega⟩
   ·exact ⟨x,hx,q1,q2,q3,q4⟩
  have huniq:∀i,i<(Av c w v).workers.length→∀x∈(wk (Av c w v) i).cells,∀y∈(wk (Av c w v) i).cells,(A9 g x.op).kind=8→x.op=y.op∧x.epoch=y.epoch∧x.key=y.key→x=y:=fun i hi' x hx y hy h8 hs=>by
   rw [hcells0] at hx hy
   split at hx
   ·rename_i ei
    rw [if_pos ei] at hy
    exact A0a (h.uniq w.toNat hi) x hx y hy h8 hs
   ·rename_i ei
    rw [if_neg ei] at hy
    exact h.uniq i Ac x hx y hy h8 hs
  have hrD:Drv g ins e r.op r.key r.val:=h.sound _ _ _ (.inl ⟨r,by rw [Nt hW.2,hmem r];exact .inl (.inl (.inl rfl)),rfl,hre,rfl,rfl⟩)
  by_cases hB:(Bb (A9 g r.op).kind (A6 c w).cells (Cq r)).2=false∧¬ ((As (A9 g r.op) r.key r.val).2.2=false∧(A9 g r.op).kind≠8)
  ·
   obtain ⟨hB,hgo⟩:=hB
   have hs:Bv g (A6 c w).cells r=((Bb (A9 g r.op).kind (A6 c w).cells (Cq r)).1,[],true):=by
    unfold Bv
    rw [if_pos hSP,if_neg hgo,if_pos hB]
   obtain ⟨hb1,y,hy,hys,hyv⟩:=A1y hB
   have hHr:H r.op r.key y.val:=by
    have:=h.cell w.toNat hi y hy (hys.2.1.trans hre)
    rw [hys.1,hys.2.2] at this
    exact this
   have hPH:∀op k vv,PH c e H op k vv→∃v',v'≤vv∧PH (Av c w v) e H op k v':=by
    rintro op k vv (⟨q,hq,h1,h2,h3,h4⟩|hH)
    ·by_cases e0:q=r
     ·subst e0
      exact ⟨y.val,by have:(Cq q).val=q.val:=rfl;omega,.inr (by rw [←h1,←h3];exact hHr)⟩
     ·exact ⟨vv,Int.le_refl _,.inl ⟨q,hold q hq e0,h1,h2,h3,h4⟩⟩
    ·exact ⟨vv,Int.le_refl _,.inr hH⟩
   refine ⟨H,h.gr,fun r' hr' he'=>?_,fun op k vv k' hH ho hk hgo'=>?_,?_,fun i hi' x hx hxe=>?_,fun op k vv hH h8=>hout _ _ _ (h.out op k vv hH h8),huniq⟩
   ·obtain ⟨vv,h1,h2⟩:=h.inp r' hr' he'
    obtain ⟨v',g1,g2⟩:=hPH _ _ _ h2
    exact ⟨v',Int.le_trans g1 h1,g2⟩
   ·rcases h.nxt op k vv k' hH ho hk hgo' with ⟨v',h1,h2⟩|⟨i,hi',hcap⟩
    ·obtain ⟨v'',g1,g2⟩:=hPH _ _ _ h2
     exact .inl ⟨v'',Int.le_trans g1 h1,g2⟩
    ·exact .inr ⟨i,by omega,hcm i hcap⟩
   ·rintro op k vv (⟨q,hq,h1,h2,h3,h4⟩|hH)
    ·rcases hback q hq with q1|q1
     ·exact h.sound _ _ _ (.inl ⟨q,q1,h1,h2,h3,h4⟩)
     ·rw [hs] at q1;cases q1
    ·exact h.sound _ _ _ (.inr hH)
   ·rw [hcells0] at hx
    split at hx
    ·rename_i ei
     rw [hs] at hx
     simp only at hx
     rw [hb1] at hx
     rw [ei] at hi'
     exact h.cell w.toNat hi x hx hxe
    ·exact h.cell i Ac x hx hxe
  ·
   have hPH:∀op k vv,PH c e H op k vv→PH (Av c w v) e (fun op k vv=>H op k vv∨(op=r.op∧k=r.key∧vv=r.val)) op k vv:=by
    rintro op k vv (⟨q,hq,h1,h2,h3,h4⟩|hH)
    ·by_cases e0:q=r
     ·subst e0
      exact .inr (.inr ⟨h1.symm,h3.symm,h4.symm⟩)
     ·exact .inl ⟨q,hold q hq e0,h1,h2,h3,h4⟩
    ·exact .inr (.inl hH)
   refine ⟨fun op k vv=>H op k vv∨(op=r.op∧k=r.key∧vv=r.val),h.gr,fun r' hr' he'=>?_,fun op k vv k' hH ho hk hgo'=>?_,?_,fun i hi' x hx hxe=>?_,fun op k vv hH h8=>?_,huniq⟩
   ·obtain ⟨vv,h1,h2⟩:=h.inp r' hr' he'
    exact ⟨vv,h1,hPH _ _ _ h2⟩
   ·rcases hH with hH|⟨rfl,rfl,rfl⟩
    ·rcases h.nxt op k vv k' hH ho hk hgo' with ⟨v',h1,h2⟩|⟨i,hi',hcap⟩
     ·exact .inl ⟨v',h1,hPH _ _ _ h2⟩
     ·exact .inr ⟨i,by omega,hcm i hcap⟩
    ·have hgo:¬ ((As (A9 g r.op) r.key r.val).2.2=false∧(A9 g r.op).kind≠8):=fun q=>by rw [hgo'] at q;cases q.1
     have hrc:¬ (Bb (A9 g r.op).kind (A6 c w).cells (Cq r)).2=false:=fun q=>hB ⟨q,hgo⟩
     have hs:(Bv g (A6 c w).cells r).2.1=Gf g r:=by
      unfold Bv
      rw [if_pos hSP,if_neg hgo,if_neg hrc]
     by_cases h7:(A9 g r.op).kind=7∧(Cc r.stamp).2=false
     ·refine .inr ⟨w.toNat,by omega,?_⟩
      rw [hwk,if_pos rfl]
      unfold Ck
      have hcp:capped g r=true:=decide_eq_true ⟨hSP,h7.1,List.length_pos_of_mem hk,h7.2⟩
      rw [vk,if_pos hcp,hre,Dr,if_pos ⟨rfl,by have:=hwp.2.1.2.2;omega⟩]
     ·refine .inl ⟨_,Int.le_refl _,.inl ⟨_,hnew _ (by rw [hs];unfold Gf;rw [if_neg h7];exact List.mem_map.2 ⟨k',hk,rfl⟩),rfl,?_,rfl,rfl⟩⟩
      have:=Ok (g:=g) (r:=r) (show _∈Gf g r by unfold Gf;rw [if_neg h7];exact List.mem_map.2 ⟨k',hk,rfl⟩)
      exact this.trans hre
   ·rintro op k vv (⟨q,hq,h1,h2,h3,h4⟩|hH|⟨rfl,rfl,rfl⟩)
    ·rcases hback q hq with q1|q1
     ·exact h.sound _ _ _ (.inl ⟨q,q1,h1,h2,h3,h4⟩)
     ·obtain ⟨m0,m8⟩:=Ph q1
      obtain ⟨m1,_,m3,m4,_⟩:=Ie m0
      have hgo:(As (A9 g r.op) r.key r.val).2.2=true:=by
       rcases m8 with m8|m8
       ·have:=(Il hgP hSP.2.1.1.1 hSP.2.2).1.2.2.2.2.2.2.1 m8
        have h0:(A9 g r.op).outs=[]:=List.eq_nil_of_length_eq_zero this
        rw [h0] at m1
        cases m1
       ·exact m8
      have:=Drv.step r.op r.key r.val q.op hrD ⟨hSP.2.1.1.1,hSP.2.2⟩ m1 hgo
      rw [←h1,←h3,←h4,m3,m4]
      exact this
    ·exact h.sound _ _ _ (.inr hH)
    ·exact hrD
   ·rw [hcells0] at hx
    split at hx
    ·rename_i ei
     rcases Sr hx with q|q
     ·exact .inl (h.cell w.toNat hi x q hxe)
     ·rw [q];exact .inr ⟨rfl,rfl,rfl⟩
    ·exact .inl (h.cell i Ac x hx hxe)
   ·rcases hH with hH|⟨rfl,rfl,rfl⟩
    ·exact hout _ _ _ (h.out op k vv hH h8)
    ·have hgo:¬ ((As (A9 g r.op) r.key r.val).2.2=false∧(A9 g r.op).kind≠8):=fun q=>q.2 h8
     have hrc:(Bb (A9 g r.op).kind (A6 c w).cells (Cq r)).2=true:=by
      cases hb:(Bb (A9 g r.op).kind (A6 c w).cells (Cq r)).2 with
      |true=>rfl
      |false=>exact absurd ⟨hb,hgo⟩ hB
     have hs:(Bv g (A6 c w).cells r).1=(Bb (A9 g r.op).kind (A6 c w).cells (Cq r)).1:=by
      unfold Bv
      rw [if_pos hSP,if_neg hgo,if_neg (by rw [hrc];decide)]
     refine ⟨w.toNat,by omega,Cq r,?_,rfl,hre,rfl,Int.le_refl _⟩
     rw [hcells0,if_pos rfl,hs]
     rw [h8] at hrc ⊢
     exact A68 hrc
theorem A37 {c:A3}{e:Int}{H:Int→Int→Int→Prop}(hnp:∀q,H7 c q→q.stamp.epoch≠e){op k v:Int}(h:PH c e H op k v):H op k v:=by
 rcases h with ⟨q,hq,_,h2,_⟩|h
 ·exact absurd h2 (hnp q hq)
 ·exact h
theorem Zo {g:Ad}{ins:List A5}{e:Int}{c:A3}{H:Int→Int→Int→Prop}(h:Mw g ins e c H)(hg:E7 g)(hi:Uc ins)(hnp:∀q,H7 c q→q.stamp.epoch≠e)(hcap:∀i,i<c.workers.length→Ck (wk c i) e=false)
  {op k v:Int}(hd:Drv g ins e op k v):∃v',v'≤v∧H op k v':=by
 induction hd with
 |inp r hr he=>
  obtain ⟨v,h1,h2⟩:=h.inp r hr he
  exact ⟨v,h1,A37 hnp h2⟩
 |step op k v k' hd ho hk hgo ih=>
  obtain ⟨v',h1,h2⟩:=ih
  have h0:0≤v':=(Rn hg hi (h.sound op k v' (.inr h2))).2.1
  obtain ⟨c1,c2,c3⟩:=Rk hgo h0 h1
  rcases h.nxt op k v' k' h2 ho hk c3 with ⟨v'',g1,g2⟩|⟨i,hi',hc⟩
  ·rw [c1] at g2
   exact ⟨v'',Int.le_trans g1 c2,A37 hnp g2⟩
  ·rw [hcap i hi'] at hc;cases hc
def B86 (g:Ad) (ins:List A5) (e:Int) (x:A7):Prop:=x.epoch=e∧(0≤x.op∧x.op<g.nodes.length)∧(A9 g x.op).kind=8∧Drv g ins e x.op x.key x.val∧∀v,Drv g ins e x.op x.key v→x.val≤v
theorem A30:∀(cs l:List A7) (x:A7),x∈cs.foldl Cy l↔x∈l∨x∈cs
 | [],l,x=>by simp
 |c::cs,l,x=>by
  rw [List.foldl_cons,A30 cs,J1,List.mem_cons]
  constructor
  ·rintro ((h|h)|h)
   ·exact .inl h
   ·exact .inr (.inl h)
   ·exact .inr (.inr h)
  ·rintro (h|h|h)
   ·exact .inl (.inl h)
   ·exact .inl (.inr h)
   ·exact .inr h
theorem A84:∀(cs l:List A7),l.Pairwise Dk→(cs.foldl Cy l).Pairwise Dk
 | [],_,h=>h
 |c::cs,l,h=>A84 cs _ (A66 h)
theorem A3y {c:A3}{x:A7}:x∈Fw c↔∃i,i<c.workers.length∧x∈(wk c i).cells:=by
 have key:∀(ws:List Ab) (l:List A7),x∈ws.foldl (fun l w=>w.cells.foldl Cy l) l↔x∈l∨∃w∈ws,x∈w.cells:=by
  intro ws
  induction ws with
  |nil=>intro l;simp
  |cons w ws ih=>
   intro l
   rw [List.foldl_cons,ih,A30]
   constructor
   ·rintro ((h|h)|⟨v,hv,h⟩)
    ·exact .inl h
    ·exact .inr ⟨w,List.mem_cons_self ..,h⟩
    ·exact .inr ⟨v,List.mem_cons_of_mem _ hv,h⟩
   ·rintro (h|⟨v,hv,h⟩)
    ·exact .inl (.inl h)
    ·rcases List.mem_cons.1 hv with rfl|hv
     ·exact .inl (.inr h)
     ·exact .inr ⟨v,hv,h⟩
 unfold Fw
 rw [key]
 constructor
 ·rintro (h|⟨w,hw,h⟩)
  ·cases h
  ·obtain ⟨i,hi,rfl⟩:=T9 hw
   exact ⟨i,hi,h⟩
 ·rintro ⟨i,hi,h⟩
  exact .inr ⟨_,Aq hi,h⟩
theorem A51 (c:A3):(Fw c).Pairwise Dk:=by
 have key:∀(ws:List Ab) (l:List A7),l.Pairwise Dk→(ws.foldl (fun l w=>w.cells.foldl Cy l) l).Pairwise Dk:=by
  intro ws
  induction ws with
  |nil=>intro l h;exact h
  |cons w ws ih=>intro l h;exact ih _ (A84 _ _ h)
 exact key _ [] List.Pairwise.nil
theorem A3z {g:Ad}{l:List A7}{x:A7}:x∈Ee g l↔x∈l∧(0≤x.op∧x.op<g.nodes.length)∧(A9 g x.op).kind=8:=by
 unfold Ee
 rw [List.mem_filter,decide_eq_true_eq]
theorem B66 {g:Ad}{ins:List A5}{e:Int}{c:A3}{H:Int→Int→Int→Prop}(h:Mw g ins e c H)(hg:E7 g)(hi:Uc ins)(hO:Kr c)(hnp:∀q,H7 c q→q.stamp.epoch≠e)(hcap:∀i,i<c.workers.length→Ck (wk c i) e=false)(x:A7):
  x∈Hv c e↔B86 g ins e x:=by
 have hm:x∈Hv c e↔(∃i,i<c.workers.length∧x∈(wk c i).cells)∧((0≤x.op∧x.op<g.nodes.length)∧(A9 g x.op).kind=8)∧x.epoch=e:=by
  unfold Hv
  rw [List.mem_filter,A3z,A3y,h.gr,beq_iff_eq,and_assoc]
 rw [hm]
 constructor
 ·rintro ⟨⟨i,hi',hx⟩,⟨ho,h8⟩,he⟩
  have hH:=h.cell i hi' x hx he
  refine ⟨he,ho,h8,h.sound _ _ _ (.inr hH),fun v hv=>?_⟩
  obtain ⟨v',h1,h2⟩:=Zo h hg hi hnp hcap hv
  obtain ⟨j,hj,y,hy,q1,q2,q3,q4⟩:=h.out _ _ _ h2 h8
  have o1:=hO i hi' x hx
  have o2:=hO j hj y hy
  rw [q3,o1] at o2
  have hij:i=j:=by omega
  subst hij
  have:=h.uniq i hi' x hx y hy h8 ⟨q1.symm,by omega,q3.symm⟩
  rw [this]
  omega
 ·rintro ⟨he,ho,h8,hd,hmin⟩
  obtain ⟨v',h1,h2⟩:=Zo h hg hi hnp hcap hd
  obtain ⟨j,hj,y,hy,q1,q2,q3,q4⟩:=h.out _ _ _ h2 h8
  have hyd:=h.sound _ _ _ (.inr (h.cell j hj y hy q2))
  rw [q1,q3] at hyd
  have:=hmin _ hyd
  have hxy:x=y:=by
   obtain ⟨x1,x2,x3,x4⟩:=x
   obtain ⟨y1,y2,y3,y4⟩:=y
   simp only [A7.mk.injEq] at *
   omega
  rw [hxy] at ho h8 he ⊢
  exact ⟨⟨j,hj,hy⟩,⟨ho,h8⟩,he⟩
theorem A4c (c:A3)(e:Int):(Hv c e).Pairwise Dk:=((A51 c).sublist List.filter_sublist).sublist List.filter_sublist
theorem B40:∀{a b:List A7},a.Pairwise Dk→b.Pairwise Dk→(∀x,x∈a↔x∈b)→a=b
 | [],[],_,_,_=>rfl
 | [],y::b,_,_,h=>absurd ((h y).2 (List.mem_cons_self ..)) Bj
 |x::a,[],_,_,h=>absurd ((h x).1 (List.mem_cons_self ..)) Bj
 |x::a,y::b,ha,hb,h=>by
  obtain ⟨a1,a2⟩:=List.pairwise_cons.1 ha
  obtain ⟨b1,b2⟩:=List.pairwise_cons.1 hb
  have hxy:x=y:=by
   rcases List.mem_cons.1 ((h x).1 (List.mem_cons_self ..)) with e|hx
   ·exact e
   ·rcases List.mem_cons.1 ((h y).2 (List.mem_cons_self ..)) with e|hy
    ·exact e.symm
    ·exact absurd ((a1 y hy).trans (b1 x hx)) Dk.irr
  subst hxy
  refine congrArg (x:: ·) (B40 a2 b2 fun z=>?_)
  constructor
  ·intro hz
   rcases List.mem_cons.1 ((h z).1 (List.mem_cons_of_mem _ hz)) with e|q
   ·subst e;exact absurd (a1 z hz) Dk.irr
   ·exact q
  ·intro hz
   rcases List.mem_cons.1 ((h z).2 (List.mem_cons_of_mem _ hz)) with e|q
   ·subst e;exact absurd (b1 z hz) Dk.irr
   ·exact q
structure Si (g:Ad) (ins:List A5) (e:Int) (best list:List A7):Prop where
 a:∀x,x∈best∨x∈list→x.epoch=e∧(0≤x.op∧x.op<g.nodes.length)∧Drv g ins e x.op x.key x.val
 b:∀y∈best,∀k∈(A9 g y.op).outs,(As (A9 g y.op) y.key y.val).2.2=true→∃z,(z∈best∨z∈list)∧z.op=k∧z.key=(As (A9 g y.op) y.key y.val).1∧z.val≤(As (A9 g y.op) y.key y.val).2.1
 c:∀r∈ins,r.stamp.epoch=e→∃z,(z∈best∨z∈list)∧z.op=0∧z.key=r.key∧z.val≤r.val
 d:∀x∈best,∀y∈best,x.op=y.op∧x.epoch=y.epoch∧x.key=y.key→x=y
 s:best.Pairwise Dk
theorem B3a {g:Ad}{ins:List A5}{e:Int}{best list:List A7}{x:A7}(hg:E7 g)(hi:Uc ins)(he:0≤e∧e≤3)(h:Si g ins e best (x::list)):Si g ins e (Eo g best x).1 (list++(Eo g best x).2):=by
 obtain ⟨hx1,hx2,hx3⟩:=h.a x (.inr (List.mem_cons_self ..))
 have hP:A2q g x:=⟨hx2,hg,by rw [hx1];exact he,Rn hg hi hx3⟩
 unfold Eo
 rw [if_pos hP]
 split
 ·rename_i hn
  rw [List.append_nil]
  obtain ⟨y,hy,hs,hv⟩:=Ex.1 hn
  have mv:∀z,(z∈best∨z∈x::list)→∃z',(z'∈best∨z'∈list)∧z'.op=z.op∧z'.key=z.key∧z'.val≤z.val:=fun z hz=>by
   rcases hz with hz|hz
   ·exact ⟨z,.inl hz,rfl,rfl,Int.le_refl _⟩
   ·rcases List.mem_cons.1 hz with rfl|hz
    ·exact ⟨y,.inl hy,hs.1,hs.2.2,hv⟩
    ·exact ⟨z,.inr hz,rfl,rfl,Int.le_refl _⟩
  refine ⟨fun z hz=>h.a z (hz.imp id (List.mem_cons_of_mem _)),fun y' hy' k hk hgo=>?_,fun r hr hre=>?_,h.d,h.s⟩
  ·obtain ⟨z,hz,z1,z2,z3⟩:=h.b y' hy' k hk hgo
   obtain ⟨z',w0,w1,w2,w3⟩:=mv z hz
   exact ⟨z',w0,w1.trans z1,w2.trans z2,Int.le_trans w3 z3⟩
  ·obtain ⟨z,hz,z1,z2,z3⟩:=h.c r hr hre
   obtain ⟨z',w0,w1,w2,w3⟩:=mv z hz
   exact ⟨z',w0,w1.trans z1,w2.trans z2,Int.le_trans w3 z3⟩
 ·rename_i hn
  have hmb:=fun y=>Jj (y:=y) hn
  have hmo:∀z∈La g x,z.epoch=e∧(0≤z.op∧z.op<g.nodes.length)∧Drv g ins e z.op z.key z.val:=fun z hz=>by
   unfold La at hz
   split at hz
   ·rename_i hgo
    obtain ⟨k,hk,rfl⟩:=List.mem_map.1 hz
    have hed:=(Il hg hx2.1 hx2.2).2.2 k hk
    have hk0:=(Il hg hx2.1 hx2.2).1.2.2.2.2.2.2.2.2 k hk
    exact ⟨hx1,⟨hk0.1,hed.1⟩,Drv.step x.op x.key x.val k hx3 hx2 hk hgo⟩
   ·cases hz
  have mv:∀z,(z∈best∨z∈x::list)→∃z',(z'∈(Dq best x).1∨z'∈list++La g x)∧z'.op=z.op∧z'.key=z.key∧z'.val≤z.val:=fun z hz=>by
   rcases hz with hz|hz
   ·by_cases hs:x.op=z.op∧x.epoch=z.epoch∧x.key=z.key
    ·refine ⟨x,.inl ((hmb x).2 (.inr rfl)),hs.1,hs.2.2,?_⟩
     by_cases hv:z.val≤x.val
     ·exact absurd (Ex.2 ⟨z,hz,⟨hs.1.symm,hs.2.1.symm,hs.2.2.symm⟩,hv⟩) hn
     ·omega
    ·exact ⟨z,.inl ((hmb z).2 (.inl ⟨hz,hs⟩)),rfl,rfl,Int.le_refl _⟩
   ·rcases List.mem_cons.1 hz with rfl|hz
    ·exact ⟨z,.inl ((hmb z).2 (.inr rfl)),rfl,rfl,Int.le_refl _⟩
    ·exact ⟨z,.inr (List.mem_append_left _ hz),rfl,rfl,Int.le_refl _⟩
  refine ⟨fun z hz=>?_,fun y' hy' k hk hgo=>?_,fun r hr hre=>?_,fun u hu v hv hs=>?_,Yq h.s⟩
  ·rcases hz with hz|hz
   ·rcases (hmb z).1 hz with ⟨hz,_⟩|rfl
    ·exact h.a z (.inl hz)
    ·exact ⟨hx1,hx2,hx3⟩
   ·rcases List.mem_append.1 hz with hz|hz
    ·exact h.a z (.inr (List.mem_cons_of_mem _ hz))
    ·exact hmo z hz
  ·rcases (hmb y').1 hy' with ⟨hy',_⟩|rfl
   ·obtain ⟨z,hz,z1,z2,z3⟩:=h.b y' hy' k hk hgo
    obtain ⟨z',w0,w1,w2,w3⟩:=mv z hz
    exact ⟨z',w0,w1.trans z1,w2.trans z2,Int.le_trans w3 z3⟩
   ·refine ⟨⟨k,y'.epoch,(As (A9 g y'.op) y'.key y'.val).1,(As (A9 g y'.op) y'.key y'.val).2.1⟩,.inr (List.mem_append_right _ ?_),rfl,rfl,Int.le_refl _⟩
    unfold La
    rw [if_pos hgo]
    exact List.mem_map.2 ⟨k,hk,rfl⟩
  ·obtain ⟨z,hz,z1,z2,z3⟩:=h.c r hr hre
   obtain ⟨z',w0,w1,w2,w3⟩:=mv z hz
   exact ⟨z',w0,w1.trans z1,w2.trans z2,Int.le_trans w3 z3⟩
  ·rcases (hmb u).1 hu with ⟨hu,hu2⟩|rfl<;>rcases (hmb v).1 hv with ⟨hv,hv2⟩|rfl
   ·exact h.d u hu v hv hs
   ·exact absurd ⟨hs.1.symm,hs.2.1.symm,hs.2.2.symm⟩ hu2
   ·exact absurd hs hv2
   ·rfl
theorem Yx {g:Ad}{ins:List A5}{e:Int}{best:List A7}(hg:E7 g)(hi:Uc ins)(h:Si g ins e best []){op k v:Int}(hd:Drv g ins e op k v):∃z∈best,z.op=op∧z.key=k∧z.val≤v:=by
 induction hd with
 |inp r hr he=>
  obtain ⟨z,hz|hz,q⟩:=h.c r hr he
  ·exact ⟨z,hz,q⟩
  ·cases hz
 |step op k v k' hd ho hk hgo ih=>
  obtain ⟨z,hz,z1,z2,z3⟩:=ih
  have h0:0≤z.val:=(Rn hg hi (h.a z (.inl hz)).2.2).2.1
  obtain ⟨c1,c2,c3⟩:=Rk hgo h0 z3
  rw [←z1] at hk
  rw [←z1,←z2] at c3
  obtain ⟨u,hu|hu,u1,u2,u3⟩:=h.b z hz k' hk c3
  ·rw [z1,z2] at u2 u3
   exact ⟨u,hu,u1,u2.trans c1,Int.le_trans u3 c2⟩
  ·cases hu
theorem B6c {g:Ad}{ins:List A5}{e:Int}{best:List A7}(hg:E7 g)(hi:Uc ins)(h:Si g ins e best [])(x:A7):x∈Ee g best↔B86 g ins e x:=by
 rw [A3z]
 constructor
 ·rintro ⟨hx,ho,h8⟩
  obtain ⟨x1,x2,x3⟩:=h.a x (.inl hx)
  refine ⟨x1,ho,h8,x3,fun v hv=>?_⟩
  obtain ⟨z,hz,z1,z2,z3⟩:=Yx hg hi h hv
  have hze:=(h.a z (.inl hz)).1
  rw [h.d x hx z hz ⟨z1.symm,x1.trans hze.symm,z2.symm⟩]
  exact z3
 ·rintro ⟨he,ho,h8,hd,hmin⟩
  obtain ⟨z,hz,z1,z2,z3⟩:=Yx hg hi h hd
  obtain ⟨y1,y2,y3⟩:=h.a z (.inl hz)
  rw [z1,z2] at y3
  have:=hmin _ y3
  have hxz:x=z:=by
   obtain ⟨x1,x2,x3,x4⟩:=x
   obtain ⟨z1',z2',z3',z4'⟩:=z
   simp only [A7.mk.injEq] at *
   omega
  rw [hxz] at ho h8 ⊢
  exact ⟨hz,ho,h8⟩
theorem B65 {g:Ad}{ins:List A5}{e:Int}{c:A3}{H:Int→Int→Int→Prop}{best:List A7}(h:Mw g ins e c H)(hg:E7 g)(hi:Uc ins)(hO:Kr c)(hnp:∀q,H7 c q→q.stamp.epoch≠e)(hcap:∀i,i<c.workers.length→Ck (wk c i) e=false)
  (hF:Si g ins e best []):Hv c e=Ee g best:=
 B40 (A4c c e) (hF.s.sublist List.filter_sublist) fun x=>(B66 h hg hi hO hnp hcap x).trans (B6c hg hi hF x).symm
def Mc (e:Int) (ins:List A5):List A7:=(ins.filter fun r=>r.stamp.epoch==e&&F9 r).map fun r=>⟨0,e,r.key,r.val⟩
theorem A5c {e:Int}{ins:List A5}{k:Nat}(h:k<ins.length):Mc e (ins.take (k+1))=Mc e (ins.take k)++(if ((ins.getD k default).stamp.epoch==e&&F9 (ins.getD k default))=true then [⟨0,e,(ins.getD k default).key,(ins.getD k default).val⟩] else []):=by
 have:ins.take (k+1)=ins.take k++[ins.getD k default]:=by
  rw [List.take_succ_eq_append_getElem h]
  simp [List.getD,h]
 unfold Mc
 rw [this,List.filter_append,List.map_append]
 congr 1
 simp only [List.filter_cons,List.filter_nil]
 split<;>rfl
theorem Xk (e:Int)(ins:List A5):(Mc e ins).length≤ins.length:=by
 unfold Mc
 rw [List.length_map]
 exact List.length_filter_le _ _
theorem B1m {g:Ad}{ins:List A5}{e:Int}(hg:E7 g)(hi:Uc ins):Si g ins e [] (Mc e ins):=by
 refine ⟨fun x hx=>?_,fun y hy=>(by cases hy),fun r hr hre=>?_,fun x hx=>(by cases hx),List.Pairwise.nil⟩
 ·rcases hx with hx|hx
  ·cases hx
  ·obtain ⟨r,hr,rfl⟩:=List.mem_map.1 hx
   obtain ⟨hr,hre⟩:=List.mem_filter.1 hr
   rw [Bool.and_eq_true] at hre
   have:=hg.1.1
   exact ⟨rfl,⟨Int.le_refl _,by show (0:Int)<_;omega⟩,Drv.inp r hr (eq_of_beq hre.1)⟩
 ·refine ⟨⟨0,e,r.key,r.val⟩,.inr (List.mem_map.2 ⟨r,List.mem_filter.2 ⟨hr,?_⟩,rfl⟩),rfl,rfl,Int.le_refl _⟩
  rw [Bool.and_eq_true]
  exact ⟨by rw [hre];exact beq_self_eq_true _,decide_eq_true (hi r hr).1⟩
def B2b (e:Int):List A7:=(List.range 800000).map fun (i:Nat)=>⟨((i / 100000:Nat):Int),e,((i / 1000 % 100:Nat):Int),((i % 1000:Nat):Int)⟩
theorem B2c {e:Int}{x:A7}(he:x.epoch=e)(ho:0≤x.op∧x.op≤7)(hk:Jd x.key x.val):x∈B2b e:=by
 obtain ⟨⟨k0,k1⟩,v0,v1⟩:=hk
 refine List.mem_map.2 ⟨x.op.toNat * 100000+x.key.toNat * 1000+x.val.toNat,List.mem_range.2 Ac,?_⟩
 obtain ⟨a,b,c,d⟩:=x
 simp only [A7.mk.injEq] at *
 omega
def Zz (e:Int) (best:List A7):Nat:=((B2b e).filter fun x=>!K7 5 best x).length
theorem B80 (e:Int)(best:List A7):Zz e best≤800000:=by
 have h1:Zz e best≤(B2b e).length:=List.length_filter_le _ _
 have h2:(B2b e).length=800000:=by unfold B2b;rw [List.length_map,List.length_range]
 omega
theorem B8c {g:Ad}{ins:List A5}{e:Int}{best list:List A7}{x:A7}(hg:E7 g)(hi:Uc ins)(h:Si g ins e best (x::list)):
  3 * Zz e (Eo g best x).1+(list++(Eo g best x).2).length<3 * Zz e best+(x::list).length∧(Eo g best x).1.length+Zz e (Eo g best x).1≤best.length+Zz e best:=by
 obtain ⟨hx1,hx2,hx3⟩:=h.a x (.inr (List.mem_cons_self ..))
 unfold Eo
 split
 ·rename_i hP
  split
  ·simp only [List.append_nil,List.length_cons]
   omega
  ·rename_i hn
   have hu:Zz e (Dq best x).1+1≤Zz e best:=by
    unfold Zz
    refine Qv _ _ _ (fun y _ hy=>?_) ⟨x,B2c hx1 ⟨hx2.1,by have:=hg.1.2;omega⟩ (Rn hg hi hx3),?_,?_⟩
    ·cases hc:K7 5 best y with
     |false=>rfl
     |true=>
      have:=Mi.2 (Qn (y:=x) (Mi.1 hc))
      rw [this] at hy
      cases hy
    ·cases hc:K7 5 best x with
     |false=>rfl
     |true=>exact absurd (Mi.1 hc) hn
    ·rw [Mi.2 Tn]
     rfl
   have hm:=A6u (g:=g) (x:=x)
   have ho:=(Il hg hx2.1 hx2.2).1.2.2.2.2.2.1
   have hb:(Dq best x).1.length≤best.length+1:=by
    unfold Dq
    rw [if_neg hn]
    have h1:=A1w (l:=best.filter fun y=>!B2 x y) (x:=x)
    have h2:=List.length_filter_le (fun y=>!B2 x y) best
    simp only
    omega
   have e2:(La g x).length≤2:=Nat.le_trans hm ho
   simp only [List.length_append,List.length_cons]
   omega
 ·simp only [List.append_nil,List.length_cons]
  omega
end Go.Proofs.YtonodkjaoalfjaaGreat
