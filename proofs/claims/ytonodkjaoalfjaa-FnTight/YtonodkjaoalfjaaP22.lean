/- Part 22 of the proof that each of the laws FnTight returns true for every input. No conditions. -/
import Derived.Test.YtonodkjaoalfjaaP21

set_option linter.unusedSimpArgs false
set_option linter.unusedVariables false
set_option maxRecDepth 100000
namespace Go.Proofs.Ytonodkjaoalfjaa
open Go.Sx
def A9z (a b : Int) (ins : List Ac) (q : Ac) : Prop :=
  ∃ r ∈ ins, ∃ t j : Nat, q.stamp.epoch = r.stamp.epoch ∧ q.stamp.turn = t ∧ t ≤ 6 ∧
    (((q.op = 0 ∨ q.op = 6) ∧ t = 0 ∧ q.key = r.key ∧ q.val = r.val) ∨
     ((q.op = 1 ∨ q.op = 2 ∨ q.op = 5) ∧ q.key = r.key + a * t ∧ q.val = r.val + b * j ∧ j ≤ t) ∨
     (q.op = 3 ∧ q.key = r.key + a * (t + 1) ∧ q.val = r.val + b * j ∧ j ≤ t) ∨
     (q.op = 4 ∧ q.key = r.key + a * (t + 1) ∧ q.val = r.val + b * j ∧ j ≤ t + 1))
def A4d (a b:Int) (ins:List Ac):List Ax:=ins.flatMap fun r=>(List.range 7).flatMap fun (t:Nat)=>(List.range (t+1)).map fun (j:Nat)=>⟨1,r.stamp.epoch,r.key+a * t,r.val+b * j⟩
theorem B1l (a b:Int):∀ins:List Ac,(A4d a b ins).length=28 * ins.length
 | []=>rfl
 |r::l=>by
  have:=B1l a b l
  unfold A4d at *
  rw [List.flatMap_cons,List.length_append,this,List.length_cons]
  have:((List.range 7).flatMap fun (t:Nat)=>(List.range (t+1)).map fun (j:Nat)=>(⟨1,r.stamp.epoch,r.key+a * t,r.val+b * j⟩:Ax)).length=28:=by
   simp [List.range,List.range.loop]
  rw [this]
  omega
def qw (op:Int):Nat:=[5,1,11,5,3,1,1].getD op.toNat 0
def pw1 (l:List Ac):Nat:=(l.map fun r=>qw r.op).sum
def pw2 (l:List Ac):Nat:=(l.map fun r=>qw r.op+1).sum
theorem B2s {l:List Ac}(h:0<l.length):pw1 (l.drop 1)+qw (l.getD 0 default).op=pw1 l:=by
 cases l with
 |nil=>cases h
 |cons x l=>unfold pw1;simp only [List.drop_succ_cons,List.drop_zero,List.getD_cons_zero,List.map_cons,List.sum_cons];omega
theorem B2t {l:List Ac}(h:0<l.length):pw2 (l.drop 1)+(qw (l.getD 0 default).op+1)=pw2 l:=by
 cases l with
 |nil=>cases h
 |cons x l=>unfold pw2;simp only [List.drop_succ_cons,List.drop_zero,List.getD_cons_zero,List.map_cons,List.sum_cons];omega
theorem A93 (l:List Ac)(r:Ac):pw1 (l++[r])=pw1 l+qw r.op:=by
 unfold pw1
 rw [List.map_append,List.sum_append]
 simp
structure B52 (g:An) (a b:Int) (ins:List Ac) (cs:List Ax) (r:Ac):Prop where
 der:∀q∈(Es g cs r).2.1,A9z a b ins q
 pot:pw2 (Es g cs r).2.1+1≤qw r.op+(if r.op=1∧A8t (Ae g 1).kind cs (F9 r)=false then 14 else 0)
theorem B3y (g:An)(r:Ac):pw2 (K4 g r)≤((Ae g r.op).outs.map fun k=>qw k+1).sum:=by
 unfold K4
 split
 ·exact Nat.zero_le _
 ·unfold pw2
  rw [List.map_map]
  exact Nat.le_refl _
theorem A8l {g:An}{r q:Ac}(h:q∈K4 g r):q.op∈(Ae g r.op).outs∧q.stamp.epoch=r.stamp.epoch∧q.key=(Bh (Ae g r.op) r.key r.val).1∧q.val=(Bh (Ae g r.op) r.key r.val).2.1∧
  ((Ae g r.op).kind≠7→q.stamp.turn=r.stamp.turn)∧((Ae g r.op).kind=7→q.stamp.turn=r.stamp.turn+1∧r.stamp.turn<6):=by
 have he:=B0h h
 unfold K4 at h
 split at h
 ·cases h
 ·rename_i hb
  obtain ⟨k,hk,rfl⟩:=List.mem_map.1 h
  refine ⟨hk,he,rfl,rfl,fun q=>?_,fun q=>?_⟩
  ·simp only
   rw [if_neg q]
  ·simp only
   rw [if_pos q]
   have:=Oq (s:=r.stamp) (by
    cases hn:(Cd r.stamp).2 with
    |true=>rfl
    |false=>exact absurd ⟨q,hn⟩ hb)
   rw [this.1]
   exact ⟨rfl,this.2.2.2⟩
theorem A8r {g:An}{cs:List Ax}{r q:Ac}(h:q∈(Es g cs r).2.1):q∈K4 g r:=by
 unfold Es at h
 (repeat' split at h)<;>first|exact h|cases h
theorem B3h {g:An}{cs:List Ax}{r:Ac}:pw2 (Es g cs r).2.1≤pw2 (K4 g r):=by
 unfold Es
 (repeat' split)<;>first|exact Nat.le_refl _|exact Nat.zero_le _
theorem B20 {g:An}{cs:List Ax}{r:Ac}(h:(Cz (Ae g r.op).kind cs (F9 r)).2=false):(Es g cs r).2.1=[]:=by
 unfold Es
 split
 ·split
  ·rfl
  ·rename_i hn
   simp only [h,if_true]
 ·rfl
theorem B4v {a b:Int}{ins:List Ac}{r:Ac}(h:A9z a b ins r):1≤qw r.op∧(r.op=0∨r.op=1∨r.op=2∨r.op=3∨r.op=4∨r.op=5∨r.op=6):=by
 obtain ⟨_,_,t,j,_,_,_,h⟩:=h
 have:r.op=0∨r.op=1∨r.op=2∨r.op=3∨r.op=4∨r.op=5∨r.op=6:=by omega
 refine ⟨?_,this⟩
 rcases this with e|e|e|e|e|e|e<;>rw [e]<;>decide
theorem B43 {a b:Int}{ins:List Ac}(hD:A4h ins)(ha:1≤a∧a≤3)(hb:0≤b∧b≤3){r:Ac}(h:A9z a b ins r):(0≤r.key∧r.key≤32)∧0≤r.val∧r.val≤60:=by
 obtain ⟨x,hx,t,j,_,_,ht,h⟩:=h
 obtain ⟨_,_,_,hk,hv⟩:=hD.2 x hx
 have ha':a=1∨a=2∨a=3:=by omega
 have hb':b=0∨b=1∨b=2∨b=3:=by omega
 rcases ha' with rfl|rfl|rfl<;>rcases hb' with rfl|rfl|rfl|rfl<;>omega
theorem B0k {g:An}{cs:List Ax}{r q:Ac}(h:q∈(Es g cs r).2.1):q∈K4 g r∧((Ae g r.op).kind=8∨(Bh (Ae g r.op) r.key r.val).2.2=true):=by
 unfold Es at h
 split at h
 ·split at h
  ·cases h
  ·rename_i hc
   have hc':(Ae g r.op).kind=8∨(Bh (Ae g r.op) r.key r.val).2.2=true:=by
    by_cases h8:(Ae g r.op).kind=8
    ·exact .inl h8
    ·cases hb:(Bh (Ae g r.op) r.key r.val).2.2 with
     |true=>exact .inr rfl
     |false=>exact absurd ⟨hb,h8⟩ hc
   split at h
   ·cases h
   ·exact ⟨h,hc'⟩
 ·cases h
theorem A87 {x:C3}{k v:Int}(h2:x.kind≠2)(h4:x.kind≠4):(Bh x k v).1=k∧(Bh x k v).2.1=v:=by
 unfold Bh
 rw [if_neg h2,if_neg h4]
 (repeat' split)<;>exact ⟨rfl,rfl⟩
theorem B1x {x:C3}{k v:Int}(h:x.kind=4)(hb:(Bh x k v).2.2=true)(h0:0≤k+x.a)(h1:k+x.a<100):(Bh x k v).1=k+x.a∧(Bh x k v).2.1=v:=by
 unfold Bh at *
 split at hb
 ·rename_i hp
  rw [if_pos hp,if_neg Ag,if_pos h]
  exact ⟨Int.tmod_eq_of_lt h0 h1,rfl⟩
 ·cases hb
theorem B2j {x:C3}{k v:Int}(h:x.kind=2)(hb:(Bh x k v).2.2=true)(h1:v+x.a<999):(Bh x k v).1=k∧(Bh x k v).2.1=v+x.a:=by
 unfold Bh at *
 split at hb
 ·rename_i hp
  rw [if_pos hp,if_pos h,if_pos h1]
  exact ⟨rfl,rfl⟩
 ·cases hb
theorem B5c (a:Int)(t:Nat):a * ((t:Int)+1)=a * t+a:=by rw [Int.mul_add,Int.mul_one]
theorem A9l (x:Int)(f:Int→Nat):([x].map f).sum=f x:=by simp
theorem B0f (x y:Int)(f:Int→Nat):([x,y].map f).sum=f x+f y:=by simp
theorem B54 {g:An}{a b:Int}{ins:List Ac}{cs:List Ax}{r:Ac}(hF:GrF g a b)(hD:A4h ins)(h:A9z a b ins r)(hl:r.op<g.nodes.length):B52 g a b ins cs r:=by
 have hrg:=B43 hD hF.ha hF.hb h
 have hop:=(B4v h).2
 obtain ⟨x,hx,t,j,he,htn,ht,hc⟩:=h
 have hS:=B5c a t
 have hT:=B5c b j
 have P:=B3h (g:=g) (cs:=cs) (r:=r)
 have E:=B3y g r
 rcases hop with o|o|o|o|o|o|o
 ·have n0:=hF.n0
  rw [←o] at n0
  refine ⟨fun q hq=>?_,?_⟩
  ·obtain ⟨m1,m2,m3,m4,m5,_⟩:=A8l (A8r hq)
   obtain ⟨c1,c2⟩:=A87 (k:=r.key) (v:=r.val) (x:=Ae g r.op) Ag Ag
   have hz:t=0∧r.key=x.key∧r.val=x.val:=by omega
   have m5:=m5 Ag
   have hq1:q.op=1∨q.op=6:=by
    rcases n0.2 with e|⟨e,_⟩<;>rw [e] at m1<;>simp at m1<;>omega
   refine ⟨x,hx,0,0,by omega,by omega,by omega,?_⟩
   rcases hq1 with q1|q1
   ·refine .inr (.inl ⟨.inl q1,?_,?_,Nat.le_refl _⟩)
    ·rw [m3,c1];simp;omega
    ·rw [m4,c2];simp;omega
   ·exact .inl ⟨.inr q1,rfl,by omega,by omega⟩
  ·rw [if_neg Ag]
   have:((Ae g r.op).outs.map fun k=>qw k+1).sum≤4:=by
    rcases n0.2 with e|⟨e,_⟩<;>rw [e]
    ·exact Nat.le_trans (Nat.le_of_eq (A9l 1 _)) Cb
    ·exact Nat.le_trans (Nat.le_of_eq (B0f 1 6 _)) Cb
   have:qw r.op=5:=by rw [o];rfl
   omega
 ·have n1:=hF.n1
  have hk1:Ae g r.op=Ae g 1:=by rw [o]
  rw [←hk1] at n1
  refine ⟨fun q hq=>?_,?_⟩
  ·obtain ⟨m1,m2,m3,m4,m5,_⟩:=A8l (A8r hq)
   obtain ⟨c1,c2⟩:=A87 (k:=r.key) (v:=r.val) (x:=Ae g r.op) Ag Ag
   have m5:=m5 Ag
   rw [n1.2] at m1
   have hq1:q.op=2∨q.op=5:=by simp at m1;omega
   exact ⟨x,hx,t,j,by omega,by omega,ht,.inr (.inl ⟨by omega,by omega,by omega,by omega⟩)⟩
  ·have:qw r.op=1:=by rw [o];rfl
   by_cases hg:A8t (Ae g 1).kind cs (F9 r)=false
   ·rw [if_pos ⟨o,hg⟩]
    have:((Ae g r.op).outs.map fun k=>qw k+1).sum≤14:=by
     rw [n1.2]
     exact Nat.le_trans (Nat.le_of_eq (B0f 2 5 _)) Cb
    omega
   ·rw [if_neg (fun q=>hg q.2)]
    have:(Es g cs r).2.1=[]:=B20 (by
     unfold A8t at hg
     rw [hk1]
     simpa using hg)
    rw [this]
    show 0+1≤_
    omega
 ·have n2:=hF.n2
  rw [←o] at n2
  refine ⟨fun q hq=>?_,?_⟩
  ·obtain ⟨hqe,hqc⟩:=B0k hq
   obtain ⟨m1,m2,m3,m4,m5,_⟩:=A8l hqe
   have ha:=hF.ha
   have hqc:=hqc.resolve_left Ag
   obtain ⟨c1,c2⟩:=B1x n2.1 hqc Ag Ag
   have m5:=m5 Ag
   have hq1:q.op=3∨q.op=4:=by
    rcases n2.2.2 with e|e<;>rw [e] at m1<;>simp at m1<;>omega
   refine ⟨x,hx,t,j,by omega,by omega,ht,?_⟩
   rcases hq1 with q1|q1
   ·exact .inr (.inr (.inl ⟨q1,by omega,by omega,by omega⟩))
   ·exact .inr (.inr (.inr ⟨q1,by omega,by omega,by omega⟩))
  ·rw [if_neg Ag]
   have:((Ae g r.op).outs.map fun k=>qw k+1).sum≤10:=by
    rcases n2.2.2 with e|e<;>rw [e]
    ·exact Nat.le_trans (Nat.le_of_eq (A9l 3 _)) Cb
    ·exact Nat.le_trans (Nat.le_of_eq (B0f 3 4 _)) Cb
   have:qw r.op=11:=by rw [o];rfl
   omega
 ·have n3:=hF.n3
  rw [←o] at n3
  refine ⟨fun q hq=>?_,?_⟩
  ·obtain ⟨hqe,hqc⟩:=B0k hq
   obtain ⟨m1,m2,m3,m4,m5,_⟩:=A8l hqe
   have m5:=m5 Ag
   rw [n3.2] at m1
   have hq1:q.op=4:=by simpa using m1
   have hb:=hF.hb
   rcases n3.1 with ⟨k2,ab⟩|k3
   ·have hqc:=hqc.resolve_left Ag
    obtain ⟨c1,c2⟩:=B2j k2 hqc Ag
    refine ⟨x,hx,t,j+1,by omega,by omega,ht,.inr (.inr (.inr ⟨hq1,by omega,?_,by omega⟩))⟩
    show _=x.val+b * ((j:Int)+1)
    omega
   ·obtain ⟨c1,c2⟩:=A87 (k:=r.key) (v:=r.val) (x:=Ae g r.op) Ag Ag
    exact ⟨x,hx,t,j,by omega,by omega,ht,.inr (.inr (.inr ⟨hq1,by omega,by omega,by omega⟩))⟩
  ·rw [if_neg Ag]
   have:((Ae g r.op).outs.map fun k=>qw k+1).sum≤4:=by
    rw [n3.2]
    exact Nat.le_trans (Nat.le_of_eq (A9l 4 _)) Cb
   have:qw r.op=5:=by rw [o];rfl
   omega
 ·have n4:=hF.n4
  rw [←o] at n4
  refine ⟨fun q hq=>?_,?_⟩
  ·obtain ⟨m1,m2,m3,m4,_,m6⟩:=A8l (A8r hq)
   rcases n4 with ⟨k7,e⟩|⟨k8,e⟩
   ·obtain ⟨c1,c2⟩:=A87 (k:=r.key) (v:=r.val) (x:=Ae g r.op) Ag Ag
    obtain ⟨m6,m7⟩:=m6 k7
    rw [e] at m1
    have hq1:q.op=1:=by simpa using m1
    refine ⟨x,hx,t+1,j,by omega,by omega,by omega,.inr (.inl ⟨.inl hq1,?_,by omega,by omega⟩)⟩
    show _=x.key+a * ((t:Int)+1)
    omega
   ·rw [e] at m1
    cases m1
  ·rw [if_neg Ag]
   have:((Ae g r.op).outs.map fun k=>qw k+1).sum≤2:=by
    rcases n4 with ⟨_,e⟩|⟨_,e⟩<;>rw [e]
    ·exact Nat.le_trans (Nat.le_of_eq (A9l 1 _)) Cb
    ·decide
   have:qw r.op=3:=by rw [o];rfl
   omega
 ·have n5:=hF.n5
  rw [←o] at n5
  refine ⟨fun q hq=>?_,?_⟩
  ·obtain ⟨m1,_⟩:=A8l (A8r hq)
   rw [n5.2] at m1
   cases m1
  ·rw [if_neg Ag]
   rw [n5.2] at E
   have:qw r.op=1:=by rw [o];rfl
   have E:pw2 (K4 g r)≤0:=E
   omega
 ·have n6:=hF.n6 (by have:=hF.len;omega)
  rw [←o] at n6
  refine ⟨fun q hq=>?_,?_⟩
  ·obtain ⟨m1,_⟩:=A8l (A8r hq)
   rw [n6.2] at m1
   cases m1
  ·rw [if_neg Ag]
   rw [n6.2] at E
   have:qw r.op=1:=by rw [o];rfl
   have E:pw2 (K4 g r)≤0:=E
   omega
theorem B3u {a b:Int}{ins:List Ac}{r:Ac}(h:A9z a b ins r)(ho:r.op=1):F9 r∈A4d a b ins:=by
 obtain ⟨x,hx,t,j,he,htn,ht,hc⟩:=h
 have hc:r.key=x.key+a * t∧r.val=x.val+b * j∧j≤t:=by omega
 refine List.mem_flatMap.2 ⟨x,hx,List.mem_flatMap.2 ⟨t,List.mem_range.2 Ag,List.mem_map.2 ⟨j,List.mem_range.2 Ag,?_⟩⟩⟩
 unfold F9
 rw [ho,he,hc.1,hc.2.1]
structure A8k (g:An) (a b:Int) (ins:List Ac) (c:A3):Prop where
 gr:c.graph=g
 q:∀i,i<c.workers.length→∀r∈(wk c i).queue,A9z a b ins r∧De r.key g.workers=i
 s:∀i,i<c.workers.length→∀r∈(wk c i).staged,A9z a b ins r
 n:∀i,i<c.workers.length→∀r∈(wk c i).inputs,A9z a b ins r∧De r.key g.workers=i
 l:∀j,j<c.links.length→∀r∈(c.links.getD j default).queue,A9z a b ins r∧De r.key g.workers=(j:Int).tmod g.workers
def A8e (w:Ad):Nat:=pw1 w.queue+pw2 w.staged+pw2 w.inputs
def A82 (l:C0):Nat:=pw1 l.queue
def B0x (c:A3) (x:Ax):Bool:=A8t (Ae c.graph 1).kind (wk c (De x.key c.graph.workers).toNat).cells x
def A8m (c:A3) (S:List Ax):Nat:=(S.filter fun x=>!B0x c x).length
def pot (S:List Ax) (c:A3):Nat:=(c.workers.map A8e).sum+(c.links.map A82).sum+14 * A8m c S
theorem A8k.set {g:An}{a b:Int}{ins:List Ac}{c:A3}{w:Int}{v:Ad}(h:A8k g a b ins c)(hq:∀r∈v.queue,A9z a b ins r∧De r.key g.workers=w.toNat)(hs:∀r∈v.staged,A9z a b ins r)
  (hn:∀r∈v.inputs,A9z a b ins r∧De r.key g.workers=w.toNat):A8k g a b ins (Av c w v):=by
 have hws:∀i,i<(Av c w v).workers.length→(wk (Av c w v) i=wk c i∧i<c.workers.length)∨(i=w.toNat∧wk (Av c w v) i=v):=fun i hi=>by
  simp only [Av,List.length_set] at hi
  unfold wk Av
  simp only
  rw [A63]
  split
  ·rename_i e;exact .inr ⟨e.1,rfl⟩
  ·exact .inl ⟨rfl,hi⟩
 refine ⟨h.gr,fun i hi r hr=>?_,fun i hi r hr=>?_,fun i hi r hr=>?_,h.l⟩
 ·rcases hws i hi with ⟨e,hi'⟩|⟨e0,e⟩
  ·rw [e] at hr;exact h.q i hi' r hr
  ·rw [e] at hr;rw [e0];exact hq r hr
 ·rcases hws i hi with ⟨e,hi'⟩|⟨e0,e⟩
  ·rw [e] at hr;exact h.s i hi' r hr
  ·rw [e] at hr;exact hs r hr
 ·rcases hws i hi with ⟨e,hi'⟩|⟨e0,e⟩
  ·rw [e] at hr;exact h.n i hi' r hr
  ·rw [e] at hr;rw [e0];exact hn r hr
theorem A8k.lnk {g:An}{a b:Int}{ins:List Ac}{c:A3}{k:Int}{l:C0}(h:A8k g a b ins c)(hl:∀r∈l.queue,A9z a b ins r∧De r.key g.workers=(k.toNat:Int).tmod g.workers):A8k g a b ins (Bo c k l):=by
 refine ⟨h.gr,h.q,h.s,h.n,fun j hj r hr=>?_⟩
 simp only [Bo,List.length_set] at hj
 unfold Bo at hr
 simp only at hr
 rw [A63] at hr
 split at hr
 ·rename_i e;rw [e.1];exact hl r hr
 ·exact h.l j hj r hr
theorem A8k.same {g:An}{a b:Int}{ins:List Ac}{c c':A3}(h:A8k g a b ins c)(hg:c'.graph=c.graph)(hl:c'.links=c.links)(hn:c'.workers.length=c.workers.length)(hw:∀i,(wk c' i).queue=(wk c i).queue∧(wk c' i).staged=(wk c i).staged∧(wk c' i).inputs=(wk c i).inputs):A8k g a b ins c':=by
 refine ⟨by rw [hg];exact h.gr,fun i hi r hr=>?_,fun i hi r hr=>?_,fun i hi r hr=>?_,fun j hj r hr=>?_⟩
 ·rw [(hw i).1] at hr;exact h.q i Ag r hr
 ·rw [(hw i).2.1] at hr;exact h.s i Ag r hr
 ·rw [(hw i).2.2] at hr;exact h.n i Ag r hr
 ·rw [hl] at hr hj;exact h.l j hj r hr
def A79 (c c':A3):Prop:=c'.graph=c.graph∧c'.links=c.links∧c'.workers.length=c.workers.length∧∀i,(wk c' i).queue=(wk c i).queue∧(wk c' i).staged=(wk c i).staged∧(wk c' i).inputs=(wk c i).inputs∧(wk c' i).cells=(wk c i).cells
theorem A79.refl (c:A3):A79 c c:=⟨rfl,rfl,rfl,fun _=>⟨rfl,rfl,rfl,rfl⟩⟩
theorem A79.trans {c c' c'':A3}(h:A79 c c')(h':A79 c' c''):A79 c c'':=
 ⟨h'.1.trans h.1,h'.2.1.trans h.2.1,h'.2.2.1.trans h.2.2.1,fun i=>⟨(h'.2.2.2 i).1.trans (h.2.2.2 i).1,(h'.2.2.2 i).2.1.trans (h.2.2.2 i).2.1,(h'.2.2.2 i).2.2.1.trans (h.2.2.2 i).2.2.1,(h'.2.2.2 i).2.2.2.trans (h.2.2.2 i).2.2.2⟩⟩
theorem A79.set {c:A3}{w:Int}{v:Ad}(h:v.queue=(A9 c w).queue∧v.staged=(A9 c w).staged∧v.inputs=(A9 c w).inputs∧v.cells=(A9 c w).cells):A79 c (Av c w v):=by
 refine ⟨rfl,rfl,by simp only [Av,List.length_set],fun i=>?_⟩
 unfold wk Av
 simp only
 rw [A63]
 split
 ·rename_i e
  unfold A9 at h
  rw [←e.1] at h
  exact h
 ·exact ⟨rfl,rfl,rfl,rfl⟩
theorem A9x (c:A3)(e:Int):A79 c (C2 c e).1:=by
 unfold C2
 dsimp only
 split
 ·split
  ·exact A79.set (c:=Cs c _ _) ⟨rfl,rfl,rfl,rfl⟩
  split
  ·split
   ·exact A79.set (c:=Cs c _ _) ⟨rfl,rfl,rfl,rfl⟩
   ·exact A79.refl c
  ·rename_i hT _ hA
   unfold H2
   split
   ·have h0:(Ab c e).at_.toNat=(0:Int).toNat:=by
     have:¬ (Ab c e).at_>0:=hA
     have h00:(0:Int).toNat=0:=rfl
     omega
    have hw:A9 (Cs c e ⟨false,(Ab c e).at_,(Ab c e).sum,(Ab c e).black,(Ab c e).capped⟩) 0=A9 c (Ab c e).at_:=by
     unfold A9
     rw [h0]
     rfl
    exact A79.set (c:=Cs c _ _) (by rw [hw];exact ⟨rfl,rfl,rfl,rfl⟩)
   ·exact A79.refl c
 ·exact A79.refl c
theorem A9n (c:A3)(w:Int):A79 c (D9 c w).1:=by
 unfold D9
 split
 ·split
  ·exact A79.refl c
  ·exact A79.set (c:=Ip c _) ⟨rfl,rfl,rfl,rfl⟩
 ·exact A79.refl c
theorem B4k {α:Type} [Inhabited α] (f:α→Nat){l l':List α}(hl:l'.length=l.length)(h:∀i,i<l.length→f (l'.getD i default)=f (l.getD i default)):l'.map f=l.map f:=by
 refine List.ext_getElem (by simpa using hl) fun i h1 h2=>?_
 simp only [List.length_map] at h1 h2
 have:=h i h2
 simp only [List.getD,List.getElem?_eq_getElem h1,List.getElem?_eq_getElem h2,Option.getD_some] at this
 simpa using this
theorem A79.potS {c c':A3}(h:A79 c c')(S:List Ax):pot S c'=pot S c:=by
 obtain ⟨h1,h2,h3,h4⟩:=h
 have e1:c'.workers.map A8e=c.workers.map A8e:=B4k A8e h3 fun i _=>by
  obtain ⟨a1,a2,a3,_⟩:=h4 i
  show A8e (wk c' i)=A8e (wk c i)
  unfold A8e
  rw [a1,a2,a3]
 have e2:A8m c' S=A8m c S:=by
  unfold A8m
  congr 1
  refine List.filter_congr fun x _=>?_
  unfold B0x
  rw [h1,(h4 _).2.2.2]
 unfold pot
 rw [e1,e2,h2]
theorem A79.der {g:An}{a b:Int}{ins:List Ac}{c c':A3}(h:A79 c c')(hD:A8k g a b ins c):A8k g a b ins c':=hD.same h.1 h.2.1 h.2.2.1 fun i=>⟨(h.2.2.2 i).1,(h.2.2.2 i).2.1,(h.2.2.2 i).2.2.1⟩
theorem B0y {c:A3}{w:Int}{v:Ad}(x:Ax):B0x (Av c w v) x=if (De x.key c.graph.workers).toNat=w.toNat∧w.toNat<c.workers.length then A8t (Ae c.graph 1).kind v.cells x else B0x c x:=by
 unfold B0x
 show A8t _ (wk (Av c w v) (De x.key c.graph.workers).toNat).cells x=_
 unfold wk Av
 simp only
 rw [A63]
 split<;>rfl
theorem A85 {c:A3}{w:Int}{v:Ad}{S:List Ax}(h:∀x∈S,A8t (Ae c.graph 1).kind (A9 c w).cells x=true→A8t (Ae c.graph 1).kind v.cells x=true):A8m (Av c w v) S≤A8m c S:=by
 unfold A8m
 refine A9s _ _ _ fun x hx hq=>?_
 rw [B0y] at hq
 split at hq
 ·rename_i e
  cases hc:B0x c x with
  |false=>rfl
  |true=>
   unfold B0x at hc
   rw [e.1] at hc
   rw [h x hx hc] at hq
   cases hq
 ·exact hq
theorem B3j {c:A3}{w:Int}{v:Ad}{S:List Ax}{y:Ax}(h:∀x∈S,A8t (Ae c.graph 1).kind (A9 c w).cells x=true→A8t (Ae c.graph 1).kind v.cells x=true)(hy:y∈S)(hw:(De y.key c.graph.workers).toNat=w.toNat∧w.toNat<c.workers.length)
  (h1:A8t (Ae c.graph 1).kind (A9 c w).cells y=false)(h2:A8t (Ae c.graph 1).kind v.cells y=true):A8m (Av c w v) S+1≤A8m c S:=by
 unfold A8m
 refine B00 _ _ _ (fun x hx hq=>?_) ⟨y,hy,?_,?_⟩
 ·rw [B0y] at hq
  split at hq
  ·rename_i e
   cases hc:B0x c x with
   |false=>rfl
   |true=>
    unfold B0x at hc
    rw [e.1] at hc
    rw [h x hx hc] at hq
    cases hq
  ·exact hq
 ·have:B0x c y=false:=by
   unfold B0x
   rw [hw.1]
   exact h1
  rw [this]
  rfl
 ·rw [B0y,if_pos hw,h2]
  rfl
theorem A9g {c:A3}{w:Int}{v:Ad}{S:List Ax}(h:0≤w∧w<c.workers.length):pot S (Av c w v)+A8e (A9 c w)+14 * A8m c S=pot S c+A8e v+14 * A8m (Av c w v) S:=by
 have:=Uh A8e c.workers w.toNat v Ag
 have e:A8e (A9 c w)=A8e (c.workers.getD w.toNat default):=rfl
 have e1:pot S (Av c w v)=((c.workers.set w.toNat v).map A8e).sum+(c.links.map A82).sum+14 * A8m (Av c w v) S:=rfl
 have e2:pot S c=(c.workers.map A8e).sum+(c.links.map A82).sum+14 * A8m c S:=rfl
 omega
theorem B07 {c:A3}{k:Int}{l:C0}{S:List Ax}(h:0≤k∧k<c.links.length):pot S (Bo c k l)+A82 (Bc c k)=pot S c+A82 l:=by
 have:=Uh A82 c.links k.toNat l Ag
 have e:A82 (Bc c k)=A82 (c.links.getD k.toNat default):=rfl
 have e1:pot S (Bo c k l)=(c.workers.map A8e).sum+((c.links.set k.toNat l).map A82).sum+14 * A8m c S:=rfl
 have e2:pot S c=(c.workers.map A8e).sum+(c.links.map A82).sum+14 * A8m c S:=rfl
 omega
theorem B2d {g:An}{cs:List Ax}{r:Ac}:(Es g cs r).1=cs∨(Es g cs r).1=(Cz (Ae g r.op).kind cs (F9 r)).1:=by
 unfold Es
 (repeat' split)<;>first|exact .inl rfl|exact .inr rfl
theorem B2z {g:An}{cs:List Ax}{r:Ac}(h:Ig g r)(hk:(Ae g r.op).kind=5∨(Ae g r.op).kind=6):(Es g cs r).1=(Cz (Ae g r.op).kind cs (F9 r)).1:=by
 have hc:(Bh (Ae g r.op) r.key r.val).2.2=true:=by
  unfold Bh
  rw [if_pos ⟨(Su h.1 h.2.1.1.1 h.2.2).1,h.2.1.2.2.2⟩,if_neg Ag,if_neg Ag,if_neg Ag]
  simp only [bne_iff_ne,ne_eq]
  omega
 unfold Es
 rw [if_pos h,if_neg (by rw [hc];exact fun q=>Bool.noConfusion q.1)]
 split<;>rfl
theorem B4f {a b:Int}{ins:List Ac}{x:Ax}(h:x∈A4d a b ins):x.op=1:=by
 simp only [A4d,List.mem_flatMap,List.mem_map] at h
 obtain ⟨_,_,_,_,_,_,rfl⟩:=h
 rfl
theorem B3x {w:Ad}(h:0<w.queue.length):pw1 (w.queue.drop 1)+qw (w.queue.getD 0 default).op=pw1 w.queue:=B2s h
theorem B2r {g:An}{a b:Int}{ins:List Ac}{c:A3}{p:Bl}(hF:GrF g a b)(hI:A4h ins)(hC:Ar c)(hD:A8k g a b ins c):
  A8k g a b ins (Ao c p).1∧pot (A4d a b ins) (Ao c p).1≤pot (A4d a b ins) c∧((p.kind=1∨p.kind=2∨p.kind=3)→(Ao c p).2=true→pot (A4d a b ins) (Ao c p).1+1≤pot (A4d a b ins) c):=by
 have hg:=hD.gr
 have idle:∀{d:A3×Bool},d=(c,false)→A8k g a b ins d.1∧pot (A4d a b ins) d.1≤pot (A4d a b ins) c∧((p.kind=1∨p.kind=2∨p.kind=3)→d.2=true→pot (A4d a b ins) d.1+1≤pot (A4d a b ins) c):=fun e=>by
  rw [e]
  exact ⟨hD,Nat.le_refl _,fun _ q=>Bool.noConfusion q⟩
 have strict:∀{d:A3×Bool},A8k g a b ins d.1→pot (A4d a b ins) d.1+1≤pot (A4d a b ins) c→A8k g a b ins d.1∧pot (A4d a b ins) d.1≤pot (A4d a b ins) c∧((p.kind=1∨p.kind=2∨p.kind=3)→d.2=true→pot (A4d a b ins) d.1+1≤pot (A4d a b ins) c):=fun h1 h2=>⟨h1,by omega,fun _ _=>h2⟩
 by_cases k1:p.kind=1
 ·have e0:Ao c p=Df c p.a:=by unfold Ao;rw [if_pos k1]
  rw [e0]
  unfold Df
  split
  ·rename_i hW
   unfold H4
   split
   ·rename_i hP
    have hi:p.a.toNat<c.workers.length:=by have:=hW.2;omega
    obtain ⟨_,hwp,hst,hql⟩:=hP
    have hrq:=hD.q p.a.toNat hi _ (B9 (d:=default) hql)
    have hro:=hwp.1.1 _ (B9 (d:=default) hql)
    generalize hr:(A9 c p.a).queue.getD 0 default=r at *
    have hr':(wk c p.a.toNat).queue.getD 0 default=r:=hr
    rw [hr'] at hrq
    have hO:=B54 (cs:=(A9 c p.a).cells) hF hI hrq.1 (by rw [←hg];exact hro.2)
    have hSP:Ig g r:=⟨by rw [←hg];exact hC.1.1,hro.1,by rw [←hg];exact hro.2⟩
    have hwk:J3 c.graph (A9 c p.a)=⟨(A9 c p.a).queue.drop 1,(Es g (A9 c p.a).cells r).2.1,(A9 c p.a).inputs,(Es g (A9 c p.a).cells r).1,(A9 c p.a).sums,(A9 c p.a).black,if capped g r=true then (A9 c p.a).caps.set r.stamp.epoch.toNat true else (A9 c p.a).caps,(A9 c p.a).dones⟩:=by
     unfold J3
     rw [hr,hg]
    refine strict ?_ ?_
    ·rw [hwk]
     exact hD.set (fun q hq=>hD.q _ hi q (A8c hq)) (fun q hq=>hO.der q hq) (fun q hq=>hD.n _ hi q hq)
    ·have hk1:(Ae g 1).kind=5∨(Ae g 1).kind=6:=hF.n1.1
     have hmono:∀x∈A4d a b ins,A8t (Ae c.graph 1).kind (A9 c p.a).cells x=true→A8t (Ae c.graph 1).kind (J3 c.graph (A9 c p.a)).cells x=true:=fun x hx hc=>by
      rw [hwk,hg] at *
      simp only
      rcases B2d (g:=g) (cs:=(A9 c p.a).cells) (r:=r) with e|e
      ·rw [e];exact hc
      ·rw [e]
       exact B3g hk1 hc fun q=>by
        have:r.op=1:=by rw [←B4f hx];exact q
        rw [this]
     have hps:=A9g (S:=A4d a b ins) (v:=J3 c.graph (A9 c p.a)) hW.2
     have hpv:A8e (J3 c.graph (A9 c p.a))=pw1 ((A9 c p.a).queue.drop 1)+pw2 (Es g (A9 c p.a).cells r).2.1+pw2 (A9 c p.a).inputs:=by rw [hwk];rfl
     have hpo:A8e (A9 c p.a)=pw1 (A9 c p.a).queue+0+pw2 (A9 c p.a).inputs:=by
      have:(A9 c p.a).staged=[]:=List.eq_nil_of_length_eq_zero hst
      unfold A8e
      rw [this]
      rfl
     have hdq:=B3x hql
     rw [hr] at hdq
     have hOp:=hO.pot
     have hpo2:1≤qw r.op:=(B4v hrq.1).1
     by_cases hgt:r.op=1∧A8t (Ae g 1).kind (A9 c p.a).cells (F9 r)=false
     ·rw [if_pos hgt] at hOp
      have hun:=B3j (v:=J3 c.graph (A9 c p.a)) (S:=A4d a b ins) (y:=F9 r) hmono (B3u hrq.1 hgt.1) ⟨by
       have:(F9 r).key=r.key:=rfl
       rw [this,hg,hrq.2]
       rfl,hi⟩ (by rw [hg];exact hgt.2) (by
       rw [hwk,hg]
       simp only
       rw [B2z hSP (by rw [hgt.1];exact hk1),hgt.1]
       exact B2v hk1)
      simp only
      omega
     ·rw [if_neg hgt] at hOp
      have hun:=A85 (v:=J3 c.graph (A9 c p.a)) (S:=A4d a b ins) hmono
      simp only
      omega
   ·exact idle (Prod.ext (A8z c p.a) rfl)
  ·exact idle rfl
 by_cases k2:p.kind=2
 ·have e0:Ao c p=Ct c p.a:=by unfold Ao;rw [if_neg k1,if_pos k2]
  rw [e0]
  unfold Ct
  split
  ·rename_i hW
   unfold Et
   split
   ·rename_i hP
    have hi:p.a.toNat<c.workers.length:=by have:=hW.2;omega
    obtain ⟨_,hwp,hst,hql,hil⟩:=hP
    have hrn:=hD.n p.a.toNat hi _ (B9 (d:=default) hil)
    refine strict ?_ ?_
    ·refine hD.set (fun q hq=>?_) (fun q hq=>hD.s _ hi q hq) (fun q hq=>hD.n _ hi q (A8c hq))
     rcases List.mem_append.1 hq with hq|hq
     ·exact hD.q _ hi q hq
     ·rw [List.mem_singleton.1 hq];exact hrn
    ·have hps:=A9g (S:=A4d a b ins) (v:=Hy (A9 c p.a)) hW.2
     have hun:=A85 (c:=c) (w:=p.a) (v:=Hy (A9 c p.a)) (S:=A4d a b ins) fun x _ hc=>hc
     have hpv:A8e (Hy (A9 c p.a))=pw1 ((A9 c p.a).queue++[(A9 c p.a).inputs.getD 0 default])+pw2 (A9 c p.a).staged+pw2 ((A9 c p.a).inputs.drop 1):=rfl
     have hpo:A8e (A9 c p.a)=pw1 (A9 c p.a).queue+pw2 (A9 c p.a).staged+pw2 (A9 c p.a).inputs:=rfl
     rw [A93] at hpv
     have:=B2t hil
     simp only
     omega
   ·exact idle (Prod.ext (A8z c p.a) rfl)
  ·exact idle rfl
 by_cases k3:p.kind=3
 ·have e0:Ao c p=Br c p.a:=by unfold Ao;rw [if_neg k1,if_neg k2,if_pos k3]
  rw [e0]
  unfold Br
  split
  ·rename_i hM
   obtain ⟨hW,hs⟩:=hM
   have hi:p.a.toNat<c.workers.length:=by have:=hW.2;omega
   have hfs:A9z a b ins (Au c p.a):=hD.s p.a.toNat hi _ (B9 (d:=default) hs)
   have hfr:=Q7 hW hs
   have hown:=X0 hfr.1.2.2.2.1.1 hC.1.1.2.1.1
   have hdr:=B2t hs
   have hfe:(A9 c p.a).staged.getD 0 default=Au c p.a:=rfl
   rw [hfe] at hdr
   split
   ·rename_i hself
    have hself':De (Au c p.a).key c.graph.workers=p.a:=hself
    refine strict ?_ ?_
    ·refine hD.set (fun q hq=>?_) (fun q hq=>hD.s _ hi q (A8c hq)) (fun q hq=>hD.n _ hi q hq)
     rcases List.mem_append.1 hq with hq|hq
     ·exact hD.q _ hi q hq
     ·rw [List.mem_singleton.1 hq]
      exact ⟨hfs,by rw [←hg];omega⟩
    ·have hps:=A9g (S:=A4d a b ins) (v:=kept (Dv (A9 c p.a)) (Au c p.a)) hW.2
     have hun:=A85 (c:=c) (w:=p.a) (v:=kept (Dv (A9 c p.a)) (Au c p.a)) (S:=A4d a b ins) fun x _ hc=>hc
     have hpv:A8e (kept (Dv (A9 c p.a)) (Au c p.a))=pw1 ((A9 c p.a).queue++[Au c p.a])+pw2 ((A9 c p.a).staged.drop 1)+pw2 (A9 c p.a).inputs:=rfl
     have hpo:A8e (A9 c p.a)=pw1 (A9 c p.a).queue+pw2 (A9 c p.a).staged+pw2 (A9 c p.a).inputs:=rfl
     rw [A93] at hpv
     simp only
     omega
   ·rename_i hne
    split
    ·rename_i hsend
     have hb:0≤p.a∧p.a<c.graph.workers:=by have:=hC.1.2.1;exact ⟨hW.2.1,by have:=hW.2.2;omega⟩
     obtain ⟨hk,_,hkt⟩:=I4 hC hb (Ss hW hs)
     have hq:(C6 (Bc c (Ai c p.a (As c p.a))) (Au c p.a)).1.queue=(Bc c (Ai c p.a (As c p.a))).queue++[Au c p.a]:=by
      unfold C6 at hsend ⊢
      split at hsend
      ·rename_i hp;rw [if_pos hp]
      ·cases hsend
     have hsa:(G3 (Dv (A9 c p.a)) (Au c p.a).stamp.epoch).queue=(A9 c p.a).queue∧(G3 (Dv (A9 c p.a)) (Au c p.a).stamp.epoch).staged=(A9 c p.a).staged.drop 1∧(G3 (Dv (A9 c p.a)) (Au c p.a).stamp.epoch).inputs=(A9 c p.a).inputs∧(G3 (Dv (A9 c p.a)) (Au c p.a).stamp.epoch).cells=(A9 c p.a).cells:=by
      unfold G3
      split<;>exact ⟨rfl,rfl,rfl,rfl⟩
     refine strict ?_ ?_
     ·have hl:=hD.lnk (k:=Ai c p.a (As c p.a)) (l:=(C6 (Bc c (Ai c p.a (As c p.a))) (Au c p.a)).1) (fun q hq'=>by
       rw [hq] at hq'
       rcases List.mem_append.1 hq' with hq'|hq'
       ·exact hD.l _ Ag q hq'
       ·rw [List.mem_singleton.1 hq',←hg,hkt]
        exact ⟨hfs,rfl⟩)
      refine hl.set (fun q hq'=>?_) (fun q hq'=>?_) (fun q hq'=>?_)
      ·rw [hsa.1] at hq';exact hD.q _ hi q hq'
      ·rw [hsa.2.1] at hq';exact hD.s _ hi q (A8c hq')
      ·rw [hsa.2.2.1] at hq';exact hD.n _ hi q hq'
     ·have hpl:=B07 (S:=A4d a b ins) (l:=(C6 (Bc c (Ai c p.a (As c p.a))) (Au c p.a)).1) hk
      have hps:=A9g (c:=Bo c (Ai c p.a (As c p.a)) (C6 (Bc c (Ai c p.a (As c p.a))) (Au c p.a)).1) (S:=A4d a b ins) (v:=G3 (Dv (A9 c p.a)) (Au c p.a).stamp.epoch) hW.2
      have hun:=A85 (c:=Bo c (Ai c p.a (As c p.a)) (C6 (Bc c (Ai c p.a (As c p.a))) (Au c p.a)).1) (w:=p.a) (v:=G3 (Dv (A9 c p.a)) (Au c p.a).stamp.epoch) (S:=A4d a b ins) fun x _ hc=>by rw [hsa.2.2.2];exact hc
      have hpv:A8e (G3 (Dv (A9 c p.a)) (Au c p.a).stamp.epoch)=pw1 (A9 c p.a).queue+pw2 ((A9 c p.a).staged.drop 1)+pw2 (A9 c p.a).inputs:=by
       unfold A8e
       rw [hsa.1,hsa.2.1,hsa.2.2.1]
      have hpo:A8e (A9 (Bo c (Ai c p.a (As c p.a)) (C6 (Bc c (Ai c p.a (As c p.a))) (Au c p.a)).1) p.a)=pw1 (A9 c p.a).queue+pw2 (A9 c p.a).staged+pw2 (A9 c p.a).inputs:=rfl
      have hpq:A82 (C6 (Bc c (Ai c p.a (As c p.a))) (Au c p.a)).1=A82 (Bc c (Ai c p.a (As c p.a)))+qw (Au c p.a).op:=by
       unfold A82
       rw [hq,A93]
      simp only
      omega
    ·exact idle rfl
  ·exact idle rfl
 by_cases k4:p.kind=4
 ·have e0:Ao c p=Ck c p.a p.b:=by unfold Ao;rw [if_neg k1,if_neg k2,if_neg k3,if_pos k4]
  rw [e0]
  unfold Ck
  split
  ·rename_i hm
   obtain ⟨hL,htk⟩:=hm
   obtain ⟨hkb,_,hkt⟩:=I4 hC hL.2.2.1 hL.2.2.2
   have ht:0≤p.b∧p.b<c.workers.length:=by have:=hC.1.2.1;have:=hL.2.2.2;omega
   have hi:p.b.toNat<c.workers.length:=by omega
   have hq:(Bn (Bc c (Ai c p.a p.b))).1.queue=(Bc c (Ai c p.a p.b)).queue.drop 1∧(Bn (Bc c (Ai c p.a p.b))).2.1=(Bc c (Ai c p.a p.b)).queue.getD 0 default∧0<(Bc c (Ai c p.a p.b)).queue.length:=by
    unfold Bn at htk ⊢
    split at htk
    ·rename_i hp;rw [if_pos hp];exact ⟨rfl,rfl,hp.2⟩
    ·cases htk
   have hrl:=hD.l (Ai c p.a p.b).toNat Ag _ (B9 (d:=default) hq.2.2)
   have hre:(Bn (Bc c (Ai c p.a p.b))).2.1=(c.links.getD (Ai c p.a p.b).toNat default).queue.getD 0 default:=hq.2.1
   have hrc:(F1 (A9 c p.b) (Bn (Bc c (Ai c p.a p.b))).2.1).queue=(A9 c p.b).queue++[(Bn (Bc c (Ai c p.a p.b))).2.1]∧(F1 (A9 c p.b) (Bn (Bc c (Ai c p.a p.b))).2.1).staged=(A9 c p.b).staged∧(F1 (A9 c p.b) (Bn (Bc c (Ai c p.a p.b))).2.1).inputs=(A9 c p.b).inputs∧(F1 (A9 c p.b) (Bn (Bc c (Ai c p.a p.b))).2.1).cells=(A9 c p.b).cells:=by
    unfold F1
    split<;>exact ⟨rfl,rfl,rfl,rfl⟩
   refine ⟨?_,?_,fun hk _=>by omega⟩
   ·have hl:=hD.lnk (k:=Ai c p.a p.b) (l:=(Bn (Bc c (Ai c p.a p.b))).1) (fun q hq'=>by
     rw [hq.1] at hq'
     exact hD.l _ Ag q (A8c hq'))
    refine hl.set (fun q hq'=>?_) (fun q hq'=>?_) (fun q hq'=>?_)
    ·rw [hrc.1] at hq'
     rcases List.mem_append.1 hq' with hq'|hq'
     ·exact hD.q _ hi q hq'
     ·rw [List.mem_singleton.1 hq',hre]
      refine ⟨hrl.1,?_⟩
      rw [hrl.2,←hg,hkt]
      omega
    ·rw [hrc.2.1] at hq';exact hD.s _ hi q hq'
    ·rw [hrc.2.2.1] at hq';exact hD.n _ hi q hq'
   ·have hpl:=B07 (S:=A4d a b ins) (l:=(Bn (Bc c (Ai c p.a p.b))).1) hkb
    have hps:=A9g (c:=Bo c (Ai c p.a p.b) (Bn (Bc c (Ai c p.a p.b))).1) (S:=A4d a b ins) (v:=F1 (A9 c p.b) (Bn (Bc c (Ai c p.a p.b))).2.1) ht
    have hun:=A85 (c:=Bo c (Ai c p.a p.b) (Bn (Bc c (Ai c p.a p.b))).1) (w:=p.b) (v:=F1 (A9 c p.b) (Bn (Bc c (Ai c p.a p.b))).2.1) (S:=A4d a b ins) fun x _ hc=>by rw [hrc.2.2.2];exact hc
    have hpv:A8e (F1 (A9 c p.b) (Bn (Bc c (Ai c p.a p.b))).2.1)=pw1 (A9 c p.b).queue+qw (Bn (Bc c (Ai c p.a p.b))).2.1.op+pw2 (A9 c p.b).staged+pw2 (A9 c p.b).inputs:=by
     unfold A8e
     rw [hrc.1,hrc.2.1,hrc.2.2.1,A93]
    have hpo:A8e (A9 (Bo c (Ai c p.a p.b) (Bn (Bc c (Ai c p.a p.b))).1) p.b)=pw1 (A9 c p.b).queue+pw2 (A9 c p.b).staged+pw2 (A9 c p.b).inputs:=rfl
    have hpq:A82 (Bn (Bc c (Ai c p.a p.b))).1+qw (Bn (Bc c (Ai c p.a p.b))).2.1.op=A82 (Bc c (Ai c p.a p.b)):=by
     unfold A82
     rw [hq.1,hq.2.1]
     exact B2s hq.2.2
    simp only
    omega
  ·exact idle rfl
 by_cases k5:p.kind=5
 ·have e0:Ao c p=Cq c p.a p.b:=by unfold Ao;rw [if_neg k1,if_neg k2,if_neg k3,if_neg k4,if_pos k5]
  rw [e0]
  unfold Cq
  split
  ·rename_i hL
   have hkb:=(I4 hC hL.2.2.1 hL.2.2.2).1
   have hq:(D4 (Bc c (Ai c p.a p.b))).1.queue=(Bc c (Ai c p.a p.b)).queue:=by
    unfold D4
    split<;>rfl
   refine ⟨hD.lnk fun q hq'=>by rw [hq] at hq';exact hD.l _ Ag q hq',?_,fun hk _=>by omega⟩
   have hpl:=B07 (S:=A4d a b ins) (l:=(D4 (Bc c (Ai c p.a p.b))).1) hkb
   have:A82 (D4 (Bc c (Ai c p.a p.b))).1=A82 (Bc c (Ai c p.a p.b)):=by unfold A82;rw [hq]
   simp only
   omega
  ·exact idle rfl
 have rest:A79 c (Ao c p).1:=by
  unfold Ao
  rw [if_neg k1,if_neg k2,if_neg k3,if_neg k4,if_neg k5]
  split
  ·exact A9x c p.a
  split
  ·exact A9n c p.a
  ·exact A79.refl c
 exact ⟨rest.der hD,Nat.le_of_eq (rest.potS _),fun hk _=>by omega⟩
end Go.Proofs.Ytonodkjaoalfjaa
