/- Part 25 of the proof that each of the laws FnOneWorker returns true for every input. No conditions. -/
import Derived.Test.YtonodkjaoalfjaaGreatP24

set_option linter.unusedSimpArgs false
set_option linter.unusedVariables false
set_option maxRecDepth 100000
namespace Go.Proofs.YtonodkjaoalfjaaGreat
open Go.Sx
def Rd (a b : Int) (ins : List A5) (q : A5) : Prop :=
  ∃ r ∈ ins, ∃ t j : Nat, q.stamp.epoch = r.stamp.epoch ∧ q.stamp.turn = t ∧ t ≤ 6 ∧
    (((q.op = 0 ∨ q.op = 6) ∧ t = 0 ∧ q.key = r.key ∧ q.val = r.val) ∨
     ((q.op = 1 ∨ q.op = 2 ∨ q.op = 5) ∧ q.key = r.key + a * t ∧ q.val = r.val + b * j ∧ j ≤ t) ∨
     (q.op = 3 ∧ q.key = r.key + a * (t + 1) ∧ q.val = r.val + b * j ∧ j ≤ t) ∨
     (q.op = 4 ∧ q.key = r.key + a * (t + 1) ∧ q.val = r.val + b * j ∧ j ≤ t + 1))
def D3 (a b:Int) (ins:List A5):List A7:=ins.flatMap fun r=>(List.range 7).flatMap fun (t:Nat)=>(List.range (t+1)).map fun (j:Nat)=>⟨1,r.stamp.epoch,r.key+a * t,r.val+b * j⟩
theorem Z5 (a b:Int):∀ins:List A5,(D3 a b ins).length=28 * ins.length
 | []=>rfl
 |r::l=>by
  have:=Z5 a b l
  unfold D3 at *
  rw [List.flatMap_cons,List.length_append,this,List.length_cons]
  have:((List.range 7).flatMap fun (t:Nat)=>(List.range (t+1)).map fun (j:Nat)=>(⟨1,r.stamp.epoch,r.key+a * t,r.val+b * j⟩:A7)).length=28:=by
   simp [List.range,List.range.loop]
  rw [this]
  omega
def qw (op:Int):Nat:=[5,1,11,5,3,1,1].getD op.toNat 0
def Xu (l:List A5):Nat:=(l.map fun r=>qw r.op).sum
def Oa (l:List A5):Nat:=(l.map fun r=>qw r.op+1).sum
theorem A4l {l:List A5}(h:0<l.length):Xu (l.drop 1)+qw (l.getD 0 default).op=Xu l:=by
 cases l with
 |nil=>cases h
 |cons x l=>unfold Xu;simp only [List.drop_succ_cons,List.drop_zero,List.getD_cons_zero,List.map_cons,List.sum_cons];omega
theorem A4m {l:List A5}(h:0<l.length):Oa (l.drop 1)+(qw (l.getD 0 default).op+1)=Oa l:=by
 cases l with
 |nil=>cases h
 |cons x l=>unfold Oa;simp only [List.drop_succ_cons,List.drop_zero,List.getD_cons_zero,List.map_cons,List.sum_cons];omega
theorem S6 (l:List A5)(r:A5):Xu (l++[r])=Xu l+qw r.op:=by
 unfold Xu
 rw [List.map_append,List.sum_append]
 simp
structure C0d (g:Ad) (a b:Int) (ins:List A5) (cs:List A7) (r:A5):Prop where
 der:∀q∈(Bv g cs r).2.1,Rd a b ins q
 pot:Oa (Bv g cs r).2.1+1≤qw r.op+(if r.op=1∧K7 (A9 g 1).kind cs (Cq r)=false then 14 else 0)
theorem B03 (g:Ad)(r:A5):Oa (Gf g r)≤((A9 g r.op).outs.map fun k=>qw k+1).sum:=by
 unfold Gf
 split
 ·exact Nat.zero_le _
 ·unfold Oa
  rw [List.map_map]
  exact Nat.le_refl _
theorem Ie {g:Ad}{r q:A5}(h:q∈Gf g r):q.op∈(A9 g r.op).outs∧q.stamp.epoch=r.stamp.epoch∧q.key=(As (A9 g r.op) r.key r.val).1∧q.val=(As (A9 g r.op) r.key r.val).2.1∧
  ((A9 g r.op).kind≠7→q.stamp.turn=r.stamp.turn)∧((A9 g r.op).kind=7→q.stamp.turn=r.stamp.turn+1∧r.stamp.turn<6):=by
 have he:=Ok h
 unfold Gf at h
 split at h
 ·cases h
 ·rename_i hb
  obtain ⟨k,hk,rfl⟩:=List.mem_map.1 h
  refine ⟨hk,he,rfl,rfl,fun q=>?_,fun q=>?_⟩
  ·simp only
   rw [if_neg q]
  ·simp only
   rw [if_pos q]
   have:=Lx (s:=r.stamp) (by
    cases hn:(Cc r.stamp).2 with
    |true=>rfl
    |false=>exact absurd ⟨q,hn⟩ hb)
   rw [this.1]
   exact ⟨rfl,this.2.2.2⟩
theorem Le {g:Ad}{cs:List A7}{r q:A5}(h:q∈(Bv g cs r).2.1):q∈Gf g r:=by
 unfold Bv at h
 (repeat' split at h)<;>first|exact h|cases h
theorem A7m {g:Ad}{cs:List A7}{r:A5}:Oa (Bv g cs r).2.1≤Oa (Gf g r):=by
 unfold Bv
 (repeat' split)<;>first|exact Nat.le_refl _|exact Nat.zero_le _
theorem A5f {g:Ad}{cs:List A7}{r:A5}(h:(Bb (A9 g r.op).kind cs (Cq r)).2=false):(Bv g cs r).2.1=[]:=by
 unfold Bv
 split
 ·split
  ·rfl
  ·rename_i hn
   simp only [h,if_true]
 ·rfl
theorem B41 {a b:Int}{ins:List A5}{r:A5}(h:Rd a b ins r):1≤qw r.op∧(r.op=0∨r.op=1∨r.op=2∨r.op=3∨r.op=4∨r.op=5∨r.op=6):=by
 obtain ⟨_,_,t,j,_,_,_,h⟩:=h
 have:r.op=0∨r.op=1∨r.op=2∨r.op=3∨r.op=4∨r.op=5∨r.op=6:=by omega
 refine ⟨?_,this⟩
 rcases this with e|e|e|e|e|e|e<;>rw [e]<;>decide
theorem B56 {a b:Int}{ins:List A5}(hD:Me ins)(ha:1≤a∧a≤3)(hb:0≤b∧b≤3){r:A5}(h:Rd a b ins r):(0≤r.key∧r.key≤32)∧0≤r.val∧r.val≤60:=by
 obtain ⟨x,hx,t,j,_,_,ht,h⟩:=h
 obtain ⟨_,_,_,hk,hv⟩:=hD.2 x hx
 have ha':a=1∨a=2∨a=3:=by omega
 have hb':b=0∨b=1∨b=2∨b=3:=by omega
 rcases ha' with rfl|rfl|rfl<;>rcases hb' with rfl|rfl|rfl|rfl<;>omega
theorem Ph {g:Ad}{cs:List A7}{r q:A5}(h:q∈(Bv g cs r).2.1):q∈Gf g r∧((A9 g r.op).kind=8∨(As (A9 g r.op) r.key r.val).2.2=true):=by
 unfold Bv at h
 split at h
 ·split at h
  ·cases h
  ·rename_i hc
   have hc':(A9 g r.op).kind=8∨(As (A9 g r.op) r.key r.val).2.2=true:=by
    by_cases h8:(A9 g r.op).kind=8
    ·exact .inl h8
    ·cases hb:(As (A9 g r.op) r.key r.val).2.2 with
     |true=>exact .inr rfl
     |false=>exact absurd ⟨hb,h8⟩ hc
   split at h
   ·cases h
   ·exact ⟨h,hc'⟩
 ·cases h
theorem N6 {x:Cb}{k v:Int}(h2:x.kind≠2)(h4:x.kind≠4):(As x k v).1=k∧(As x k v).2.1=v:=by
 unfold As
 rw [if_neg h2,if_neg h4]
 (repeat' split)<;>exact ⟨rfl,rfl⟩
theorem A0o {x:Cb}{k v:Int}(h:x.kind=4)(hb:(As x k v).2.2=true)(h0:0≤k+x.a)(h1:k+x.a<100):(As x k v).1=k+x.a∧(As x k v).2.1=v:=by
 unfold As at *
 split at hb
 ·rename_i hp
  rw [if_pos hp,if_neg Ac,if_pos h]
  exact ⟨Int.tmod_eq_of_lt h0 h1,rfl⟩
 ·cases hb
theorem A22 {x:Cb}{k v:Int}(h:x.kind=2)(hb:(As x k v).2.2=true)(h1:v+x.a<999):(As x k v).1=k∧(As x k v).2.1=v+x.a:=by
 unfold As at *
 split at hb
 ·rename_i hp
  rw [if_pos hp,if_pos h,if_pos h1]
  exact ⟨rfl,rfl⟩
 ·cases hb
theorem B7w (a:Int)(t:Nat):a * ((t:Int)+1)=a * t+a:=by rw [Int.mul_add,Int.mul_one]
theorem Py (x:Int)(f:Int→Nat):([x].map f).sum=f x:=by simp
theorem Tb (x y:Int)(f:Int→Nat):([x,y].map f).sum=f x+f y:=by simp
theorem C0l {g:Ad}{a b:Int}{ins:List A5}{cs:List A7}{r:A5}(hF:GrF g a b)(hD:Me ins)(h:Rd a b ins r)(hl:r.op<g.nodes.length):C0d g a b ins cs r:=by
 have hrg:=B56 hD hF.ha hF.hb h
 have hop:=(B41 h).2
 obtain ⟨x,hx,t,j,he,htn,ht,hc⟩:=h
 have hS:=B7w a t
 have hT:=B7w b j
 have P:=A7m (g:=g) (cs:=cs) (r:=r)
 have E:=B03 g r
 rcases hop with o|o|o|o|o|o|o
 ·have n0:=hF.n0
  rw [←o] at n0
  refine ⟨fun q hq=>?_,?_⟩
  ·obtain ⟨m1,m2,m3,m4,m5,_⟩:=Ie (Le hq)
   obtain ⟨c1,c2⟩:=N6 (k:=r.key) (v:=r.val) (x:=A9 g r.op) Ac Ac
   have hz:t=0∧r.key=x.key∧r.val=x.val:=by omega
   have m5:=m5 Ac
   have hq1:q.op=1∨q.op=6:=by
    rcases n0.2 with e|⟨e,_⟩<;>rw [e] at m1<;>simp at m1<;>omega
   refine ⟨x,hx,0,0,by omega,by omega,by omega,?_⟩
   rcases hq1 with q1|q1
   ·refine .inr (.inl ⟨.inl q1,?_,?_,Nat.le_refl _⟩)
    ·rw [m3,c1];simp;omega
    ·rw [m4,c2];simp;omega
   ·exact .inl ⟨.inr q1,rfl,by omega,by omega⟩
  ·rw [if_neg Ac]
   have:((A9 g r.op).outs.map fun k=>qw k+1).sum≤4:=by
    rcases n0.2 with e|⟨e,_⟩<;>rw [e]
    ·exact Nat.le_trans (Nat.le_of_eq (Py 1 _)) Bu
    ·exact Nat.le_trans (Nat.le_of_eq (Tb 1 6 _)) Bu
   have:qw r.op=5:=by rw [o];rfl
   omega
 ·have n1:=hF.n1
  have hk1:A9 g r.op=A9 g 1:=by rw [o]
  rw [←hk1] at n1
  refine ⟨fun q hq=>?_,?_⟩
  ·obtain ⟨m1,m2,m3,m4,m5,_⟩:=Ie (Le hq)
   obtain ⟨c1,c2⟩:=N6 (k:=r.key) (v:=r.val) (x:=A9 g r.op) Ac Ac
   have m5:=m5 Ac
   rw [n1.2] at m1
   have hq1:q.op=2∨q.op=5:=by simp at m1;omega
   exact ⟨x,hx,t,j,by omega,by omega,ht,.inr (.inl ⟨by omega,by omega,by omega,by omega⟩)⟩
  ·have:qw r.op=1:=by rw [o];rfl
   by_cases hg:K7 (A9 g 1).kind cs (Cq r)=false
   ·rw [if_pos ⟨o,hg⟩]
    have:((A9 g r.op).outs.map fun k=>qw k+1).sum≤14:=by
     rw [n1.2]
     exact Nat.le_trans (Nat.le_of_eq (Tb 2 5 _)) Bu
    omega
   ·rw [if_neg (fun q=>hg q.2)]
    have:(Bv g cs r).2.1=[]:=A5f (by
     unfold K7 at hg
     rw [hk1]
     simpa using hg)
    rw [this]
    show 0+1≤_
    omega
 ·have n2:=hF.n2
  rw [←o] at n2
  refine ⟨fun q hq=>?_,?_⟩
  ·obtain ⟨hqe,hqc⟩:=Ph hq
   obtain ⟨m1,m2,m3,m4,m5,_⟩:=Ie hqe
   have ha:=hF.ha
   have hqc:=hqc.resolve_left Ac
   obtain ⟨c1,c2⟩:=A0o n2.1 hqc Ac Ac
   have m5:=m5 Ac
   have hq1:q.op=3∨q.op=4:=by
    rcases n2.2.2 with e|e<;>rw [e] at m1<;>simp at m1<;>omega
   refine ⟨x,hx,t,j,by omega,by omega,ht,?_⟩
   rcases hq1 with q1|q1
   ·exact .inr (.inr (.inl ⟨q1,by omega,by omega,by omega⟩))
   ·exact .inr (.inr (.inr ⟨q1,by omega,by omega,by omega⟩))
  ·rw [if_neg Ac]
   have:((A9 g r.op).outs.map fun k=>qw k+1).sum≤10:=by
    rcases n2.2.2 with e|e<;>rw [e]
    ·exact Nat.le_trans (Nat.le_of_eq (Py 3 _)) Bu
    ·exact Nat.le_trans (Nat.le_of_eq (Tb 3 4 _)) Bu
   have:qw r.op=11:=by rw [o];rfl
   omega
 ·have n3:=hF.n3
  rw [←o] at n3
  refine ⟨fun q hq=>?_,?_⟩
  ·obtain ⟨hqe,hqc⟩:=Ph hq
   obtain ⟨m1,m2,m3,m4,m5,_⟩:=Ie hqe
   have m5:=m5 Ac
   rw [n3.2] at m1
   have hq1:q.op=4:=by simpa using m1
   have hb:=hF.hb
   rcases n3.1 with ⟨k2,ab⟩|k3
   ·have hqc:=hqc.resolve_left Ac
    obtain ⟨c1,c2⟩:=A22 k2 hqc Ac
    refine ⟨x,hx,t,j+1,by omega,by omega,ht,.inr (.inr (.inr ⟨hq1,by omega,?_,by omega⟩))⟩
    show _=x.val+b * ((j:Int)+1)
    omega
   ·obtain ⟨c1,c2⟩:=N6 (k:=r.key) (v:=r.val) (x:=A9 g r.op) Ac Ac
    exact ⟨x,hx,t,j,by omega,by omega,ht,.inr (.inr (.inr ⟨hq1,by omega,by omega,by omega⟩))⟩
  ·rw [if_neg Ac]
   have:((A9 g r.op).outs.map fun k=>qw k+1).sum≤4:=by
    rw [n3.2]
    exact Nat.le_trans (Nat.le_of_eq (Py 4 _)) Bu
   have:qw r.op=5:=by rw [o];rfl
   omega
 ·have n4:=hF.n4
  rw [←o] at n4
  refine ⟨fun q hq=>?_,?_⟩
  ·obtain ⟨m1,m2,m3,m4,_,m6⟩:=Ie (Le hq)
   rcases n4 with ⟨k7,e⟩|⟨k8,e⟩
   ·obtain ⟨c1,c2⟩:=N6 (k:=r.key) (v:=r.val) (x:=A9 g r.op) Ac Ac
    obtain ⟨m6,m7⟩:=m6 k7
    rw [e] at m1
    have hq1:q.op=1:=by simpa using m1
    refine ⟨x,hx,t+1,j,by omega,by omega,by omega,.inr (.inl ⟨.inl hq1,?_,by omega,by omega⟩)⟩
    show _=x.key+a * ((t:Int)+1)
    omega
   ·rw [e] at m1
    cases m1
  ·rw [if_neg Ac]
   have:((A9 g r.op).outs.map fun k=>qw k+1).sum≤2:=by
    rcases n4 with ⟨_,e⟩|⟨_,e⟩<;>rw [e]
    ·exact Nat.le_trans (Nat.le_of_eq (Py 1 _)) Bu
    ·decide
   have:qw r.op=3:=by rw [o];rfl
   omega
 ·have n5:=hF.n5
  rw [←o] at n5
  refine ⟨fun q hq=>?_,?_⟩
  ·obtain ⟨m1,_⟩:=Ie (Le hq)
   rw [n5.2] at m1
   cases m1
  ·rw [if_neg Ac]
   rw [n5.2] at E
   have:qw r.op=1:=by rw [o];rfl
   have E:Oa (Gf g r)≤0:=E
   omega
 ·have n6:=hF.n6 (by have:=hF.len;omega)
  rw [←o] at n6
  refine ⟨fun q hq=>?_,?_⟩
  ·obtain ⟨m1,_⟩:=Ie (Le hq)
   rw [n6.2] at m1
   cases m1
  ·rw [if_neg Ac]
   rw [n6.2] at E
   have:qw r.op=1:=by rw [o];rfl
   have E:Oa (Gf g r)≤0:=E
   omega
theorem B0f {a b:Int}{ins:List A5}{r:A5}(h:Rd a b ins r)(ho:r.op=1):Cq r∈D3 a b ins:=by
 obtain ⟨x,hx,t,j,he,htn,ht,hc⟩:=h
 have hc:r.key=x.key+a * t∧r.val=x.val+b * j∧j≤t:=by omega
 refine List.mem_flatMap.2 ⟨x,hx,List.mem_flatMap.2 ⟨t,List.mem_range.2 Ac,List.mem_map.2 ⟨j,List.mem_range.2 Ac,?_⟩⟩⟩
 unfold Cq
 rw [ho,he,hc.1,hc.2.1]
structure H9 (g:Ad) (a b:Int) (ins:List A5) (c:A3):Prop where
 gr:c.graph=g
 q:∀i,i<c.workers.length→∀r∈(wk c i).queue,Rd a b ins r∧Cf r.key g.workers=i
 s:∀i,i<c.workers.length→∀r∈(wk c i).staged,Rd a b ins r
 n:∀i,i<c.workers.length→∀r∈(wk c i).inputs,Rd a b ins r∧Cf r.key g.workers=i
 l:∀j,j<c.links.length→∀r∈(c.links.getD j default).queue,Rd a b ins r∧Cf r.key g.workers=(j:Int).tmod g.workers
def Hw (w:Ab):Nat:=Xu w.queue+Oa w.staged+Oa w.inputs
def Mn (l:C2):Nat:=Xu l.queue
def Vn (c:A3) (x:A7):Bool:=K7 (A9 c.graph 1).kind (wk c (Cf x.key c.graph.workers).toNat).cells x
def K4 (c:A3) (S:List A7):Nat:=(S.filter fun x=>!Vn c x).length
def pot (S:List A7) (c:A3):Nat:=(c.workers.map Hw).sum+(c.links.map Mn).sum+14 * K4 c S
theorem H9.set {g:Ad}{a b:Int}{ins:List A5}{c:A3}{w:Int}{v:Ab}(h:H9 g a b ins c)(hq:∀r∈v.queue,Rd a b ins r∧Cf r.key g.workers=w.toNat)(hs:∀r∈v.staged,Rd a b ins r)
  (hn:∀r∈v.inputs,Rd a b ins r∧Cf r.key g.workers=w.toNat):H9 g a b ins (Av c w v):=by
 have hws:∀i,i<(Av c w v).workers.length→(wk (Av c w v) i=wk c i∧i<c.workers.length)∨(i=w.toNat∧wk (Av c w v) i=v):=fun i hi=>by
  simp only [Av,List.length_set] at hi
  unfold wk Av
  simp only
  rw [Dr]
  split
  ·rename_i e;exact .inr ⟨e.1,rfl⟩
  ·exact .inl ⟨rfl,hi⟩
 refine ⟨h.gr,fun i hi r hr=>?_,fun i hi r hr=>?_,fun i hi r hr=>?_,h.l⟩
 ·rcases hws i hi with ⟨e,hi'⟩|⟨e0,e⟩
  ·rw [e] at hr;exact h.q i hi' r hr
  ·rw [e] at hr;rw [e0];exact hq r hr
 ·rcases hws i hi with ⟨e,hi'⟩|⟨e0,e⟩
  ·rw [e] at hr;exact h.s i hi' r hr
  ·rw [e] at hr;exact hs r hr
 ·rcases hws i hi with ⟨e,hi'⟩|⟨e0,e⟩
  ·rw [e] at hr;exact h.n i hi' r hr
  ·rw [e] at hr;rw [e0];exact hn r hr
theorem H9.lnk {g:Ad}{a b:Int}{ins:List A5}{c:A3}{k:Int}{l:C2}(h:H9 g a b ins c)(hl:∀r∈l.queue,Rd a b ins r∧Cf r.key g.workers=(k.toNat:Int).tmod g.workers):H9 g a b ins (B6 c k l):=by
 refine ⟨h.gr,h.q,h.s,h.n,fun j hj r hr=>?_⟩
 simp only [B6,List.length_set] at hj
 unfold B6 at hr
 simp only at hr
 rw [Dr] at hr
 split at hr
 ·rename_i e;rw [e.1];exact hl r hr
 ·exact h.l j hj r hr
theorem H9.same {g:Ad}{a b:Int}{ins:List A5}{c c':A3}(h:H9 g a b ins c)(hg:c'.graph=c.graph)(hl:c'.links=c.links)(hn:c'.workers.length=c.workers.length)(hw:∀i,(wk c' i).queue=(wk c i).queue∧(wk c' i).staged=(wk c i).staged∧(wk c' i).inputs=(wk c i).inputs):H9 g a b ins c':=by
 refine ⟨by rw [hg];exact h.gr,fun i hi r hr=>?_,fun i hi r hr=>?_,fun i hi r hr=>?_,fun j hj r hr=>?_⟩
 ·rw [(hw i).1] at hr;exact h.q i Ac r hr
 ·rw [(hw i).2.1] at hr;exact h.s i Ac r hr
 ·rw [(hw i).2.2] at hr;exact h.n i Ac r hr
 ·rw [hl] at hr hj;exact h.l j hj r hr
def Gt (c c':A3):Prop:=c'.graph=c.graph∧c'.links=c.links∧c'.workers.length=c.workers.length∧∀i,(wk c' i).queue=(wk c i).queue∧(wk c' i).staged=(wk c i).staged∧(wk c' i).inputs=(wk c i).inputs∧(wk c' i).cells=(wk c i).cells
theorem Gt.refl (c:A3):Gt c c:=⟨rfl,rfl,rfl,fun _=>⟨rfl,rfl,rfl,rfl⟩⟩
theorem Gt.trans {c c' c'':A3}(h:Gt c c')(h':Gt c' c''):Gt c c'':=
 ⟨h'.1.trans h.1,h'.2.1.trans h.2.1,h'.2.2.1.trans h.2.2.1,fun i=>⟨(h'.2.2.2 i).1.trans (h.2.2.2 i).1,(h'.2.2.2 i).2.1.trans (h.2.2.2 i).2.1,(h'.2.2.2 i).2.2.1.trans (h.2.2.2 i).2.2.1,(h'.2.2.2 i).2.2.2.trans (h.2.2.2 i).2.2.2⟩⟩
theorem Gt.set {c:A3}{w:Int}{v:Ab}(h:v.queue=(A6 c w).queue∧v.staged=(A6 c w).staged∧v.inputs=(A6 c w).inputs∧v.cells=(A6 c w).cells):Gt c (Av c w v):=by
 refine ⟨rfl,rfl,by simp only [Av,List.length_set],fun i=>?_⟩
 unfold wk Av
 simp only
 rw [Dr]
 split
 ·rename_i e
  unfold A6 at h
  rw [←e.1] at h
  exact h
 ·exact ⟨rfl,rfl,rfl,rfl⟩
theorem Lc (c:A3)(e:Int):Gt c (Bo c e).1:=by
 unfold Bo
 dsimp only
 split
 ·split
  ·exact Gt.set (c:=Cp c _ _) ⟨rfl,rfl,rfl,rfl⟩
  split
  ·split
   ·exact Gt.set (c:=Cp c _ _) ⟨rfl,rfl,rfl,rfl⟩
   ·exact Gt.refl c
  ·rename_i hT _ hA
   unfold Gn
   split
   ·have h0:(A4 c e).at_.toNat=(0:Int).toNat:=by
     have:¬ (A4 c e).at_>0:=hA
     have h00:(0:Int).toNat=0:=rfl
     omega
    have hw:A6 (Cp c e ⟨false,(A4 c e).at_,(A4 c e).sum,(A4 c e).black,(A4 c e).capped⟩) 0=A6 c (A4 c e).at_:=by
     unfold A6
     rw [h0]
     rfl
    exact Gt.set (c:=Cp c _ _) (by rw [hw];exact ⟨rfl,rfl,rfl,rfl⟩)
   ·exact Gt.refl c
 ·exact Gt.refl c
theorem Ko (c:A3)(w:Int):Gt c (D4 c w).1:=by
 unfold D4
 split
 ·split
  ·exact Gt.refl c
  ·exact Gt.set (c:=Ih c _) ⟨rfl,rfl,rfl,rfl⟩
 ·exact Gt.refl c
theorem B37 {α:Type} [Inhabited α] (f:α→Nat){l l':List α}(hl:l'.length=l.length)(h:∀i,i<l.length→f (l'.getD i default)=f (l.getD i default)):l'.map f=l.map f:=by
 refine List.ext_getElem (by simpa using hl) fun i h1 h2=>?_
 simp only [List.length_map] at h1 h2
 have:=h i h2
 simp only [List.getD,List.getElem?_eq_getElem h1,List.getElem?_eq_getElem h2,Option.getD_some] at this
 simpa using this
theorem Gt.potS {c c':A3}(h:Gt c c')(S:List A7):pot S c'=pot S c:=by
 obtain ⟨h1,h2,h3,h4⟩:=h
 have e1:c'.workers.map Hw=c.workers.map Hw:=B37 Hw h3 fun i _=>by
  obtain ⟨a1,a2,a3,_⟩:=h4 i
  show Hw (wk c' i)=Hw (wk c i)
  unfold Hw
  rw [a1,a2,a3]
 have e2:K4 c' S=K4 c S:=by
  unfold K4
  congr 1
  refine List.filter_congr fun x _=>?_
  unfold Vn
  rw [h1,(h4 _).2.2.2]
 unfold pot
 rw [e1,e2,h2]
theorem Gt.der {g:Ad}{a b:Int}{ins:List A5}{c c':A3}(h:Gt c c')(hD:H9 g a b ins c):H9 g a b ins c':=hD.same h.1 h.2.1 h.2.2.1 fun i=>⟨(h.2.2.2 i).1,(h.2.2.2 i).2.1,(h.2.2.2 i).2.2.1⟩
theorem Vo {c:A3}{w:Int}{v:Ab}(x:A7):Vn (Av c w v) x=if (Cf x.key c.graph.workers).toNat=w.toNat∧w.toNat<c.workers.length then K7 (A9 c.graph 1).kind v.cells x else Vn c x:=by
 unfold Vn
 show K7 _ (wk (Av c w v) (Cf x.key c.graph.workers).toNat).cells x=_
 unfold wk Av
 simp only
 rw [Dr]
 split<;>rfl
theorem Mq {c:A3}{w:Int}{v:Ab}{S:List A7}(h:∀x∈S,K7 (A9 c.graph 1).kind (A6 c w).cells x=true→K7 (A9 c.graph 1).kind v.cells x=true):K4 (Av c w v) S≤K4 c S:=by
 unfold K4
 refine Qu _ _ _ fun x hx hq=>?_
 rw [Vo] at hq
 split at hq
 ·rename_i e
  cases hc:Vn c x with
  |false=>rfl
  |true=>
   unfold Vn at hc
   rw [e.1] at hc
   rw [h x hx hc] at hq
   cases hq
 ·exact hq
theorem A7r {c:A3}{w:Int}{v:Ab}{S:List A7}{y:A7}(h:∀x∈S,K7 (A9 c.graph 1).kind (A6 c w).cells x=true→K7 (A9 c.graph 1).kind v.cells x=true)(hy:y∈S)(hw:(Cf y.key c.graph.workers).toNat=w.toNat∧w.toNat<c.workers.length)
  (h1:K7 (A9 c.graph 1).kind (A6 c w).cells y=false)(h2:K7 (A9 c.graph 1).kind v.cells y=true):K4 (Av c w v) S+1≤K4 c S:=by
 unfold K4
 refine Qv _ _ _ (fun x hx hq=>?_) ⟨y,hy,?_,?_⟩
 ·rw [Vo] at hq
  split at hq
  ·rename_i e
   cases hc:Vn c x with
   |false=>rfl
   |true=>
    unfold Vn at hc
    rw [e.1] at hc
    rw [h x hx hc] at hq
    cases hq
  ·exact hq
 ·have:Vn c y=false:=by
   unfold Vn
   rw [hw.1]
   exact h1
  rw [this]
  rfl
 ·rw [Vo,if_pos hw,h2]
  rfl
theorem P7 {c:A3}{w:Int}{v:Ab}{S:List A7}(h:0≤w∧w<c.workers.length):pot S (Av c w v)+Hw (A6 c w)+14 * K4 c S=pot S c+Hw v+14 * K4 (Av c w v) S:=by
 have:=Q4 Hw c.workers w.toNat v Ac
 have e:Hw (A6 c w)=Hw (c.workers.getD w.toNat default):=rfl
 have e1:pot S (Av c w v)=((c.workers.set w.toNat v).map Hw).sum+(c.links.map Mn).sum+14 * K4 (Av c w v) S:=rfl
 have e2:pot S c=(c.workers.map Hw).sum+(c.links.map Mn).sum+14 * K4 c S:=rfl
 omega
theorem X0 {c:A3}{k:Int}{l:C2}{S:List A7}(h:0≤k∧k<c.links.length):pot S (B6 c k l)+Mn (An c k)=pot S c+Mn l:=by
 have:=Q4 Mn c.links k.toNat l Ac
 have e:Mn (An c k)=Mn (c.links.getD k.toNat default):=rfl
 have e1:pot S (B6 c k l)=(c.workers.map Hw).sum+((c.links.set k.toNat l).map Mn).sum+14 * K4 c S:=rfl
 have e2:pot S c=(c.workers.map Hw).sum+(c.links.map Mn).sum+14 * K4 c S:=rfl
 omega
theorem J7 {g:Ad}{cs:List A7}{r:A5}:(Bv g cs r).1=cs∨(Bv g cs r).1=(Bb (A9 g r.op).kind cs (Cq r)).1:=by
 unfold Bv
 (repeat' split)<;>first|exact .inl rfl|exact .inr rfl
theorem A5e {g:Ad}{cs:List A7}{r:A5}(h:Jx g r)(hk:(A9 g r.op).kind=5∨(A9 g r.op).kind=6):(Bv g cs r).1=(Bb (A9 g r.op).kind cs (Cq r)).1:=by
 have hc:(As (A9 g r.op) r.key r.val).2.2=true:=by
  unfold As
  rw [if_pos ⟨(Il h.1 h.2.1.1.1 h.2.2).1,h.2.1.2.2.2⟩,if_neg Ac,if_neg Ac,if_neg Ac]
  simp only [bne_iff_ne,ne_eq]
  omega
 unfold Bv
 rw [if_pos h,if_neg (by rw [hc];exact fun q=>Bool.noConfusion q.1)]
 split<;>rfl
theorem B3d {a b:Int}{ins:List A5}{x:A7}(h:x∈D3 a b ins):x.op=1:=by
 simp only [D3,List.mem_flatMap,List.mem_map] at h
 obtain ⟨_,_,_,_,_,_,rfl⟩:=h
 rfl
theorem B02 {w:Ab}(h:0<w.queue.length):Xu (w.queue.drop 1)+qw (w.queue.getD 0 default).op=Xu w.queue:=A4l h
theorem X1 {g:Ad}{a b:Int}{ins:List A5}{c:A3}{p:Bl}(hF:GrF g a b)(hI:Me ins)(hC:Ap c)(hD:H9 g a b ins c):
  H9 g a b ins (Ag c p).1∧pot (D3 a b ins) (Ag c p).1≤pot (D3 a b ins) c∧((p.kind=1∨p.kind=2∨p.kind=3)→(Ag c p).2=true→pot (D3 a b ins) (Ag c p).1+1≤pot (D3 a b ins) c):=by
 have hg:=hD.gr
 have idle:∀{d:A3×Bool},d=(c,false)→H9 g a b ins d.1∧pot (D3 a b ins) d.1≤pot (D3 a b ins) c∧((p.kind=1∨p.kind=2∨p.kind=3)→d.2=true→pot (D3 a b ins) d.1+1≤pot (D3 a b ins) c):=fun e=>by
  rw [e]
  exact ⟨hD,Nat.le_refl _,fun _ q=>Bool.noConfusion q⟩
 have strict:∀{d:A3×Bool},H9 g a b ins d.1→pot (D3 a b ins) d.1+1≤pot (D3 a b ins) c→H9 g a b ins d.1∧pot (D3 a b ins) d.1≤pot (D3 a b ins) c∧((p.kind=1∨p.kind=2∨p.kind=3)→d.2=true→pot (D3 a b ins) d.1+1≤pot (D3 a b ins) c):=fun h1 h2=>⟨h1,by omega,fun _ _=>h2⟩
 by_cases k1:p.kind=1
 ·have e0:Ag c p=Cr c p.a:=by unfold Ag;rw [if_pos k1]
  rw [e0]
  unfold Cr
  split
  ·rename_i hW
   unfold Fk
   split
   ·rename_i hP
    have hi:p.a.toNat<c.workers.length:=by have:=hW.2;omega
    obtain ⟨_,hwp,hst,hql⟩:=hP
    have hrq:=hD.q p.a.toNat hi _ (Aq (d:=default) hql)
    have hro:=hwp.1.1 _ (Aq (d:=default) hql)
    generalize hr:(A6 c p.a).queue.getD 0 default=r at *
    have hr':(wk c p.a.toNat).queue.getD 0 default=r:=hr
    rw [hr'] at hrq
    have hO:=C0l (cs:=(A6 c p.a).cells) hF hI hrq.1 (by rw [←hg];exact hro.2)
    have hSP:Jx g r:=⟨by rw [←hg];exact hC.1.1,hro.1,by rw [←hg];exact hro.2⟩
    have hwk:Fx c.graph (A6 c p.a)=⟨(A6 c p.a).queue.drop 1,(Bv g (A6 c p.a).cells r).2.1,(A6 c p.a).inputs,(Bv g (A6 c p.a).cells r).1,(A6 c p.a).sums,(A6 c p.a).black,if capped g r=true then (A6 c p.a).caps.set r.stamp.epoch.toNat true else (A6 c p.a).caps,(A6 c p.a).dones⟩:=by
     unfold Fx
     rw [hr,hg]
    refine strict ?_ ?_
    ·rw [hwk]
     exact hD.set (fun q hq=>hD.q _ hi q (Hm hq)) (fun q hq=>hO.der q hq) (fun q hq=>hD.n _ hi q hq)
    ·have hk1:(A9 g 1).kind=5∨(A9 g 1).kind=6:=hF.n1.1
     have hmono:∀x∈D3 a b ins,K7 (A9 c.graph 1).kind (A6 c p.a).cells x=true→K7 (A9 c.graph 1).kind (Fx c.graph (A6 c p.a)).cells x=true:=fun x hx hc=>by
      rw [hwk,hg] at *
      simp only
      rcases J7 (g:=g) (cs:=(A6 c p.a).cells) (r:=r) with e|e
      ·rw [e];exact hc
      ·rw [e]
       exact A67 hk1 hc fun q=>by
        have:r.op=1:=by rw [←B3d hx];exact q
        rw [this]
     have hps:=P7 (S:=D3 a b ins) (v:=Fx c.graph (A6 c p.a)) hW.2
     have hpv:Hw (Fx c.graph (A6 c p.a))=Xu ((A6 c p.a).queue.drop 1)+Oa (Bv g (A6 c p.a).cells r).2.1+Oa (A6 c p.a).inputs:=by rw [hwk];rfl
     have hpo:Hw (A6 c p.a)=Xu (A6 c p.a).queue+0+Oa (A6 c p.a).inputs:=by
      have:(A6 c p.a).staged=[]:=List.eq_nil_of_length_eq_zero hst
      unfold Hw
      rw [this]
      rfl
     have hdq:=B02 hql
     rw [hr] at hdq
     have hOp:=hO.pot
     have hpo2:1≤qw r.op:=(B41 hrq.1).1
     by_cases hgt:r.op=1∧K7 (A9 g 1).kind (A6 c p.a).cells (Cq r)=false
     ·rw [if_pos hgt] at hOp
      have hun:=A7r (v:=Fx c.graph (A6 c p.a)) (S:=D3 a b ins) (y:=Cq r) hmono (B0f hrq.1 hgt.1) ⟨by
       have:(Cq r).key=r.key:=rfl
       rw [this,hg,hrq.2]
       rfl,hi⟩ (by rw [hg];exact hgt.2) (by
       rw [hwk,hg]
       simp only
       rw [A5e hSP (by rw [hgt.1];exact hk1),hgt.1]
       exact A4o hk1)
      simp only
      omega
     ·rw [if_neg hgt] at hOp
      have hun:=Mq (v:=Fx c.graph (A6 c p.a)) (S:=D3 a b ins) hmono
      simp only
      omega
   ·exact idle (Prod.ext (Gr c p.a) rfl)
  ·exact idle rfl
 by_cases k2:p.kind=2
 ·have e0:Ag c p=Cg c p.a:=by unfold Ag;rw [if_neg k1,if_pos k2]
  rw [e0]
  unfold Cg
  split
  ·rename_i hW
   unfold Dg
   split
   ·rename_i hP
    have hi:p.a.toNat<c.workers.length:=by have:=hW.2;omega
    obtain ⟨_,hwp,hst,hql,hil⟩:=hP
    have hrn:=hD.n p.a.toNat hi _ (Aq (d:=default) hil)
    refine strict ?_ ?_
    ·refine hD.set (fun q hq=>?_) (fun q hq=>hD.s _ hi q hq) (fun q hq=>hD.n _ hi q (Hm hq))
     rcases List.mem_append.1 hq with hq|hq
     ·exact hD.q _ hi q hq
     ·rw [List.mem_singleton.1 hq];exact hrn
    ·have hps:=P7 (S:=D3 a b ins) (v:=Jz (A6 c p.a)) hW.2
     have hun:=Mq (c:=c) (w:=p.a) (v:=Jz (A6 c p.a)) (S:=D3 a b ins) fun x _ hc=>hc
     have hpv:Hw (Jz (A6 c p.a))=Xu ((A6 c p.a).queue++[(A6 c p.a).inputs.getD 0 default])+Oa (A6 c p.a).staged+Oa ((A6 c p.a).inputs.drop 1):=rfl
     have hpo:Hw (A6 c p.a)=Xu (A6 c p.a).queue+Oa (A6 c p.a).staged+Oa (A6 c p.a).inputs:=rfl
     rw [S6] at hpv
     have:=A4m hil
     simp only
     omega
   ·exact idle (Prod.ext (Gr c p.a) rfl)
  ·exact idle rfl
 by_cases k3:p.kind=3
 ·have e0:Ag c p=C6 c p.a:=by unfold Ag;rw [if_neg k1,if_neg k2,if_pos k3]
  rw [e0]
  unfold C6
  split
  ·rename_i hM
   obtain ⟨hW,hs⟩:=hM
   have hi:p.a.toNat<c.workers.length:=by have:=hW.2;omega
   have hfs:Rd a b ins (B7 c p.a):=hD.s p.a.toNat hi _ (Aq (d:=default) hs)
   have hfr:=L5 hW hs
   have hown:=Ns hfr.1.2.2.2.1.1 hC.1.1.2.1.1
   have hdr:=A4m hs
   have hfe:(A6 c p.a).staged.getD 0 default=B7 c p.a:=rfl
   rw [hfe] at hdr
   split
   ·rename_i hself
    have hself':Cf (B7 c p.a).key c.graph.workers=p.a:=hself
    refine strict ?_ ?_
    ·refine hD.set (fun q hq=>?_) (fun q hq=>hD.s _ hi q (Hm hq)) (fun q hq=>hD.n _ hi q hq)
     rcases List.mem_append.1 hq with hq|hq
     ·exact hD.q _ hi q hq
     ·rw [List.mem_singleton.1 hq]
      exact ⟨hfs,by rw [←hg];omega⟩
    ·have hps:=P7 (S:=D3 a b ins) (v:=kept (Bt (A6 c p.a)) (B7 c p.a)) hW.2
     have hun:=Mq (c:=c) (w:=p.a) (v:=kept (Bt (A6 c p.a)) (B7 c p.a)) (S:=D3 a b ins) fun x _ hc=>hc
     have hpv:Hw (kept (Bt (A6 c p.a)) (B7 c p.a))=Xu ((A6 c p.a).queue++[B7 c p.a])+Oa ((A6 c p.a).staged.drop 1)+Oa (A6 c p.a).inputs:=rfl
     have hpo:Hw (A6 c p.a)=Xu (A6 c p.a).queue+Oa (A6 c p.a).staged+Oa (A6 c p.a).inputs:=rfl
     rw [S6] at hpv
     simp only
     omega
   ·rename_i hne
    split
    ·rename_i hsend
     have hb:0≤p.a∧p.a<c.graph.workers:=by have:=hC.1.2.1;exact ⟨hW.2.1,by have:=hW.2.2;omega⟩
     obtain ⟨hk,_,hkt⟩:=El hC hb (Km hW hs)
     have hq:(Dn (An c (Ae c p.a (B8 c p.a))) (B7 c p.a)).1.queue=(An c (Ae c p.a (B8 c p.a))).queue++[B7 c p.a]:=by
      unfold Dn at hsend ⊢
      split at hsend
      ·rename_i hp;rw [if_pos hp]
      ·cases hsend
     have hsa:(Cs (Bt (A6 c p.a)) (B7 c p.a).stamp.epoch).queue=(A6 c p.a).queue∧(Cs (Bt (A6 c p.a)) (B7 c p.a).stamp.epoch).staged=(A6 c p.a).staged.drop 1∧(Cs (Bt (A6 c p.a)) (B7 c p.a).stamp.epoch).inputs=(A6 c p.a).inputs∧(Cs (Bt (A6 c p.a)) (B7 c p.a).stamp.epoch).cells=(A6 c p.a).cells:=by
      unfold Cs
      split<;>exact ⟨rfl,rfl,rfl,rfl⟩
     refine strict ?_ ?_
     ·have hl:=hD.lnk (k:=Ae c p.a (B8 c p.a)) (l:=(Dn (An c (Ae c p.a (B8 c p.a))) (B7 c p.a)).1) (fun q hq'=>by
       rw [hq] at hq'
       rcases List.mem_append.1 hq' with hq'|hq'
       ·exact hD.l _ Ac q hq'
       ·rw [List.mem_singleton.1 hq',←hg,hkt]
        exact ⟨hfs,rfl⟩)
      refine hl.set (fun q hq'=>?_) (fun q hq'=>?_) (fun q hq'=>?_)
      ·rw [hsa.1] at hq';exact hD.q _ hi q hq'
      ·rw [hsa.2.1] at hq';exact hD.s _ hi q (Hm hq')
      ·rw [hsa.2.2.1] at hq';exact hD.n _ hi q hq'
     ·have hpl:=X0 (S:=D3 a b ins) (l:=(Dn (An c (Ae c p.a (B8 c p.a))) (B7 c p.a)).1) hk
      have hps:=P7 (c:=B6 c (Ae c p.a (B8 c p.a)) (Dn (An c (Ae c p.a (B8 c p.a))) (B7 c p.a)).1) (S:=D3 a b ins) (v:=Cs (Bt (A6 c p.a)) (B7 c p.a).stamp.epoch) hW.2
      have hun:=Mq (c:=B6 c (Ae c p.a (B8 c p.a)) (Dn (An c (Ae c p.a (B8 c p.a))) (B7 c p.a)).1) (w:=p.a) (v:=Cs (Bt (A6 c p.a)) (B7 c p.a).stamp.epoch) (S:=D3 a b ins) fun x _ hc=>by rw [hsa.2.2.2];exact hc
      have hpv:Hw (Cs (Bt (A6 c p.a)) (B7 c p.a).stamp.epoch)=Xu (A6 c p.a).queue+Oa ((A6 c p.a).staged.drop 1)+Oa (A6 c p.a).inputs:=by
       unfold Hw
       rw [hsa.1,hsa.2.1,hsa.2.2.1]
      have hpo:Hw (A6 (B6 c (Ae c p.a (B8 c p.a)) (Dn (An c (Ae c p.a (B8 c p.a))) (B7 c p.a)).1) p.a)=Xu (A6 c p.a).queue+Oa (A6 c p.a).staged+Oa (A6 c p.a).inputs:=rfl
      have hpq:Mn (Dn (An c (Ae c p.a (B8 c p.a))) (B7 c p.a)).1=Mn (An c (Ae c p.a (B8 c p.a)))+qw (B7 c p.a).op:=by
       unfold Mn
       rw [hq,S6]
      simp only
      omega
    ·exact idle rfl
  ·exact idle rfl
 by_cases k4:p.kind=4
 ·have e0:Ag c p=Cd c p.a p.b:=by unfold Ag;rw [if_neg k1,if_neg k2,if_neg k3,if_pos k4]
  rw [e0]
  unfold Cd
  split
  ·rename_i hm
   obtain ⟨hL,htk⟩:=hm
   obtain ⟨hkb,_,hkt⟩:=El hC hL.2.2.1 hL.2.2.2
   have ht:0≤p.b∧p.b<c.workers.length:=by have:=hC.1.2.1;have:=hL.2.2.2;omega
   have hi:p.b.toNat<c.workers.length:=by omega
   have hq:(At (An c (Ae c p.a p.b))).1.queue=(An c (Ae c p.a p.b)).queue.drop 1∧(At (An c (Ae c p.a p.b))).2.1=(An c (Ae c p.a p.b)).queue.getD 0 default∧0<(An c (Ae c p.a p.b)).queue.length:=by
    unfold At at htk ⊢
    split at htk
    ·rename_i hp;rw [if_pos hp];exact ⟨rfl,rfl,hp.2⟩
    ·cases htk
   have hrl:=hD.l (Ae c p.a p.b).toNat Ac _ (Aq (d:=default) hq.2.2)
   have hre:(At (An c (Ae c p.a p.b))).2.1=(c.links.getD (Ae c p.a p.b).toNat default).queue.getD 0 default:=hq.2.1
   have hrc:(Cj (A6 c p.b) (At (An c (Ae c p.a p.b))).2.1).queue=(A6 c p.b).queue++[(At (An c (Ae c p.a p.b))).2.1]∧(Cj (A6 c p.b) (At (An c (Ae c p.a p.b))).2.1).staged=(A6 c p.b).staged∧(Cj (A6 c p.b) (At (An c (Ae c p.a p.b))).2.1).inputs=(A6 c p.b).inputs∧(Cj (A6 c p.b) (At (An c (Ae c p.a p.b))).2.1).cells=(A6 c p.b).cells:=by
    unfold Cj
    split<;>exact ⟨rfl,rfl,rfl,rfl⟩
   refine ⟨?_,?_,fun hk _=>by omega⟩
   ·have hl:=hD.lnk (k:=Ae c p.a p.b) (l:=(At (An c (Ae c p.a p.b))).1) (fun q hq'=>by
     rw [hq.1] at hq'
     exact hD.l _ Ac q (Hm hq'))
    refine hl.set (fun q hq'=>?_) (fun q hq'=>?_) (fun q hq'=>?_)
    ·rw [hrc.1] at hq'
     rcases List.mem_append.1 hq' with hq'|hq'
     ·exact hD.q _ hi q hq'
     ·rw [List.mem_singleton.1 hq',hre]
      refine ⟨hrl.1,?_⟩
      rw [hrl.2,←hg,hkt]
      omega
    ·rw [hrc.2.1] at hq';exact hD.s _ hi q hq'
    ·rw [hrc.2.2.1] at hq';exact hD.n _ hi q hq'
   ·have hpl:=X0 (S:=D3 a b ins) (l:=(At (An c (Ae c p.a p.b))).1) hkb
    have hps:=P7 (c:=B6 c (Ae c p.a p.b) (At (An c (Ae c p.a p.b))).1) (S:=D3 a b ins) (v:=Cj (A6 c p.b) (At (An c (Ae c p.a p.b))).2.1) ht
    have hun:=Mq (c:=B6 c (Ae c p.a p.b) (At (An c (Ae c p.a p.b))).1) (w:=p.b) (v:=Cj (A6 c p.b) (At (An c (Ae c p.a p.b))).2.1) (S:=D3 a b ins) fun x _ hc=>by rw [hrc.2.2.2];exact hc
    have hpv:Hw (Cj (A6 c p.b) (At (An c (Ae c p.a p.b))).2.1)=Xu (A6 c p.b).queue+qw (At (An c (Ae c p.a p.b))).2.1.op+Oa (A6 c p.b).staged+Oa (A6 c p.b).inputs:=by
     unfold Hw
     rw [hrc.1,hrc.2.1,hrc.2.2.1,S6]
    have hpo:Hw (A6 (B6 c (Ae c p.a p.b) (At (An c (Ae c p.a p.b))).1) p.b)=Xu (A6 c p.b).queue+Oa (A6 c p.b).staged+Oa (A6 c p.b).inputs:=rfl
    have hpq:Mn (At (An c (Ae c p.a p.b))).1+qw (At (An c (Ae c p.a p.b))).2.1.op=Mn (An c (Ae c p.a p.b)):=by
     unfold Mn
     rw [hq.1,hq.2.1]
     exact A4l hq.2.2
    simp only
    omega
  ·exact idle rfl
 by_cases k5:p.kind=5
 ·have e0:Ag c p=Br c p.a p.b:=by unfold Ag;rw [if_neg k1,if_neg k2,if_neg k3,if_neg k4,if_pos k5]
  rw [e0]
  unfold Br
  split
  ·rename_i hL
   have hkb:=(El hC hL.2.2.1 hL.2.2.2).1
   have hq:(Bn (An c (Ae c p.a p.b))).1.queue=(An c (Ae c p.a p.b)).queue:=by
    unfold Bn
    split<;>rfl
   refine ⟨hD.lnk fun q hq'=>by rw [hq] at hq';exact hD.l _ Ac q hq',?_,fun hk _=>by omega⟩
   have hpl:=X0 (S:=D3 a b ins) (l:=(Bn (An c (Ae c p.a p.b))).1) hkb
   have:Mn (Bn (An c (Ae c p.a p.b))).1=Mn (An c (Ae c p.a p.b)):=by unfold Mn;rw [hq]
   simp only
   omega
  ·exact idle rfl
 have rest:Gt c (Ag c p).1:=by
  unfold Ag
  rw [if_neg k1,if_neg k2,if_neg k3,if_neg k4,if_neg k5]
  split
  ·exact Lc c p.a
  split
  ·exact Ko c p.a
  ·exact Gt.refl c
 exact ⟨rest.der hD,Nat.le_of_eq (rest.potS _),fun hk _=>by omega⟩
end Go.Proofs.YtonodkjaoalfjaaGreat
