/- Part 10 of the proof that each of the laws FnSpread returns true for every input. No conditions. -/
import Derived.Test.YtdendlkeiaccpaaGreatQ9
import Derived.Test.YtdendlkeiaccpaaGreatQ3
import Derived.Test.YtdendlkeiaccpaaGreatQ6

set_option linter.unusedSimpArgs false
set_option linter.unusedVariables false
set_option maxRecDepth 100000
namespace Go.Proofs.YtdendlkeiaccpaaGreat
open Go.Sx
def Ky (k v:Int):Prop:=(0≤k∧k≤99)∧(0≤v∧v≤999)
instance (k v:Int):Decidable (Ky k v):=by unfold Ky;infer_instance
def B9 (x:Bw) (k v:Int):Int×Int×Bool:=
 if Jv x∧Ky k v then
  (if x.kind=2 then (k,if v+x.a<999 then v+x.a else 999,true)
  else if x.kind=4 then ((k+x.a).tmod 100,v,true)
  else if x.kind=3 then (k,v,k.tmod x.a==x.b)
  else (k,v,x.kind !=8))
 else (k,v,false)
def Ch (s:Fo):Fo×Bool:=if I2 s=true∧s.turn<6 then (⟨s.epoch,s.turn+1⟩,true) else (s,false)
def Kb (g:Ah) (r:Aa):Prop:=Ea g∧H2 r∧r.op<g.nodes.length
instance (g:Ah) (r:Aa):Decidable (Kb g r):=by unfold Kb;infer_instance
def Hj (g:Ah) (r:Aa):List Aa:=
 if (Ac g r.op).kind=7∧(Ch r.stamp).2=false then []
 else (Ac g r.op).outs.map fun k=>⟨k,if (Ac g r.op).kind=7 then (Ch r.stamp).1 else r.stamp,(B9 (Ac g r.op) r.key r.val).1,(B9 (Ac g r.op) r.key r.val).2.1⟩
def Co (r:Aa):Ae:=⟨r.op,r.stamp.epoch,r.key,r.val⟩
def Cj (g:Ah) (cs:List Ae) (r:Aa):List Ae×List Aa×Bool:=
 if Kb g r then
  (if (B9 (Ac g r.op) r.key r.val).2.2=false∧(Ac g r.op).kind≠8 then (cs,[],true)
  else if (Bs (Ac g r.op).kind cs (Co r)).2=false then ((Bs (Ac g r.op).kind cs (Co r)).1,[],true)
  else ((Bs (Ac g r.op).kind cs (Co r)).1,Hj g r,true))
 else (cs,[],false)
def capped (g:Ah) (r:Aa):Bool:=decide (Kb g r∧(Ac g r.op).kind=7∧(Ac g r.op).outs.length>0∧(Ch r.stamp).2=false)
def A7g (l:Ca) (r:Aa):Prop:=Gn l∧H2 r∧l.credits≠0∧l.sent≠1000000000
instance (l:Ca) (r:Aa):Decidable (A7g l r):=by unfold A7g;infer_instance
def Cf (l:Ca) (r:Aa):Ca×Bool:=if A7g l r then (⟨l.cap,l.queue++[r],l.credits-1,l.back,l.sent+1,l.got⟩,true) else (l,false)
def Bc (l:Ca):Ca×Aa×Bool:=
 if Gn l∧0<l.queue.length then (⟨l.cap,l.queue.drop 1,l.credits,l.back+1,l.sent,l.got+1⟩,l.queue.getD 0 default,true) else (l,default,false)
def Ce (l:Ca):Ca×Bool:=if Gn l∧l.back≠0 then (⟨l.cap,l.queue,l.credits+1,l.back-1,l.sent,l.got⟩,true) else (l,false)
def Qu (g:Ah) (w:Ab):Prop:=Ea g∧Db g.nodes.length w∧w.staged.length=0∧0<w.queue.length
instance (g:Ah) (w:Ab):Decidable (Qu g w):=by unfold Qu;infer_instance
def F9 (g:Ah) (w:Ab):Ab:=
 ⟨w.queue.drop 1,(Cj g w.cells (w.queue.getD 0 default)).2.1,w.inputs,(Cj g w.cells (w.queue.getD 0 default)).1,w.sums,w.black,if capped g (w.queue.getD 0 default)=true then w.caps.set (w.queue.getD 0 default).stamp.epoch.toNat true else w.caps,w.dones⟩
def Fi (g:Ah) (w:Ab):Ab×Bool:=if Qu g w then (F9 g w,true) else (w,false)
def O4 (g:Ah) (w:Ab):Prop:=Ea g∧Db g.nodes.length w∧w.staged.length=0∧w.queue.length=0∧0<w.inputs.length
instance (g:Ah) (w:Ab):Decidable (O4 g w):=by unfold O4;infer_instance
def I7 (w:Ab):Ab:=⟨w.queue++[w.inputs.getD 0 default],w.staged,w.inputs.drop 1,w.cells,w.sums,w.black,w.caps,w.dones⟩
def Df (g:Ah) (w:Ab):Ab×Bool:=if O4 g w then (I7 w,true) else (w,false)
def Cd (w:Ab):Ab:=⟨w.queue,w.staged.drop 1,w.inputs,w.cells,w.sums,w.black,w.caps,w.dones⟩
def Gx (w:Ab):Ab×Aa×Bool:=if 0<w.staged.length then (Cd w,w.staged.getD 0 default,true) else (w,default,false)
def kept (w:Ab) (r:Aa):Ab:=⟨w.queue++[r],w.staged,w.inputs,w.cells,w.sums,w.black,w.caps,w.dones⟩
def Fk (w:Ab) (e n:Int):Ab:=⟨w.queue,w.staged,w.inputs,w.cells,w.sums.set e.toNat (w.sums.getD e.toNat default+n),w.black,w.caps,w.dones⟩
def Hw (w:Ab) (e:Int):Ab:=⟨w.queue,w.staged,w.inputs,w.cells,w.sums,w.black.set e.toNat true,w.caps,w.dones⟩
def D0 (w:Ab) (r:Aa):Ab:=
 if 0≤r.stamp.epoch∧r.stamp.epoch<w.sums.length∧r.stamp.epoch<w.black.length then Hw (Fk (kept w r) r.stamp.epoch (-1)) r.stamp.epoch else kept w r
def E5 (w:Ab) (e:Int):Ab:=if 0≤e∧e<w.sums.length then Fk w e 1 else w
def Bi (c:A3) (k:Int) (l:Ca):A3:=⟨c.graph,c.workers,c.links.set k.toNat l,c.tokens,c.news⟩
def Ba (c:A3) (k:Int):Ca:=c.links.getD k.toNat default
def Gm (c:A3) (w:Int):Prop:=B7 c∧0≤w∧w<c.workers.length
instance (c:A3) (w:Int):Decidable (Gm c w):=by unfold Gm;infer_instance
def Dk (c:A3) (w:Int):A3×Bool:=if Gm c w then (Av c w (Fi c.graph (A8 c w)).1,(Fi c.graph (A8 c w)).2) else (c,false)
def D9 (c:A3) (w:Int):A3×Bool:=if Gm c w then (Av c w (Df c.graph (A8 c w)).1,(Df c.graph (A8 c w)).2) else (c,false)
def B1 (c:A3) (w:Int):Aa:=(A8 c w).staged.getD 0 default
def B8 (c:A3) (w:Int):Int:=Bn (B1 c w).key c.graph.workers
def Ao (c:A3) (f t:Int):Int:=f * c.graph.workers+t
def C7 (c:A3) (w:Int):A3×Bool:=
 if Gm c w∧0<(A8 c w).staged.length then
  (if B8 c w=w then (Av c w (kept (Cd (A8 c w)) (B1 c w)),true)
  else if (Cf (Ba c (Ao c w (B8 c w))) (B1 c w)).2=true then
   (Av (Bi c (Ao c w (B8 c w)) (Cf (Ba c (Ao c w (B8 c w))) (B1 c w)).1) w (E5 (Cd (A8 c w)) (B1 c w).stamp.epoch),true)
  else (c,false))
 else (c,false)
def L0 (c:A3) (f t:Int):Prop:=B7 c∧f≠t∧(0≤f∧f<c.graph.workers)∧(0≤t∧t<c.graph.workers)
instance (c:A3) (f t:Int):Decidable (L0 c f t):=by unfold L0;infer_instance
def Ct (c:A3) (f t:Int):A3×Bool:=
 if L0 c f t∧(Bc (Ba c (Ao c f t))).2.2=true then
  (Av (Bi c (Ao c f t) (Bc (Ba c (Ao c f t))).1) t (D0 (A8 c t) (Bc (Ba c (Ao c f t))).2.1),true)
 else (c,false)
def D4 (c:A3) (f t:Int):A3×Bool:=
 if L0 c f t then (Bi c (Ao c f t) (Ce (Ba c (Ao c f t))).1,(Ce (Ba c (Ao c f t))).2) else (c,false)
def Hk (w:Int) (x:Di):Bool:=x.to_==w
def Gf (c:A3) (w:Int):Nat:=Fa (Hk w) c.news
def Jd (c:A3) (w:Int):A3:=⟨c.graph,c.workers,c.links,c.tokens,c.news.eraseIdx (Gf c w)⟩
def Eg (c:A3) (w:Int):Di:=c.news.getD (Gf c w) default
def Dj (c:A3) (w:Int):A3×Bool:=
 if B7 c∧c.news.any (Hk w)=true then
  (if Cv (A8 c w) (Eg c w).epoch=true then Jd c w else Av (Jd c w) w (Ef (A8 c w) ⟨(Eg c w).epoch,(Eg c w).capped⟩),true)
 else (c,false)
def Aq (c:A3) (p:D7):A3×Bool:=
 if p.kind=1 then Dk c p.a else if p.kind=2 then D9 c p.a else if p.kind=3 then C7 c p.a else if p.kind=4 then Ct c p.a p.b
 else if p.kind=5 then D4 c p.a p.b else if p.kind=6 then Ci c p.a else if p.kind=7 then Dj c p.a else (c,false)
def G8 (s:A3×List Bool) (p:D7):A3×List Bool:=((Aq s.1 p).1,s.2++[(Aq s.1 p).2])
def Bb (c:A3) (l:List D7):A3×List Bool:=l.foldl G8 (c,[])
def H1 (c:A3):Nat:=(Cx c.graph.workers 0 4).toNat
def C5 (c:A3):A3×Nat:=((Bb c (Mh (H1 c))).1,((Bb c (Mh (H1 c))).2.filter id).length)
def Cy:Nat→A3→A3×Nat
 | 0,c=>(c,0)
 |n+1,c=>if (C5 c).2=0 then ((C5 c).1,1) else ((Cy n (C5 c).1).1,(Cy n (C5 c).1).2+1)
def L3 (g:Ah) (l:List Aa):Prop:=Ea g∧l.length≤20∧∀r∈l,H2 r∧r.op=0∧r.stamp.turn=0
instance (g:Ah) (l:List Aa):Decidable (L3 g l):=by unfold L3;infer_instance
def Rf (n:Int) (l:List Aa) (w:Nat):List Aa:=(List.range 4).flatMap fun (e:Nat)=>(Cz l e).filter fun r=>Bn r.key n==w
def F2 (n:Int):Ca:=⟨Cx n 1 4,[],Cx n 1 4,0,0,0⟩
def Du (n:Int) (l:List Aa) (k:Nat):List Ab:=(List.range k).map fun w=>⟨[],[],Rf n l w,[],List.replicate 4 0,List.replicate 4 false,List.replicate 4 false,[]⟩
def Sb:A3:=⟨⟨[],0,0⟩,[],[],[],[]⟩
def Aj (g:Ah) (l:List Aa):A3×Bool:=
 if L3 g l then (⟨g,Du g.workers l g.workers.toNat,List.replicate (g.workers.toNat * g.workers.toNat) (F2 g.cap),List.replicate 4 default,[]⟩,true) else (Sb,false)
def Ee (w:Ab) (e:Int):F6×Bool:=if Cv w e=true then (w.dones.getD (Fa (fun d=>d.epoch==e) w.dones) default,true) else (default,false)
theorem M3 (n lo hi:Int):B3 Tryz.prog 59 [.one (vi n),.one (vi lo),.one (vi hi)] [.one (vi (Cx n lo hi))]:=by
 refine Aw A0 false Tryz.func59 rfl B5 fun W=>?_;conv=>whnf
 repeat' (first|(refine L4 ?_;conv=>whnf)|(refine L5 ?_;conv=>whnf)|(refine ⟨fun h=>?_,fun h=>?_⟩<;>conv=>whnf)|(refine Am A0 rfl rfl ⟨?_,trivial⟩;conv=>whnf)|(refine Gi ?_;conv=>whnf)|fail)
 all_goals (refine congrArg vi ?_;simp only [decide_eq_true_eq,decide_eq_false_iff_not] at *;unfold Cx;repeat' split)<;>first|contradiction|omega
theorem Nw (n lo hi:Int):B3 Tryz.prog 57 [.one (vi n),.one (vi lo),.one (vi hi)] [.one (vi (Cx n lo hi))]:=by
 refine Aw A0 false Tryz.func57 rfl B5 fun W=>?_;conv=>whnf
 repeat' (first|(refine L4 ?_;conv=>whnf)|(refine L5 ?_;conv=>whnf)|(refine ⟨fun h=>?_,fun h=>?_⟩<;>conv=>whnf)|(refine Am A0 rfl rfl ⟨?_,trivial⟩;conv=>whnf)|(refine Gi ?_;conv=>whnf)|fail)
 all_goals (refine congrArg vi ?_;simp only [decide_eq_true_eq,decide_eq_false_iff_not] at *;unfold Cx;repeat' split)<;>first|contradiction|omega
theorem A6s (x:A3):B3 Tryz.prog 118 [.agg x.c] [.one (El (Mh (Cx x.graph.workers 0 4).toNat))]:=by
 have hb:=Fe x.graph.workers 0 4 B5;obtain ⟨n,hn⟩:∃n:Nat,Cx x.graph.workers 0 4=n:=⟨(Cx x.graph.workers 0 4).toNat,by omega⟩;have h4:n≤4:=by omega
 refine Aw A0 false Tryz.func118 rfl B5 fun W=>?_;conv=>whnf
 refine As (M3 x.graph.workers 0 4) rfl (A7 ?_);rw [hn];refine Es 1 (El []) rfl Cq ?_
 refine Bk A0 false [9] (fun k:Nat=>[(5,.c (vi k))]) (fun k=>[]) (fun k=>[⟨1,El (pA k)⟩])
  (fun k=>k≤n) (fun k=>n-k) 0 (Nat.zero_le _) ⟨F0,trivial⟩ trivial ⟨Dm,trivial⟩ C1 A6 (fun k hk=>?_)
 conv=>whnf
 refine Eo (fun h=>?_) fun h=>?_<;>conv=>whnf
 ·have h:k<n:=by omega
  have hl:=A1t k;refine Bj A0 rfl rfl rfl rfl rfl rfl rfl rfl rfl rfl rfl (El (pA k++pW k)) (B94 rfl rfl rfl rfl) C6 Ad (A7 ?_);(repeat refine Ap ?_);refine Az [(1,3)] (k+1) Ad Ad ⟨rfl,trivial⟩ ⟨congrArg El (A6d k).symm,trivial⟩ trivial A6 C1 A6
 have e:n=k:=by omega
 subst e;have hl:=A1t n
 refine Bk A0 false [] (fun k:Nat=>[(6,.c (vi k))]) (fun k=>[]) (fun k=>[⟨1,El (pA n++pC n k)⟩])
  (fun k=>k≤n) (fun k=>n-k) 0 (Nat.zero_le _) ⟨F0,trivial⟩ trivial ⟨Dm,trivial⟩ C1 A6 (fun k hk=>?_)
 conv=>whnf
 refine Eo (fun h=>?_) fun h=>?_<;>conv=>whnf
 ·have h:k<n:=by omega
  have hc:=A1u n k h4
  refine Bk A0 false [] (fun j:Nat=>[(7,.c (vi j))]) (fun _=>[]) (fun j=>[⟨1,El (pA n++(pC n k++pB k j))⟩])
   (fun j=>j≤n) (fun j=>n-j) 0 (Nat.zero_le _) ⟨rfl,trivial⟩ trivial ⟨(congrArg (fun l=>Kv _ _ (pA n++l)) (List.append_nil _)).symm,trivial⟩ trivial A6 (fun j hj=>?_)
  conv=>whnf
  refine Eo (fun h'=>?_) fun h'=>?_<;>conv=>whnf
  ·have h':j<n:=by omega
   have hd:=B1n k j;have hs:=A6e k j;refine ⟨fun hq=>have hq:=bne_iff_ne.1 hq;?_,fun hq=>have hq:=bne_eq_false_iff_eq.1 hq;?_⟩<;>conv=>whnf
   ·(repeat refine Ap ?_)
    refine Bj A0 rfl rfl rfl rfl rfl rfl rfl rfl rfl rfl rfl (El (pA n++(pC n k++pB k j)++[⟨4,k,j⟩,⟨5,k,j⟩])) (B30 rfl rfl) C6 (by simp only [List.length_append];omega) (A7 ?_);(repeat refine Ap ?_);refine Az [(1,3)] (j+1) Ad Ad ⟨rfl,trivial⟩ ⟨?_,trivial⟩ trivial A6 trivial A6;exact congrArg El (by rw [hs,pK,if_neg hq];simp only [List.append_assoc])
   (repeat refine Ap ?_);refine Az [] (j+1) Ad Ad ⟨rfl,trivial⟩ ⟨?_,trivial⟩ trivial A6 trivial A6;exact congrArg El (by rw [hs,pK,if_pos hq,List.append_nil])
  have e:n=j:=by omega
  (repeat refine Ap ?_);refine Az [] (k+1) Ad Ad ⟨rfl,trivial⟩ ⟨congrArg El (by rw [←e,A6f]),trivial⟩ trivial A6 C1 A6
 have e:k=n:=by omega
 subst e;have hc:=A1u k k h4
 refine Bk A0 false [] (fun j:Nat=>[(8,.c (vi j))]) (fun _=>[]) (fun j=>[⟨1,El (pA k++pC k k++pE j)⟩])
  (fun j=>j≤4) (fun j=>4-j) 0 (Nat.zero_le _) ⟨rfl,trivial⟩ trivial ⟨(congrArg (fun l=>Kv _ _ l) (List.append_nil _)).symm,trivial⟩ trivial A6 (fun j hj=>?_)
 conv=>whnf
 refine Eo (fun h'=>?_) fun h'=>?_<;>conv=>whnf
 ·have h':j<4:=by omega
  have hd:=B1o j;(repeat refine Ap ?_);refine Bj A0 rfl rfl rfl rfl rfl rfl rfl rfl rfl rfl rfl (El (pA k++pC k k++pE j++[⟨6,j,0⟩])) (An rfl) C6 (by simp only [List.length_append];omega) (A7 ?_);(repeat refine Ap ?_);refine Az [(1,3)] (j+1) Ad Ad ⟨rfl,trivial⟩ ⟨?_,trivial⟩ trivial A6 trivial A6;exact congrArg El (by rw [B3o];simp only [List.append_assoc])
 refine Am A0 rfl rfl ⟨?_,trivial⟩;have e:j=4:=by omega
 subst e;exact congrArg El (by rw [Mh,Int.toNat_natCast])
theorem V0 (x:A3):B3 Tryz.prog 145 [.agg x.c] [.one (El (Mh (Cx x.graph.workers 0 4).toNat))]:=by
 have hb:=Fe x.graph.workers 0 4 B5;obtain ⟨n,hn⟩:∃n:Nat,Cx x.graph.workers 0 4=n:=⟨(Cx x.graph.workers 0 4).toNat,by omega⟩;have h4:n≤4:=by omega
 refine Aw A0 false Tryz.func145 rfl B5 fun W=>?_;conv=>whnf
 refine As (Nw x.graph.workers 0 4) rfl (A7 ?_);rw [hn];refine Yl 4 3 (fun i=>D7.c (([]:List D7).getD i default)) rfl ?_
 refine Bk A0 false [9] (fun k:Nat=>[(5,.c (vi k))]) (fun k=>[]) (fun k=>[⟨1,El (pA k)⟩])
  (fun k=>k≤n) (fun k=>n-k) 0 (Nat.zero_le _) ⟨F0,trivial⟩ trivial ⟨Dm,trivial⟩ C1 A6 (fun k hk=>?_)
 conv=>whnf
 refine Eo (fun h=>?_) fun h=>?_<;>conv=>whnf
 ·have h:k<n:=by omega
  have hl:=A1t k;refine Es 2 (Bh [1,3,2,7]) rfl (B4o rfl rfl rfl rfl) ?_
  refine Bk A0 false [7] (fun j:Nat=>[(22,.c (vi j))]) (fun _=>[]) (fun j=>[⟨2,Bh [1,3,2,7]⟩,⟨1,El (pA k++(pW k).take j)⟩])
   (fun j=>j≤4) (fun j=>4-j) 0 (Nat.zero_le _) ⟨rfl,trivial⟩ trivial ⟨rfl,(congrArg (fun l=>Kv _ _ l) (List.append_nil _)).symm,trivial⟩ trivial A6 (fun j hj=>?_)
  conv=>whnf
  refine Eo (fun h'=>?_) fun h'=>?_<;>conv=>whnf
  ·have h':j<4:=by omega
   have hd:((pW k).take j).length≤j:=List.length_take_le _ _;refine ⟨by exact ⟨by omega,by show (j:Int)<4;omega⟩,?_⟩
   conv=>whnf
   (repeat refine Ap ?_);refine Bj A0 rfl rfl rfl rfl rfl rfl rfl rfl rfl rfl rfl (El (pA k++(pW k).take j++[⟨([1,3,2,7]:List Int).getD j default,k,0⟩])) (An rfl) C6 (by simp only [List.length_append];omega) (A7 ?_);(repeat refine Ap ?_);refine Az [(1,4)] (j+1) Ad Ad ⟨rfl,trivial⟩ ⟨rfl,?_,trivial⟩ trivial A6 trivial A6;exact congrArg El (by rw [C2i k j h',List.append_assoc])
  have e:j=4:=by omega
  subst e;(repeat refine Ap ?_);refine Az [] (k+1) Ad Ad ⟨rfl,trivial⟩ ⟨congrArg El (A6d k).symm,trivial⟩ trivial A6 C1 A6
 have e:n=k:=by omega
 subst e;have hl:=A1t n
 refine Bk A0 false [] (fun k:Nat=>[(8,.c (vi k))]) (fun k=>[]) (fun k=>[⟨1,El (pA n++pC n k)⟩])
  (fun k=>k≤n) (fun k=>n-k) 0 (Nat.zero_le _) ⟨F0,trivial⟩ trivial ⟨Dm,trivial⟩ C1 A6 (fun k hk=>?_)
 conv=>whnf
 refine Eo (fun h=>?_) fun h=>?_<;>conv=>whnf
 ·have h:k<n:=by omega
  have hc:=A1u n k h4
  refine Bk A0 false [] (fun j:Nat=>[(9,.c (vi j))]) (fun _=>[]) (fun j=>[⟨1,El (pA n++(pC n k++pB k j))⟩])
   (fun j=>j≤n) (fun j=>n-j) 0 (Nat.zero_le _) ⟨rfl,trivial⟩ trivial ⟨(congrArg (fun l=>Kv _ _ (pA n++l)) (List.append_nil _)).symm,trivial⟩ trivial A6 (fun j hj=>?_)
  conv=>whnf
  refine Eo (fun h'=>?_) fun h'=>?_<;>conv=>whnf
  ·have h':j<n:=by omega
   have hd:=B1n k j;have hs:=A6e k j;refine ⟨fun hq=>have hq:=bne_iff_ne.1 hq;?_,fun hq=>have hq:=bne_eq_false_iff_eq.1 hq;?_⟩<;>conv=>whnf
   ·(repeat refine Ap ?_)
    refine Bj A0 rfl rfl rfl rfl rfl rfl rfl rfl rfl rfl rfl (El (pA n++(pC n k++pB k j)++[⟨4,k,j⟩,⟨5,k,j⟩])) (B30 rfl rfl) C6 (by simp only [List.length_append];omega) (A7 ?_);(repeat refine Ap ?_);refine Az [(1,3)] (j+1) Ad Ad ⟨rfl,trivial⟩ ⟨?_,trivial⟩ trivial A6 trivial A6;exact congrArg El (by rw [hs,pK,if_neg hq];simp only [List.append_assoc])
   (repeat refine Ap ?_);refine Az [] (j+1) Ad Ad ⟨rfl,trivial⟩ ⟨?_,trivial⟩ trivial A6 trivial A6;exact congrArg El (by rw [hs,pK,if_pos hq,List.append_nil])
  have e:n=j:=by omega
  (repeat refine Ap ?_);refine Az [] (k+1) Ad Ad ⟨rfl,trivial⟩ ⟨congrArg El (by rw [←e,A6f]),trivial⟩ trivial A6 C1 A6
 have e:k=n:=by omega
 subst e;have hc:=A1u k k h4
 refine Bk A0 false [] (fun j:Nat=>[(10,.c (vi j))]) (fun _=>[]) (fun j=>[⟨1,El (pA k++pC k k++pE j)⟩])
  (fun j=>j≤4) (fun j=>4-j) 0 (Nat.zero_le _) ⟨rfl,trivial⟩ trivial ⟨(congrArg (fun l=>Kv _ _ l) (List.append_nil _)).symm,trivial⟩ trivial A6 (fun j hj=>?_)
 conv=>whnf
 refine Eo (fun h'=>?_) fun h'=>?_<;>conv=>whnf
 ·have h':j<4:=by omega
  have hd:=B1o j;(repeat refine Ap ?_);refine Bj A0 rfl rfl rfl rfl rfl rfl rfl rfl rfl rfl rfl (El (pA k++pC k k++pE j++[⟨6,j,0⟩])) (An rfl) C6 (by simp only [List.length_append];omega) (A7 ?_);(repeat refine Ap ?_);refine Az [(1,3)] (j+1) Ad Ad ⟨rfl,trivial⟩ ⟨?_,trivial⟩ trivial A6 trivial A6;exact congrArg El (by rw [B3o];simp only [List.append_assoc])
 refine Am A0 rfl rfl ⟨?_,trivial⟩;have e:j=4:=by omega
 subst e;exact congrArg El (by rw [Mh,Int.toNat_natCast])
def Eh (a b:Ae):Prop:=a.epoch<b.epoch∨(a.epoch=b.epoch∧(a.op<b.op∨(a.op=b.op∧(a.key<b.key∨(a.key=b.key∧a.val<b.val)))))
theorem Pd {a b:Ae}:Kh a b<0↔Eh a b:=by
 simp only [Kh,Nn,Rc,Lv,Eh]
 (repeat' split)<;>omega
theorem Eh.trans {a b c:Ae}(h:Eh a b)(h':Eh b c):Eh a c:=by
 simp only [Eh] at *;omega
theorem Eh.irr {a:Ae}:¬ Eh a a:=by simp only [Eh];omega
theorem Eh.tri {a b:Ae}(h:a≠b)(h':¬ Eh a b):Eh b a:=by
 obtain ⟨a1,a2,a3,a4⟩:=a;obtain ⟨b1,b2,b3,b4⟩:=b;simp only [Eh,ne_eq,Ae.mk.injEq] at *;omega
theorem Zv:∀{l:List Ae},P4 l↔l.Pairwise Eh
 | []=>by simp [P4]
 | [x]=>by simp [P4]
 |x::y::r=>by
  have ih:=Zv (l:=y::r)
  have h1:P4 (x::y::r)↔Eh x y∧P4 (y::r):=by
   constructor
   ·intro h
    refine ⟨Pd.1 (by simpa using h 0 C8),fun i hi=>?_⟩
    simpa using h (i+1) (by simp at hi ⊢;omega)
   rintro ⟨h1,h2⟩ i hi
   cases i with
   |zero=>simpa using Pd.2 h1
   |succ i=>simpa using h2 i (by simp at hi ⊢;omega)
  rw [h1,ih,List.pairwise_cons (a:=x)]
  constructor
  ·rintro ⟨h1,h2⟩
   refine ⟨fun z hz=>?_,h2⟩
   rcases List.mem_cons.1 hz with rfl|hz
   ·exact h1
   exact h1.trans ((List.pairwise_cons.1 h2).1 z hz)
  rintro ⟨h1,h2⟩
  exact ⟨h1 y C8,h2⟩
theorem Ux {α:Type}(p:α→Bool):∀l:List α,Fa p l≤l.length
 | []=>by simp [Fa]
 |x::r=>by
  have:=Ux p r
  simp only [Fa]
  split<;>simp<;>omega
theorem Pn {α:Type}(p:α→Bool):∀l:List α,∀x∈l.take (Fa p l),p x=false
 | []=>by simp [Fa]
 |x::r=>by
  intro y hy;simp only [Fa] at hy
  split at hy
  ·simp at hy
  rename_i hx
  simp only [List.take_succ_cons,List.mem_cons] at hy
  rcases hy with rfl|hy
  ·simpa using hx
  exact Pn p r y hy
theorem A0k {α:Type} [Inhabited α] (p:α→Bool):∀l:List α,Fa p l<l.length→p (l.getD (Fa p l) default)=true
 | []=>by simp [Fa]
 |x::r=>by
  intro h;simp only [Fa] at h ⊢
  split at h
  ·rename_i hx
   simp [hx]
  rename_i hx
  rw [if_neg hx]
  simpa using A0k p r (by simpa using h)
theorem J2 {l:List Ae}{x y:Ae}:y∈Do l x↔y∈l∨y=x:=by
 unfold Do
 split
 ·rename_i h
  constructor
  ·exact .inl
  rintro (h'|rfl)
  ·exact h'
  obtain ⟨z,hz,e⟩:=List.any_eq_true.1 h;obtain rfl:=of_decide_eq_true e;exact hz
 have:y∈l↔y∈l.take (Km l x)∨y∈l.drop (Km l x):=by rw [←List.mem_append,List.take_append_drop]
 rw [List.mem_append,List.mem_cons,this]
 constructor
 ·rintro (h|h|h)
  ·exact .inl (.inl h)
  ·exact .inr h
  exact .inl (.inr h)
 rintro ((h|h)|h)
 ·exact .inl h
 ·exact .inr (.inr h)
 exact .inr (.inl h)
theorem B1p {l:List Ae}{x:Ae}(h:l.Pairwise Eh):(Do l x).Pairwise Eh:=by
 unfold Do
 split
 ·exact h
 rename_i hn
 have hx:x∉l:=fun hm=>hn (List.any_eq_true.2 ⟨x,hm,by simp⟩);have e:=(List.take_append_drop (Km l x) l).symm;rw [e] at h;obtain ⟨h1,h2,h3⟩:=List.pairwise_append.1 h
 have hlo:∀y∈l.take (Km l x),Eh y x:=fun y hy=>by
  have:=Pn _ l y hy
  simp only [Bool.not_eq_false',decide_eq_true_eq] at this;exact Pd.1 this
 have hhi:∀y∈l.drop (Km l x),Eh x y:=by
  by_cases hk:Km l x<l.length
  ·have hat:=A0k (fun y=>!decide (Kh y x<0)) l hk
   simp only [Bool.not_eq_true',decide_eq_false_iff_not] at hat;have hat:¬ Eh (l.getD (Km l x) default) x:=fun hc=>hat (Pd.2 hc);have hne:l.getD (Km l x) default≠x:=fun e=>hx (e▸At hk);have h0:=Eh.tri hne hat;intro y hy;rw [List.drop_eq_getElem_cons hk] at hy h2;have e0:l[Km l x]=l.getD (Km l x) default:=by simp [List.getD,hk]
   rw [e0] at hy h2
   rcases List.mem_cons.1 hy with rfl|hy
   ·exact h0
   exact h0.trans ((List.pairwise_cons.1 h2).1 y hy)
  rw [List.drop_of_length_le Ad];simp
 refine List.pairwise_append.2 ⟨h1,List.pairwise_cons.2 ⟨hhi,h2⟩,fun y hy z hz=>?_⟩
 rcases List.mem_cons.1 hz with rfl|hz
 ·exact hlo y hy
 exact (hlo y hy).trans (hhi z hz)
theorem A3o {l:List Ae}{x:Ae}(h:l.Pairwise Eh):(Ei l x).1.Pairwise Eh:=by
 unfold Ei
 split
 ·exact h
 exact B1p (h.sublist List.filter_sublist)
theorem A4i {k:Int}{l:List Ae}{x:Ae}(h:l.Pairwise Eh):(Bs k l x).1.Pairwise Eh:=by
 unfold Bs
 split
 ·exact A3o h
 split
 ·split
  ·exact h
  exact B1p h
 exact h
theorem Um {x:Bw}{k v:Int}(hx:Jv x)(h:Ky k v):Ky (B9 x k v).1 (B9 x k v).2.1:=by
 obtain ⟨_,h2,_,h4,_⟩:=hx;unfold B9;obtain ⟨⟨a1,a2⟩,a3,a4⟩:=h;have hm:=Int.tmod_lt_of_pos (k+x.a) (show (0:Int)<100 by decide)
 (repeat' split)<;>simp only [Ky] at * <;>(try (rename_i hk;have:=h2 hk))<;>(try (rename_i hk;have:=h4 hk;have:=Int.tmod_nonneg 100 (show 0≤k+x.a by omega)))<;>omega
theorem Nz {s:Fo}(h:(Ch s).2=true):(Ch s).1=⟨s.epoch,s.turn+1⟩∧(0≤s.epoch∧s.epoch≤3)∧0≤s.turn∧s.turn<6:=by
 unfold Ch at *
 split at h
 ·rename_i hs
  rw [if_pos hs]
  have:=of_decide_eq_true hs.1
  exact ⟨rfl,this.1,this.2.1,hs.2⟩
 cases h
theorem K1 {g:Ah}{op:Int}(h:Ea g)(h0:0≤op)(h1:op<g.nodes.length):Nj g op.toNat:=h.2.2.2 op.toNat Ad
theorem B7u {g:Ah}{r:Aa}(h:Kb g r):We g.nodes.length (Hj g r):=by
 obtain ⟨hg,hr,ho⟩:=h;obtain ⟨r1,r2,r3,r4,r5⟩:=hr;have hn:=K1 hg r1.1 ho;have hc:=Um (k:=r.key) (v:=r.val) hn.1 ⟨r4,r5⟩;unfold Hj;intro q hq
 split at hq
 ·simp at hq
 rename_i hb
 obtain ⟨k,hk,rfl⟩:=List.mem_map.1 hq;have he:=hn.2.2 k hk;have hk7:=hn.1.2.2.2.2.2.2.2.2 k hk;refine ⟨⟨hk7,?_,?_,hc.1,hc.2⟩,he.1⟩
 ·simp only
  split
  ·rename_i h7
   have:=Nz (s:=r.stamp) (by simpa [h7] using hb)
   rw [this.1];exact this.2.1
  exact r2
 simp only
 split
 ·rename_i h7
  have:=Nz (s:=r.stamp) (by simpa [h7] using hb)
  rw [this.1];simp only;omega
 exact r3
theorem A2n {g:Ah}{cs:List Ae}{r:Aa}:We g.nodes.length (Cj g cs r).2.1:=by
 unfold Cj
 split
 ·rename_i h
  (repeat' split)
  ·intro q hq;simp at hq
  ·intro q hq;simp at hq
  exact B7u h
 intro q hq;simp at hq
theorem B6d {g:Ah}{cs:List Ae}{r:Aa}(h:cs.Pairwise Eh):(Cj g cs r).1.Pairwise Eh:=by
 unfold Cj
 (repeat' split)
 ·exact h
 ·exact A4i h
 ·exact A4i h
 exact h
theorem B42 {g:Ah}{r:Aa}(h:Kb g r):(Hj g r).length≤2:=by
 unfold Hj
 have:=(K1 h.1 h.2.1.1.1 h.2.2).1.2.2.2.2.2.1
 split
 ·simp
 rw [List.length_map];exact this
theorem B2b {g:Ah}{cs:List Ae}{r:Aa}:(Cj g cs r).2.1.length≤2:=by
 unfold Cj
 split
 ·rename_i h
  (repeat' split)
  ·simp
  ·simp
  exact B42 h
 simp
theorem A6j {l:List Ae}{x:Ae}:(Do l x).length≤l.length+1:=by
 unfold Do
 split
 ·omega
 have:=Ux (fun y=>!decide (Kh y x<0)) l
 simp only [List.length_append,List.length_cons,List.length_take,List.length_drop,Km];omega
theorem A1z {k:Int}{l:List Ae}{x:Ae}:(Bs k l x).1.length≤l.length+1:=by
 unfold Bs
 split
 ·unfold Ei
  split
  ·simp
  have h1:=A6j (l:=l.filter fun y=>!Bq x y) (x:=x);have h2:=List.length_filter_le (fun y=>!Bq x y) l
  simp only
  omega
 split
 ·split
  ·simp
  exact A6j
 simp
theorem A92 {g:Ah}{cs:List Ae}{r:Aa}:(Cj g cs r).1.length≤cs.length+1:=by
 unfold Cj
 (repeat' split)
 ·simp
 ·exact A1z
 ·exact A1z
 simp
theorem B5d {l:List Aa}(h:A7e l):A7e (l.drop 1):=by
 intro i hi;obtain ⟨h1,h2,h3⟩:=h (i+1) (by simp at hi;omega);have e:∀j,(l.drop 1).getD j default=l.getD (j+1) default:=fun j=>by simp [List.getD,Nat.add_comm]
 refine ⟨by rw [e];exact h1,by rw [e];exact h2,fun h0=>?_⟩;rw [e,e,show i-1+1=i by omega]
 exact h3 Ad
theorem Sc {n k:Nat}{l:List Aa}(h:We n l):We n (l.drop k):=fun r hr=>h r (List.mem_of_mem_drop hr)
theorem X3 {n:Nat}{l:List Aa}{r:Aa}(h:We n l)(hr:H2 r∧r.op<n):We n (l++[r]):=fun q hq=>by
 rcases List.mem_append.1 hq with hq|hq
 ·exact h q hq
 rw [List.mem_singleton.1 hq];exact hr
theorem B6j {g:Ah}{w:Ab}(h:Db g.nodes.length w):Db g.nodes.length (F9 g w):=by
 obtain ⟨⟨a1,a2,a3,a4⟩,⟨l1,l2,l3⟩,hi,hs,hd⟩:=h;refine ⟨⟨Sc a1,A2n,a3,Zv.2 (B6d (Zv.1 a4))⟩,⟨l1,l2,?_⟩,hi,hs,hd⟩;simp only [F9]
 split
 ·rw [List.length_set];exact l3
 exact l3
theorem A7i {n:Nat}{w:Ab}(h:Db n w)(h0:0<w.inputs.length):Db n (I7 w):=by
 obtain ⟨⟨a1,a2,a3,a4⟩,hl,hi,hs,hd⟩:=h;exact ⟨⟨X3 a1 (a3 _ (At h0)),a2,Sc a3,a4⟩,hl,B5d hi,hs,hd⟩
theorem A55 {n:Nat}{w:Ab}{r:Aa}(h:Db n w)(hr:H2 r∧r.op<n):Db n (kept w r):=by
 obtain ⟨⟨a1,a2,a3,a4⟩,hl,hi,hs,hd⟩:=h;exact ⟨⟨X3 a1 hr,a2,a3,a4⟩,hl,hi,hs,hd⟩
theorem Qh {n:Nat}{w:Ab}(h:Db n w):Db n (Cd w):=by
 obtain ⟨⟨a1,a2,a3,a4⟩,hl,hi,hs,hd⟩:=h;exact ⟨⟨a1,Sc a2,a3,a4⟩,hl,hi,hs,hd⟩
theorem Zq {n:Nat}{w:Ab}{e:Int}{b:Bool}(h:Db n w):Db n ⟨w.queue,w.staged,w.inputs,w.cells,w.sums,w.black.set e.toNat b,w.caps,w.dones⟩:=by
 obtain ⟨ha,⟨l1,l2,l3⟩,hi,hs,hd⟩:=h;exact ⟨ha,⟨l1,by simpa using l2,l3⟩,hi,hs,hd⟩
theorem B2w {n:Nat}{w:Ab}{e k:Int}(h:Db n w)(h1:0≤e∧e≤3):Db n (Fk w e k)↔Hf (w.sums.getD e.toNat default+k):=by
 obtain ⟨ha,⟨l1,l2,l3⟩,hi,hs,hd⟩:=h;have hlt:e.toNat<w.sums.length:=by omega
 constructor
 ·rintro ⟨_,_,_,hs',_⟩
  have:=hs' (w.sums.getD e.toNat default+k) (by simp only [Fk];exact List.mem_set hlt _)
  exact this
 intro hk;refine ⟨ha,⟨by simpa [Fk] using l1,l2,l3⟩,hi,fun m hm=>?_,hd⟩;simp only [Fk] at hm
 rcases List.mem_or_eq_of_mem_set hm with h|rfl
 ·exact hs m h
 exact hk
theorem A7y {n:Nat}{w:Ab}{e:Int}{b:Bool}(h:Db n w)(h1:0≤e∧e≤3)(h2:Cv w e=false):Db n (Ef w ⟨e,b⟩):=by
 obtain ⟨ha,hl,hi,hs,hd⟩:=h;refine ⟨ha,hl,hi,hs,fun i hi'=>?_⟩;simp only [Ef,List.length_append,List.length_singleton] at hi';have e1:∀j,j<w.dones.length→(w.dones++[(⟨e,b⟩:F6)]).getD j default=w.dones.getD j default:=fun j hj=>by simp [List.getD,List.getElem?_append_left hj]
 have e2:(w.dones++[(⟨e,b⟩:F6)]).getD w.dones.length default=⟨e,b⟩:=by simp [List.getD]
 simp only [Ef]
 by_cases hlt:i<w.dones.length
 ·obtain ⟨d1,d2⟩:=hd i hlt
  exact ⟨by rw [e1 i hlt];exact d1,fun k hk=>by rw [e1 i hlt,e1 k Ad];exact d2 k hk⟩
 obtain rfl:i=w.dones.length:=by omega
 refine ⟨by rw [e2];exact h1,fun k hk=>?_⟩;rw [e2,e1 k hk];intro hc
 have:Cv w e=true:=List.any_eq_true.2 ⟨w.dones.getD k default,At hk,by simpa using hc⟩
 rw [h2] at this
 cases this
theorem Ie {α:Type}{l:List α}{i:Nat}{a x:α}(h:x∈l.set i a):x∈l∨x=a:=List.mem_or_eq_of_mem_set h
theorem J4 {c:A3}{j:Int}{w:Ab}(h:B7 c)(hj:0≤j∧j<c.workers.length):B7 (Av c j w)↔Db c.graph.nodes.length w:=by
 obtain ⟨⟨g1,g2,g3,g4⟩,hw,hl,ht,hn⟩:=h;have hlt:j.toNat<c.workers.length:=by omega
 constructor
 ·rintro ⟨_,hw',_⟩
  exact hw' w (by simp only [Av];exact List.mem_set hlt _)
 intro h;refine ⟨⟨g1,by simpa [Av] using g2,g3,g4⟩,fun x hx=>?_,hl,ht,hn⟩
 rcases Ie hx with hx|rfl
 ·exact hw x hx
 exact h
theorem Xd {c:A3}{k:Int}{l:Ca}(h:B7 c)(hl':Gn l∧Z6 c k.toNat l):B7 (Bi c k l):=by
 obtain ⟨⟨g1,g2,g3,g4⟩,hw,hl,ht,hn⟩:=h;refine ⟨⟨g1,g2,by simpa [Bi] using g3,g4⟩,hw,fun i hi=>?_,ht,hn⟩;simp only [Bi,List.length_set] at hi
 show Gn ((c.links.set k.toNat l).getD i default)∧Z6 c i ((c.links.set k.toNat l).getD i default)
 by_cases e:i=k.toNat
 ·subst e
  rw [Sx.getD_set_self _ _ _ _ hi];exact hl'
 rw [Sx.getD_set_ne _ _ _ _ _ e];exact hl i hi
theorem Ge {c:A3}{f t:Int}(h:B7 c)(hf:0≤f∧f<c.graph.workers)(ht:0≤t∧t<c.graph.workers):
  (0≤Ao c f t∧Ao c f t<c.links.length)∧((Ao c f t).toNat:Int).tdiv c.graph.workers=f∧((Ao c f t).toNat:Int).tmod c.graph.workers=t:=by
 have hl:=h.1.2.2.1;have hn:=h.1.1.2.1;unfold Ao;have hw:c.graph.workers=1∨c.graph.workers=2∨c.graph.workers=3∨c.graph.workers=4:=by omega
 have h0:0≤f * c.graph.workers:=Int.mul_nonneg hf.1 Ad;have hfw:f=0∨f=1∨f=2∨f=3:=by omega
 have htw:t=0∨t=1∨t=2∨t=3:=by omega
 rw [hl];generalize c.graph.workers=n at *
 rcases hw with rfl|rfl|rfl|rfl<;>rcases hfw with rfl|rfl|rfl|rfl<;>rcases htw with rfl|rfl|rfl|rfl<;>first|omega|(refine ⟨⟨by decide,by decide⟩,by decide,by decide⟩)
theorem V7 {c:A3}{k:Int}(h:B7 c)(hk:0≤k∧k<c.links.length):Gn (Ba c k)∧Z6 c k.toNat (Ba c k):=h.2.2.1 k.toNat Ad
theorem B53 {l:Ca}{r:Aa}(h:Gn l):Gn (Cf l r).1:=by
 unfold Cf
 split
 ·rename_i hs
  obtain ⟨⟨h1,h2,h3,h4,h5,h6,h7⟩,hq⟩:=h;obtain ⟨_,hr,hc,hs⟩:=hs;refine ⟨?_,fun q hq'=>?_⟩
  ·simp only [Xl,List.length_append,List.length_singleton]
   omega
  rcases List.mem_append.1 hq' with hq'|hq'
  ·exact hq q hq'
  rw [List.mem_singleton.1 hq'];exact hr
 exact h
theorem A98 {l:Ca}(h:Gn l):Gn (Bc l).1:=by
 unfold Bc
 split
 ·rename_i hs
  obtain ⟨⟨h1,h2,h3,h4,h5,h6,h7⟩,hq⟩:=h;refine ⟨?_,fun q hq'=>hq q (List.mem_of_mem_drop hq')⟩;simp only [Xl,List.length_drop];omega
 exact h
theorem A2x {l:Ca}(h:Gn l):Gn (Ce l).1:=by
 unfold Ce
 split
 ·rename_i hs
  obtain ⟨⟨h1,h2,h3,h4,h5,h6,h7⟩,hq⟩:=h;refine ⟨?_,hq⟩;simp only [Xl];omega
 exact h
theorem Q1 {k n:Int}(hk:0≤k)(hn:1≤n):0≤Bn k n∧Bn k n<n:=by
 have h1:=Int.tmod_lt_of_pos k (show 0<n by omega)
 have h2:=Int.tmod_nonneg n hk;unfold Bn
 (repeat' split)<;>omega
theorem B6i {c:A3}{w:Int}(h:Gm c w):B7 (Av c w (Fi c.graph (A8 c w)).1):=by
 obtain ⟨hc,h0,h1⟩:=h;have hw:=hc.2.1 _ (At (d:=default) (show w.toNat<c.workers.length by omega))
 refine (J4 hc ⟨h0,h1⟩).2 ?_;unfold Fi
 split
 ·exact B6j hw
 exact hw
theorem A85 {c:A3}{w:Int}(h:B7 c):B7 (Dk c w).1:=by
 unfold Dk
 split
 ·exact B6i ‹_›
 exact h
theorem A6g {c:A3}{w:Int}(h:B7 c):B7 (D9 c w).1:=by
 unfold D9
 split
 ·rename_i hW
  obtain ⟨hc,h0,h1⟩:=hW;have hw:=hc.2.1 _ (At (d:=default) (show w.toNat<c.workers.length by omega))
  refine (J4 hc ⟨h0,h1⟩).2 ?_;unfold Df
  split
  ·rename_i hi;exact A7i hw hi.2.2.2.2
  exact hw
 exact h
theorem Mc {c:A3}{w:Int}(hc:B7 c)(h:0≤w∧w<c.workers.length):Db c.graph.nodes.length (A8 c w):=hc.2.1 _ (At (d:=default) (show w.toNat<c.workers.length by omega))
theorem N1 {c:A3}{w:Int}(h:Gm c w)(hs:0<(A8 c w).staged.length):H2 (B1 c w)∧(B1 c w).op<c.graph.nodes.length:=(Mc h.1 h.2).1.2.1 _ (At hs)
theorem Ox {c:A3}{w:Int}(h:Gm c w)(hs:0<(A8 c w).staged.length):0≤B8 c w∧B8 c w<c.graph.workers:=
 Q1 (N1 h hs).1.2.2.2.1.1 h.1.1.1.2.1.1
theorem Tx {c:A3}{w:Int}(h:Gm c w)(hs:0<(A8 c w).staged.length)(hne:B8 c w≠w):B7 (Bi c (Ao c w (B8 c w)) (Cf (Ba c (Ao c w (B8 c w))) (B1 c w)).1):=by
 have hw:0≤w∧w<c.graph.workers:=by have:=h.1.1.2.1;exact ⟨h.2.1,by have:=h.2.2;omega⟩
 obtain ⟨b1,b2,b3⟩:=Ge h.1 hw (Ox h hs);obtain ⟨k1,k2,k3,k4⟩:=V7 h.1 b1;refine Xd h.1 ⟨B53 k1,?_⟩;unfold Cf
 split
 ·exact ⟨k2,X3 k3 (N1 h hs),fun e=>absurd (by rw [b2,b3] at e;exact e.symm) hne⟩
 exact ⟨k2,k3,k4⟩
def Yx (c:A3) (w:Int):Int:=(A8 c w).sums.getD (B1 c w).stamp.epoch.toNat default+1
theorem Rt {n:Nat}{w:Ab}{e:Int}(h:Db n w)(he:0≤e∧e≤3):E5 w e=Fk w e 1:=by
 have:=h.2.1.1
 unfold E5;rw [if_pos Ad]
theorem Ri {c:A3}{w:Int}(h:B7 c):Bf (C7 c w).1=(if (C7 c w).2=true∧B8 c w≠w then decide (Hf (Yx c w)) else true):=by
 unfold C7
 by_cases hm:Gm c w∧0<(A8 c w).staged.length
 ·obtain ⟨hW,hs⟩:=hm
  rw [if_pos ⟨hW,hs⟩];have hfo:=N1 hW hs
  by_cases hself:B8 c w=w
  ·simp only [hself,if_true,ne_eq,not_true_eq_false,and_false,if_false]
   exact decide_eq_true ((J4 h hW.2).2 (A55 (Qh (Mc h hW.2)) hfo))
  rw [if_neg hself]
  by_cases hsend:(Cf (Ba c (Ao c w (B8 c w))) (B1 c w)).2=true
  ·rw [if_pos hsend]
   simp only [true_and,if_pos hself,ne_eq,hself,not_false_eq_true,and_self,if_true];have hc2:=Tx hW hs hself;unfold Bf;refine decide_eq_decide.2 ?_;have hw:=Qh (Mc h hW.2);rw [J4 hc2 hW.2,Rt hw hfo.1.2.1];exact B2w hw hfo.1.2.1
  rw [if_neg hsend];simp only [Bool.false_eq_true,false_and,if_false];exact decide_eq_true h
 rw [if_neg hm];simp only [Bool.false_eq_true,false_and,if_false];exact decide_eq_true h
theorem Uc {c:A3}{f t:Int}(h:L0 c f t):B7 (Bi c (Ao c f t) (Bc (Ba c (Ao c f t))).1):=by
 obtain ⟨b1,b2,b3⟩:=Ge h.1 h.2.2.1 h.2.2.2;obtain ⟨k1,k2,k3,k4⟩:=V7 h.1 b1;refine Xd h.1 ⟨A98 k1,?_⟩;unfold Bc
 split
 ·exact ⟨k2,Sc k3,fun e=>absurd (by rw [b2,b3] at e;exact e) h.2.1⟩
 exact ⟨k2,k3,k4⟩
def Hq (c:A3) (f t:Int):Aa:=(Bc (Ba c (Ao c f t))).2.1
theorem W6 {c:A3}{f t:Int}(h:L0 c f t)(hk:(Bc (Ba c (Ao c f t))).2.2=true):H2 (Hq c f t)∧(Hq c f t).op<c.graph.nodes.length:=by
 obtain ⟨b1,b2,b3⟩:=Ge h.1 h.2.2.1 h.2.2.2;obtain ⟨k1,k2,k3,k4⟩:=V7 h.1 b1;unfold Hq;unfold Bc at hk ⊢
 split at hk
 ·rename_i hp
  rw [if_pos hp];exact k3 _ (At hp.2)
 cases hk
def Z0 (c:A3) (f t:Int):Int:=(A8 c t).sums.getD (Hq c f t).stamp.epoch.toNat default+ -1
theorem Rn {n:Nat}{w:Ab}{r:Aa}(h:Db n w)(he:0≤r.stamp.epoch∧r.stamp.epoch≤3):D0 w r=Hw (Fk (kept w r) r.stamp.epoch (-1)) r.stamp.epoch:=by
 have:=h.2.1.1
 have:=h.2.1.2.1
 unfold D0;rw [if_pos Ad]
theorem A3p {n:Nat}{w:Ab}{e:Int}{b:Bool}:Db n ⟨w.queue,w.staged,w.inputs,w.cells,w.sums,w.black.set e.toNat b,w.caps,w.dones⟩↔Db n w:=by
 refine ⟨fun h=>?_,Zq⟩;obtain ⟨ha,⟨l1,l2,l3⟩,hi,hs,hd⟩:=h;exact ⟨ha,⟨l1,by simpa using l2,l3⟩,hi,hs,hd⟩
theorem Y0 {c:A3}{f t:Int}(h:B7 c):Bf (Ct c f t).1=(if (Ct c f t).2=true then decide (Hf (Z0 c f t)) else true):=by
 unfold Ct
 by_cases hm:L0 c f t∧(Bc (Ba c (Ao c f t))).2.2=true
 ·rw [if_pos hm]
  obtain ⟨hL,hk⟩:=hm;have hto:=W6 hL hk;have hc2:=Uc hL;have ht:0≤t∧t<c.workers.length:=by have:=h.1.2.1;have:=hL.2.2.2;omega
  simp only [if_true];unfold Bf;refine decide_eq_decide.2 ?_;rw [J4 hc2 ht];have hw:=Mc h ht
  show Db _ (D0 (A8 c t) (Hq c f t))↔_
  rw [Rn hw hto.1.2.1];exact (A3p (w:=Fk (kept (A8 c t) (Hq c f t)) (Hq c f t).stamp.epoch (-1))).trans (B2w (A55 hw hto) hto.1.2.1)
 rw [if_neg hm];simp only [Bool.false_eq_true,if_false];exact decide_eq_true h
theorem T3 {c:A3}{f t:Int}(h:B7 c):B7 (D4 c f t).1:=by
 unfold D4
 split
 ·rename_i hL
  obtain ⟨b1,b2,b3⟩:=Ge h hL.2.2.1 hL.2.2.2;obtain ⟨k1,k2,k3,k4⟩:=V7 h b1;refine Xd h ⟨A2x k1,?_⟩;unfold Ce
  split
  ·exact ⟨k2,k3,k4⟩
  exact ⟨k2,k3,k4⟩
 exact h
theorem B3i {c:A3}{l:List Di}(h:B7 c)(hl:∀x∈l,Ls c.graph.workers x):B7 ⟨c.graph,c.workers,c.links,c.tokens,l⟩:=⟨h.1,h.2.1,h.2.2.1,h.2.2.2.1,hl⟩
theorem Sa {c:A3}{w:Int}(h:B7 c)(hn:c.news.any (Hk w)=true):Eg c w∈c.news∧(Eg c w).to_=w:=by
 obtain ⟨x,hx,hw⟩:=List.any_eq_true.1 hn
 have hlt:Gf c w<c.news.length:=by
  by_cases hlt:Gf c w<c.news.length
  ·exact hlt
  have:=Ux (Hk w) c.news
  have he:Fa (Hk w) c.news=c.news.length:=by unfold Gf at hlt;omega
  have:=Pn (Hk w) c.news x (by rw [he,List.take_length];exact hx)
  rw [hw] at this;cases this
 have:=A0k (Hk w) c.news hlt
 exact ⟨At hlt,eq_of_beq this⟩
theorem A78 {c:A3}{w:Int}(h:B7 c):B7 (Dj c w).1:=by
 unfold Dj
 split
 ·rename_i hn
  have hh:B7 (Jd c w):=B3i h fun x hx=>h.2.2.2.2 x (List.mem_of_mem_eraseIdx hx);obtain ⟨m1,m2⟩:=Sa h hn.2;have hN:=h.2.2.2.2 _ m1;have hw:0≤w∧w<c.workers.length:=by have:=h.1.2.1;have:=hN.1;omega
  split
  ·exact hh
  rename_i hd
  have hwk:=A7y (b:=(Eg c w).capped) (Mc h hw) hN.2 (by simpa using hd);exact (J4 hh hw).2 hwk
 exact h
theorem Xe {c:A3}{e:Int}{t:Fs}(h:B7 c)(ht:Lt c.graph.workers t):B7 (De c e t):=by
 obtain ⟨⟨g1,g2,g3,g4⟩,hw,hl,htt,hn⟩:=h;refine ⟨⟨g1,g2,g3,by simpa [De] using g4⟩,hw,hl,fun x hx=>?_,hn⟩
 rcases Ie hx with hx|rfl
 ·exact htt x hx
 exact ht
theorem A62 {c:A3}{e:Int}(h:B7 c):B7 (Ci c e).1:=by
 unfold Ci
 split
 ·rename_i hT
  obtain ⟨_,he,hD,hP⟩:=hT;have htl:=h.1.2.2.2;have hTP:Lt c.graph.workers (A9 c e):=h.2.2.2.1 _ (At (d:=default) (show e.toNat<c.tokens.length by omega))
  have hn1:=h.1.1.2.1;have hwl:=h.1.2.1;have hat:0≤(A9 c e).at_∧(A9 c e).at_<c.workers.length:=by have:=hTP.1;omega
  have hwk:=Mc h hat
  simp only
  split
  ·have h1:Lt c.graph.workers ⟨true,(c.workers.length:Int)-1,0,false,(A8 c (A9 c e).at_).caps.getD e.toNat default⟩:=⟨⟨by show (0:Int)≤(c.workers.length:Int)-1;omega,by show (c.workers.length:Int)-1≤_;omega⟩,(fun hc=>Bool.noConfusion hc),(by show (-1000000:Int)≤0;decide),(by show (0:Int)≤1000000;decide)⟩
   exact (J4 (Xe (e:=e) h h1) hat).2 (Zq hwk)
  split
  ·split
   ·rename_i hg ha hs
    have h1:Lt c.graph.workers ⟨(A9 c e).going,(A9 c e).at_-1,(A9 c e).sum+(A8 c (A9 c e).at_).sums.getD e.toNat default,(A9 c e).black||(A8 c (A9 c e).at_).black.getD e.toNat default,(A9 c e).capped||(A8 c (A9 c e).at_).caps.getD e.toNat default⟩:=
     ⟨⟨by show 0≤(A9 c e).at_-1;omega,by show (A9 c e).at_-1≤_;have:=hTP.1;omega⟩,fun hc=>absurd hc hg,hs⟩
    exact (J4 (Xe (e:=e) h h1) hat).2 (Zq hwk)
   exact h
  rename_i hg ha
  have hA:(A9 c e).at_=0:=by have:=hTP.1;omega
  have hc1:B7 (De c e ⟨false,(A9 c e).at_,(A9 c e).sum,(A9 c e).black,(A9 c e).capped⟩):=Xe h ⟨hTP.1,fun _=>hA,hTP.2.2⟩
  unfold Gw
  split
  ·have hw0:(0:Int)≤0∧(0:Int)<c.workers.length:=by omega
   have hd0:Cv (A8 c (A9 c e).at_) e=false:=by rw [hA];exact hD
   have hdw:=A7y (b:=((A9 c e).capped||(A8 c (A9 c e).at_).caps.getD e.toNat default)) hwk he hd0;have hw1:=(J4 (j:=0) hc1 hw0).2 hdw;refine B3i hw1 fun x hx=>?_
   rcases List.mem_append.1 hx with hx|hx
   ·exact h.2.2.2.2 x hx
   obtain ⟨i,hi,rfl⟩:=List.mem_map.1 hx
   have:=List.mem_range.1 hi
   have hl2:(De c e ⟨false,(A9 c e).at_,(A9 c e).sum,(A9 c e).black,(A9 c e).capped⟩).workers.length=c.workers.length:=rfl;rw [hl2] at this;refine ⟨⟨by show (0:Int)≤(i:Int)+1;omega,?_⟩,he⟩
   show (i:Int)+1≤c.graph.workers-1
   omega
  exact hc1
 exact h
theorem Rz {c : A3} {p : D7} (h : B7 c) : Bf (Aq c p).1 =
    (if p.kind = 3 then (if (C7 c p.a).2 = true ∧ B8 c p.a ≠ p.a then decide (Hf (Yx c p.a)) else true)
     else if p.kind = 4 then (if (Ct c p.a p.b).2 = true then decide (Hf (Z0 c p.a p.b)) else true) else true) := by
  unfold Aq
  by_cases h1 : p.kind = 1
  · rw [if_pos h1, if_neg Ad, if_neg Ad]; exact decide_eq_true (A85 h)
  by_cases h2 : p.kind = 2
  · rw [if_neg h1, if_pos h2, if_neg Ad, if_neg Ad]; exact decide_eq_true (A6g h)
  by_cases h3 : p.kind = 3
  · rw [if_neg h1, if_neg h2, if_pos h3, if_pos h3]; exact Ri h
  by_cases h4 : p.kind = 4
  · rw [if_neg h1, if_neg h2, if_neg h3, if_pos h4, if_neg h3, if_pos h4]; exact Y0 h
  by_cases h5 : p.kind = 5
  · rw [if_neg h1, if_neg h2, if_neg h3, if_neg h4, if_pos h5, if_neg h3, if_neg h4]; exact decide_eq_true (T3 h)
  by_cases h6 : p.kind = 6
  · rw [if_neg h1, if_neg h2, if_neg h3, if_neg h4, if_neg h5, if_pos h6, if_neg h3, if_neg h4]; exact decide_eq_true (A62 h)
  by_cases h7 : p.kind = 7
  · rw [if_neg h1, if_neg h2, if_neg h3, if_neg h4, if_neg h5, if_neg h6, if_pos h7, if_neg h3, if_neg h4]; exact decide_eq_true (A78 h)
  · rw [if_neg h1, if_neg h2, if_neg h3, if_neg h4, if_neg h5, if_neg h6, if_neg h7, if_neg h3, if_neg h4]; exact decide_eq_true h
theorem Sm {α:Type} [Inhabited α] (f:α→Nat):∀(l:List α) (j:Nat) (x:α),j<l.length→((l.set j x).map f).sum+f (l.getD j default)=(l.map f).sum+f x
 | [],_,_,h=>absurd h (Nat.not_lt_zero _)
 |y::r,0,x,_=>by simp;omega
 |y::r,j+1,x,h=>by
  have:=Sm f r j x (by simpa using h)
  simp only [List.set_cons_succ,List.map_cons,List.sum_cons,List.getD_cons_succ];omega
theorem Jh {c:A3}{j:Int}{w:Ab}(h:0≤j∧j<c.workers.length):(Av c j w).w+(A8 c j).w=c.w+w.w:=by
 have:=Sm Ab.w c.workers j.toNat w Ad
 simp only [Av,A3.w,wS,List.length_set,A8];omega
theorem Vu {c:A3}{k:Int}{l:Ca}(h:0≤k∧k<c.links.length):(Bi c k l).w+(Ba c k).w=c.w+l.w:=by
 have:=Sm Ca.w c.links k.toNat l Ad
 simp only [Bi,A3.w,wS,List.length_set,Ba];omega
theorem P0 {c:A3}{e:Int}{t:Fs}:(De c e t).w=c.w:=by simp only [De,A3.w,List.length_set]
theorem B0e {g:Ah}{w:Ab}:(Fi g w).1.w≤w.w+2:=by
 unfold Fi
 split
 ·rename_i h
  have h1:=B2b (g:=g) (cs:=w.cells) (r:=w.queue.getD 0 default);have h2:=A92 (g:=g) (cs:=w.cells) (r:=w.queue.getD 0 default);have h3:=h.2.2.2;have h4:(if capped g (w.queue.getD 0 default)=true then w.caps.set (w.queue.getD 0 default).stamp.epoch.toNat true else w.caps).length=w.caps.length:=by split<;>simp
  simp only [F9,Ab.w,List.length_drop,h4];omega
 simp
theorem Yh {g:Ah}{w:Ab}:(Df g w).1.w≤w.w:=by
 unfold Df
 split
 ·rename_i h
  have:=h.2.2.2.2
  simp only [I7,Ab.w,List.length_append,List.length_singleton,List.length_drop];omega
 simp
theorem B1y {w:Ab}{e:Int}:(E5 w e).w=w.w:=by
 unfold E5 Fk
 split
 ·simp only [Ab.w,List.length_set]
 rfl
theorem A12 {w:Ab}{r:Aa}:(D0 w r).w=w.w+1:=by
 unfold D0 Hw Fk kept
 split
 ·simp only [Ab.w,List.length_set,List.length_append,List.length_singleton];omega
 simp only [Ab.w,List.length_append,List.length_singleton];omega
theorem B2e {c:A3}{p:D7}:(Aq c p).1.w≤c.w+4:=by
 have work:∀w,(Dk c w).1.w≤c.w+4:=fun w=>by
  unfold Dk
  split
  ·rename_i h
   have h1:=Jh (w:=(Fi c.graph (A8 c w)).1) h.2;have h2:=B0e (g:=c.graph) (w:=A8 c w)
   simp only
   omega
  simp
 have input:∀w,(D9 c w).1.w≤c.w+4:=fun w=>by
  unfold D9
  split
  ·rename_i h
   have h1:=Jh (w:=(Df c.graph (A8 c w)).1) h.2;have h2:=Yh (g:=c.graph) (w:=A8 c w)
   simp only
   omega
  simp
 have move:∀w,(C7 c w).1.w≤c.w+4:=fun w=>by
  unfold C7
  split
  ·rename_i h
   obtain ⟨hW,hs⟩:=h;have hu:(Cd (A8 c w)).w+1=(A8 c w).w:=by simp only [Cd,Ab.w,List.length_drop];omega
   split
   ·have h1:=Jh (w:=kept (Cd (A8 c w)) (B1 c w)) hW.2
    have h2:(kept (Cd (A8 c w)) (B1 c w)).w=(Cd (A8 c w)).w+1:=by simp only [kept,Ab.w,List.length_append,List.length_singleton];omega
    simp only
    omega
   split
   ·have hb:0≤w∧w<c.graph.workers:=by have:=hW.1.1.2.1;exact ⟨hW.2.1,by have:=hW.2.2;omega⟩
    have h1:=Vu (l:=(Cf (Ba c (Ao c w (B8 c w))) (B1 c w)).1) (Ge hW.1 hb (Ox hW hs)).1;have h2:=Jh (c:=Bi c (Ao c w (B8 c w)) (Cf (Ba c (Ao c w (B8 c w))) (B1 c w)).1) (w:=E5 (Cd (A8 c w)) (B1 c w).stamp.epoch) hW.2
    have h3:(Cf (Ba c (Ao c w (B8 c w))) (B1 c w)).1.w≤(Ba c (Ao c w (B8 c w))).w+1:=by
     unfold Cf
     split
     ·simp [Ca.w]
     simp
    have h4:(A8 (Bi c (Ao c w (B8 c w)) (Cf (Ba c (Ao c w (B8 c w))) (B1 c w)).1) w).w=(A8 c w).w:=rfl;rw [B1y] at h2
    simp only
    omega
   simp
  simp
 have take:∀f t,(Ct c f t).1.w≤c.w+4:=fun f t=>by
  unfold Ct
  split
  ·rename_i h
   obtain ⟨hL,hk⟩:=h;have ht:0≤t∧t<c.workers.length:=by have:=hL.1.1.2.1;have:=hL.2.2.2;omega
   have h1:=Vu (l:=(Bc (Ba c (Ao c f t))).1) (Ge hL.1 hL.2.2.1 hL.2.2.2).1;have h2:=Jh (c:=Bi c (Ao c f t) (Bc (Ba c (Ao c f t))).1) (w:=D0 (A8 c t) (Bc (Ba c (Ao c f t))).2.1) ht
   have h3:(Bc (Ba c (Ao c f t))).1.w≤(Ba c (Ao c f t)).w:=by
    unfold Bc
    split
    ·simp [Ca.w]
    simp
   have h4:(A8 (Bi c (Ao c f t) (Bc (Ba c (Ao c f t))).1) t).w=(A8 c t).w:=rfl;rw [A12] at h2
   simp only
   omega
  simp
 have credit:∀f t,(D4 c f t).1.w≤c.w+4:=fun f t=>by
  unfold D4
  split
  ·rename_i hL
   have h1:=Vu (l:=(Ce (Ba c (Ao c f t))).1) (Ge hL.1 hL.2.2.1 hL.2.2.2).1
   have h3:(Ce (Ba c (Ao c f t))).1.w=(Ba c (Ao c f t)).w:=by
    unfold Ce
    split<;>simp [Ca.w]
   simp only
   omega
  simp
 have tok:∀e,(Ci c e).1.w≤c.w+4:=fun e=>by
  unfold Ci
  split
  ·rename_i hT
   obtain ⟨hC,he,hD,hP⟩:=hT;have hTP:Lt c.graph.workers (A9 c e):=hC.2.2.2.1 _ (At (d:=default) (show e.toNat<c.tokens.length by have:=hC.1.2.2.2;omega))
   have hn1:=hC.1.1.2.1;have hwl:=hC.1.2.1;have hat:0≤(A9 c e).at_∧(A9 c e).at_<c.workers.length:=by have:=hTP.1;omega
   have hwh:(G2 (A8 c (A9 c e).at_) e).w=(A8 c (A9 c e).at_).w:=by simp only [G2,Ab.w,List.length_set]
   simp only
   split
   ·have h1:=Jh (c:=De c e ⟨true,(c.workers.length:Int)-1,0,false,(A8 c (A9 c e).at_).caps.getD e.toNat default⟩) (w:=G2 (A8 c (A9 c e).at_) e) hat
    rw [P0,hwh] at h1;have h2:(A8 (De c e ⟨true,(c.workers.length:Int)-1,0,false,(A8 c (A9 c e).at_).caps.getD e.toNat default⟩) (A9 c e).at_).w=(A8 c (A9 c e).at_).w:=rfl
    simp only
    omega
   split
   ·split
    ·have h1:=Jh (c:=De c e ⟨(A9 c e).going,(A9 c e).at_-1,(A9 c e).sum+(A8 c (A9 c e).at_).sums.getD e.toNat default,(A9 c e).black||(A8 c (A9 c e).at_).black.getD e.toNat default,(A9 c e).capped||(A8 c (A9 c e).at_).caps.getD e.toNat default⟩) (w:=G2 (A8 c (A9 c e).at_) e) hat
     rw [P0,hwh] at h1;have h2:(A8 (De c e ⟨(A9 c e).going,(A9 c e).at_-1,(A9 c e).sum+(A8 c (A9 c e).at_).sums.getD e.toNat default,(A9 c e).black||(A8 c (A9 c e).at_).black.getD e.toNat default,(A9 c e).capped||(A8 c (A9 c e).at_).caps.getD e.toNat default⟩) (A9 c e).at_).w=(A8 c (A9 c e).at_).w:=rfl
     simp only
     omega
    simp
   rename_i hg ha
   have hA:(A9 c e).at_=0:=by have:=hTP.1;omega
   unfold Gw
   split
   ·have h1:=Jh (c:=De c e ⟨false,(A9 c e).at_,(A9 c e).sum,(A9 c e).black,(A9 c e).capped⟩) (j:=0) (w:=Ef (A8 c (A9 c e).at_) ⟨e,(A9 c e).capped||(A8 c (A9 c e).at_).caps.getD e.toNat default⟩) (by have:(De c e ⟨false,(A9 c e).at_,(A9 c e).sum,(A9 c e).black,(A9 c e).capped⟩).workers.length=c.workers.length:=rfl;omega)
    rw [P0] at h1;have h2:(A8 (De c e ⟨false,(A9 c e).at_,(A9 c e).sum,(A9 c e).black,(A9 c e).capped⟩) 0).w=(A8 c (A9 c e).at_).w:=by rw [hA];rfl
    have h3:(Ef (A8 c (A9 c e).at_) ⟨e,(A9 c e).capped||(A8 c (A9 c e).at_).caps.getD e.toNat default⟩).w=(A8 c (A9 c e).at_).w+1:=by simp only [Ef,Ab.w,List.length_append,List.length_singleton];omega
    have h4:∀(x:A3) l,(Jl x l).w=x.w+l.length:=fun x l=>by simp only [Jl,A3.w,List.length_append];omega
    rw [h4]
    have h5:(Ip e ((A9 c e).capped||(A8 c (A9 c e).at_).caps.getD e.toNat default) ((De c e ⟨false,(A9 c e).at_,(A9 c e).sum,(A9 c e).black,(A9 c e).capped⟩).workers.length-1)).length≤3:=by
     have:(De c e ⟨false,(A9 c e).at_,(A9 c e).sum,(A9 c e).black,(A9 c e).capped⟩).workers.length=c.workers.length:=rfl
     rw [this];simp only [Ip,List.length_map,List.length_range];omega
    omega
   rw [P0];omega
  simp
 have hear:∀w,(Dj c w).1.w≤c.w+4:=fun w=>by
  unfold Dj
  split
  ·rename_i hn
   obtain ⟨m1,m2⟩:=Sa hn.1 hn.2;have hN:=hn.1.2.2.2.2 _ m1;have hw:0≤w∧w<c.workers.length:=by have:=hn.1.1.2.1;have:=hN.1;omega
   have h0:(Jd c w).w≤c.w:=by
    have:=List.length_eraseIdx_le c.news (Gf c w)
    simp only [Jd,A3.w];omega
   split
   ·simp only;omega
   have h1:=Jh (c:=Jd c w) (w:=Ef (A8 c w) ⟨(Eg c w).epoch,(Eg c w).capped⟩) hw;have h2:(A8 (Jd c w) w).w=(A8 c w).w:=rfl;have h3:(Ef (A8 c w) ⟨(Eg c w).epoch,(Eg c w).capped⟩).w=(A8 c w).w+1:=by simp only [Ef,Ab.w,List.length_append,List.length_singleton];omega
   simp only
   omega
  simp
 unfold Aq
 split
 ·exact work _
 split
 ·exact input _
 split
 ·exact move _
 split
 ·exact take _ _
 split
 ·exact credit _ _
 split
 ·exact tok _
 split
 ·exact hear _
 simp
theorem A5r {c:A3}(h:B7 c):Kw c:=fun l hl=>by
 obtain ⟨i,hi,rfl⟩:=List.getElem_of_mem hl
 have:=(h.2.2.1 i hi).1.1
 have e:c.links.getD i default=c.links[i]:=by simp [List.getD,hi]
 rw [e] at this;simp only [Xl] at this;omega
end Go.Proofs.YtdendlkeiaccpaaGreat
