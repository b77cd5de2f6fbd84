/- Part 29 of the proof that each of the laws FnStalls returns true for every input. No conditions. -/
import Derived.Test.YtonodkjaoalfjaaGreatP27
import Derived.Test.YtonodkjaoalfjaaGreatP28
import Derived.Test.YtonodkjaoalfjaaGreatP24
import Derived.Test.YtonodkjaoalfjaaGreatP12
import Derived.Test.YtonodkjaoalfjaaGreatP25
import Derived.Test.YtonodkjaoalfjaaGreatP15
import Derived.Test.YtonodkjaoalfjaaGreatP19
import Derived.Test.YtonodkjaoalfjaaGreatP11

set_option linter.unusedSimpArgs false
set_option linter.unusedVariables false
set_option maxRecDepth 100000
namespace Go.Proofs.YtonodkjaoalfjaaGreat
open Go.Sx
theorem C16 (c:A3)(e:Int):(Bo c e).1.graph=c.graph:=by
 unfold Bo
 dsimp only
 repeat' split
 all_goals first
  |rfl
  |(unfold Gn;split<;>rfl)
theorem C3y (c:A3)(p:Bl):(Ag c p).1.graph=c.graph:=by
 unfold Ag
 split
 ·unfold Cr;split<;>rfl
 split
 ·unfold Cg;split<;>rfl
 split
 ·unfold C6;repeat' split
  all_goals rfl
 split
 ·unfold Cd;split<;>rfl
 split
 ·unfold Br;split<;>rfl
 split
 ·exact C16 c p.a
 split
 ·unfold D4;repeat' split
  all_goals rfl
 ·rfl
theorem C3g (l:List Bl):∀s:A3×List Bool,(l.foldl Cl s).1.graph=s.1.graph:=by
 induction l with
 |nil=>intro s;rfl
 |cons p r ih=>intro s;exact (ih (Cl s p)).trans (C3y s.1 p)
theorem C1k (c:A3)(l:List Bl):(Bh c l).1.graph=c.graph:=C3g l (c,[])
theorem C2v (c:A3)(k:Nat):(frN c k).graph=c.graph:=by
 induction k with
 |zero=>rfl
 |succ k ih=>exact (C1k (frN c k) _).trans ih
theorem C4x {c d:A3}(h:d.graph=c.graph):Co d=Co c:=by
 unfold Co
 rw [h]
def cnt (c:A3) (l:List Bl):Nat:=((Bh c l).2.filter id).length
theorem C1z {c:A3}{p:Bl}(h3:p.kind≠3)(h4:p.kind≠4):Fp (Ag c p).1=Fp c:=by
 by_cases hc:Ap c
 ·rw [A5g hc,if_neg h3,if_neg h4]
  exact (decide_eq_true hc).symm
 ·rw [Zh hc]
set_option maxHeartbeats 4000000 in
theorem C3k (x:A3)(p:Bl)(h:x.w≤8000000)(og:K9 .i64 x.graph.workers):Iv Tryz.prog (fun _=>True) 178 [] (rc x) [.agg p.c] (fun _:Unit=>True) (fun _=>rc (Ag x p).1) (fun _=>[.one (vb (Ag x p).2)]):=by
 refine Ol A0 false Tryz.func178 rfl Bu fun B b hH hp=>?_
 conv=>whnf
 refine ⟨fun k1=>have k1:=eq_of_beq k1;?_,fun k1=>have k1:=beq_eq_false_iff_ne.1 k1;?_⟩<;>conv=>whnf
 ·have hfl:=C1z (c:=x) (p:=p) Ac Ac
  refine Fg (C44 x p.a Ac) hH hp rfl Ca rfl rfl (fun r hr=>go A0 false ?_)
  conv=>whnf
  have hz:rc (Ag x p).1=rcb (Cr x p.a).1 (Fp x):=by
   have e:Ag x p=Cr x p.a:=by unfold Ag;rw [if_pos k1]
   show rcb (Ag x p).1 (Fp (Ag x p).1)=_
   rw [hfl,e]
  have hv:(Ag x p).2=(Cr x p.a).2:=by unfold Ag;rw [if_pos k1]
  rw [hz,hv]
  exact Kk A0 () trivial rfl rfl rfl rfl Ca
 refine ⟨fun k2=>have k2:=eq_of_beq k2;?_,fun k2=>have k2:=beq_eq_false_iff_ne.1 k2;?_⟩<;>conv=>whnf
 ·have hfl:=C1z (c:=x) (p:=p) Ac Ac
  refine Fg (C4i x p.a Ac) hH hp rfl Ca rfl rfl (fun r hr=>go A0 false ?_)
  conv=>whnf
  have hz:rc (Ag x p).1=rcb (Cg x p.a).1 (Fp x):=by
   have e:Ag x p=Cg x p.a:=by unfold Ag;rw [if_neg k1,if_pos k2]
   show rcb (Ag x p).1 (Fp (Ag x p).1)=_
   rw [hfl,e]
  have hv:(Ag x p).2=(Cg x p.a).2:=by unfold Ag;rw [if_neg k1,if_pos k2]
  rw [hz,hv]
  exact Kk A0 () trivial rfl rfl rfl rfl Ca
 refine ⟨fun k3=>have k3:=eq_of_beq k3;?_,fun k3=>have k3:=beq_eq_false_iff_ne.1 k3;?_⟩<;>conv=>whnf
 ·refine Fg (C3j x p.a h og) hH hp rfl Ca rfl rfl (fun r hr=>go A0 false ?_)
  conv=>whnf
  have e:Ag x p=C6 x p.a:=by unfold Ag;rw [if_neg k1,if_neg k2,if_pos k3]
  rw [e]
  exact Kk A0 () trivial rfl rfl rfl rfl Ca
 refine ⟨fun k4=>have k4:=eq_of_beq k4;?_,fun k4=>have k4:=beq_eq_false_iff_ne.1 k4;?_⟩<;>conv=>whnf
 ·refine Fg (C43 x p.a p.b h og) hH hp rfl Ca rfl rfl (fun r hr=>go A0 false ?_)
  conv=>whnf
  have e:Ag x p=Cd x p.a p.b:=by unfold Ag;rw [if_neg k1,if_neg k2,if_neg k3,if_pos k4]
  rw [e]
  exact Kk A0 () trivial rfl rfl rfl rfl Ca
 have hfl:=C1z (c:=x) (p:=p) k3 k4
 refine ⟨fun k5=>have k5:=eq_of_beq k5;?_,fun k5=>have k5:=beq_eq_false_iff_ne.1 k5;?_⟩<;>conv=>whnf
 ·refine Fg (C3t x p.a p.b Ac og) hH hp rfl Ca rfl rfl (fun r hr=>go A0 false ?_)
  conv=>whnf
  have hz:rc (Ag x p).1=rcb (Br x p.a p.b).1 (Fp x):=by
   have e:Ag x p=Br x p.a p.b:=by unfold Ag;rw [if_neg k1,if_neg k2,if_neg k3,if_neg k4,if_pos k5]
   show rcb (Ag x p).1 (Fp (Ag x p).1)=_
   rw [hfl,e]
  have hv:(Ag x p).2=(Br x p.a p.b).2:=by unfold Ag;rw [if_neg k1,if_neg k2,if_neg k3,if_neg k4,if_pos k5]
  rw [hz,hv]
  exact Kk A0 () trivial rfl rfl rfl rfl Ca
 refine ⟨fun k6=>have k6:=eq_of_beq k6;?_,fun k6=>have k6:=beq_eq_false_iff_ne.1 k6;?_⟩<;>conv=>whnf
 ·refine Fg (C4k x p.a Ac) hH hp rfl Ca rfl rfl (fun r hr=>go A0 false ?_)
  conv=>whnf
  have hz:rc (Ag x p).1=rcb (Bo x p.a).1 (Fp x):=by
   have e:Ag x p=Bo x p.a:=by unfold Ag;rw [if_neg k1,if_neg k2,if_neg k3,if_neg k4,if_neg k5,if_pos k6]
   show rcb (Ag x p).1 (Fp (Ag x p).1)=_
   rw [hfl,e]
  have hv:(Ag x p).2=(Bo x p.a).2:=by unfold Ag;rw [if_neg k1,if_neg k2,if_neg k3,if_neg k4,if_neg k5,if_pos k6]
  rw [hz,hv]
  exact Kk A0 () trivial rfl rfl rfl rfl Ca
 refine ⟨fun k7=>have k7:=eq_of_beq k7;?_,fun k7=>have k7:=beq_eq_false_iff_ne.1 k7;?_⟩<;>conv=>whnf
 ·refine Fg (C40 x p.a Ac) hH hp rfl Ca rfl rfl (fun r hr=>go A0 false ?_)
  conv=>whnf
  have hz:rc (Ag x p).1=rcb (D4 x p.a).1 (Fp x):=by
   have e:Ag x p=D4 x p.a:=by unfold Ag;rw [if_neg k1,if_neg k2,if_neg k3,if_neg k4,if_neg k5,if_neg k6,if_pos k7]
   show rcb (Ag x p).1 (Fp (Ag x p).1)=_
   rw [hfl,e]
  have hv:(Ag x p).2=(D4 x p.a).2:=by unfold Ag;rw [if_neg k1,if_neg k2,if_neg k3,if_neg k4,if_neg k5,if_neg k6,if_pos k7]
  rw [hz,hv]
  exact Kk A0 () trivial rfl rfl rfl rfl Ca
 ·have e:Ag x p=(x,false):=by unfold Ag;rw [if_neg k1,if_neg k2,if_neg k3,if_neg k4,if_neg k5,if_neg k6,if_neg k7]
  rw [e]
  exact Kk A0 () trivial rfl rfl rfl rfl Ca
set_option maxHeartbeats 4000000 in
theorem C1s (x:A3)(l:List Bl)(h:x.w+4 * l.length≤8000000)(og:K9 .i64 x.graph.workers):B0 Tryz.prog 153 [.agg x.c,.one (Fu l)] [.agg (Bh x l).1.c,.one (Gm (Bh x l).2)]:=by
 refine Ay A0 false Tryz.func153 rfl Bu fun W=>?_
 conv=>whnf
 have hp:Kt ⟨W,fun _=>False⟩ []:=fun _ h=>by cases h
 have hH:∀w,Au.rel ⟨W,fun _=>False⟩ w→True:=fun _ _=>trivial
 refine B9a (C1y x Ac) hp rfl (fun r hr=>go A0 false ?_)
 conv=>whnf
 refine G4 8 (Gm []) rfl F8 ?_
 refine Bw A0 false [11] (fun k:Nat=>[(8,.c (vi k))]) (fun k=>[⟨2,[.own 3,.c (vi (Bh x (l.take k)).1.graph.workers),.c (vi (Bh x (l.take k)).1.graph.cap),.own 4,.own 5,.own 6,.own 7,.c (vb (Fp (Bh x (l.take k)).1))]⟩,⟨1,[.c (.val (.slice none 0 0)),.c (vi 0),.c (vi 0),.c (.val (.slice none 0 0)),.c (.val (.slice none 0 0)),.c (.val (.slice none 0 0)),.c (.val (.slice none 0 0))]⟩]) (fun k=>[⟨8,Gm (Bh x (l.take k)).2⟩,⟨3,Bp (Bh x (l.take k)).1.graph.nodes⟩,⟨4,Be (Bh x (l.take k)).1.workers⟩,⟨5,Dt (Bh x (l.take k)).1.links⟩,⟨6,C0 (Bh x (l.take k)).1.tokens⟩,⟨7,Ef (Bh x (l.take k)).1.news⟩])
  (fun k=>k≤l.length) (fun k=>l.length-k) 0 (Nat.zero_le _) ⟨by first|rfl|simp [Dl,ren2,ren1,ren0],trivial⟩ F3 ⟨by first|rfl|exact (congrArg (fun l=>Du _ _ l) (List.append_nil _)).symm|(show (_:A8)=_;simp)|simp,by first|rfl|exact (congrArg (fun l=>Du _ _ l) (List.append_nil _)).symm|(show (_:A8)=_;simp)|simp,by first|rfl|exact (congrArg (fun l=>Du _ _ l) (List.append_nil _)).symm|(show (_:A8)=_;simp)|simp,by first|rfl|exact (congrArg (fun l=>Du _ _ l) (List.append_nil _)).symm|(show (_:A8)=_;simp)|simp,by first|rfl|exact (congrArg (fun l=>Du _ _ l) (List.append_nil _)).symm|(show (_:A8)=_;simp)|simp,by first|rfl|exact (congrArg (fun l=>Du _ _ l) (List.append_nil _)).symm|(show (_:A8)=_;simp)|simp,trivial⟩ Dh Aa (fun k hk=>?_)
 conv=>whnf
 conv=>whnf
 refine G5 (fun hlt=>?_) fun hlt=>?_<;>conv=>whnf
 ·have hlt:k<l.length:=by omega
  have hw:=B47 (c:=x) (l:=l.take k)
  have hn:=A42 (c:=x) (l:=l.take k)
  have ht:(l.take k).length=k:=by rw [List.length_take];omega
  have hs:=B1e (c:=x) hlt
  (repeat refine Ar ?_)
  refine Fg (C3k (Bh x (l.take k)).1 (l.getD k default) Ac (by rw [C1k];exact og)) hH hp rfl Ca rfl rfl (fun r2 hr2=>go A0 false ?_)
  conv=>whnf
  refine Dp A0 rfl rfl rfl rfl rfl rfl rfl rfl rfl rfl rfl (Gm ((Bh x (l.take k)).2++[(Ag (Bh x (l.take k)).1 (l.getD k default)).2])) (Bf rfl) M1 Ac (Al ?_)
  (repeat refine Ar ?_)
  refine B5 [(3,9),(4,10),(5,11),(6,12),(7,13),(8,15)] (k+1) Ac Ac ⟨rfl,trivial⟩ ⟨congrArg Gm (by rw [hs];rfl),congrArg (fun s:A3×List Bool=>Bp s.1.graph.nodes) hs.symm,congrArg (fun s:A3×List Bool=>Be s.1.workers) hs.symm,congrArg (fun s:A3×List Bool=>Dt s.1.links) hs.symm,congrArg (fun s:A3×List Bool=>C0 s.1.tokens) hs.symm,congrArg (fun s:A3×List Bool=>Ef s.1.news) hs.symm,trivial⟩ (by rw [hs];repeat' (first|exact trivial|exact rfl|refine ⟨?_,?_⟩)) Aa Dh Aa
 ·obtain rfl:k=l.length:=by omega
  rw [List.take_length]
  repeat refine Bi ?_
  refine Ao A0 rfl rfl ?_
  exact Ca
set_option maxHeartbeats 4000000 in
theorem C4j (x:A3)(l:List Bl)(h:x.w+4 * l.length≤8000000)(og:K9 .i64 x.graph.workers):Iv Tryz.prog (fun _=>True) 180 [] (rc x) [.one (Fu l)] (fun _:Unit=>True) (fun _=>rc (Bh x l).1) (fun _=>[.one (vi (cnt x l))]):=by
 refine Ol A0 false Tryz.func180 rfl Bu fun B b hH hp=>?_
 conv=>whnf
 refine Bw A0 false [] (fun k:Nat=>[(6,.c (vi k)),(5,.c (vi (cnt x (l.take k))))]) (fun k=>[⟨0,[.own 1,.c (vi (Bh x (l.take k)).1.graph.workers),.c (vi (Bh x (l.take k)).1.graph.cap),.own 2,.own 3,.own 4,.own 5,.c (vb (Fp (Bh x (l.take k)).1))]⟩]) (fun k=>[⟨1,Bp (Bh x (l.take k)).1.graph.nodes⟩,⟨2,Be (Bh x (l.take k)).1.workers⟩,⟨3,Dt (Bh x (l.take k)).1.links⟩,⟨4,C0 (Bh x (l.take k)).1.tokens⟩,⟨5,Ef (Bh x (l.take k)).1.news⟩])
  (fun k=>k≤l.length) (fun k=>l.length-k) 0 (Nat.zero_le _) ⟨by first|rfl|simp [Dl,ren2,ren1,ren0],by first|rfl|simp [Dl,ren2,ren1,ren0],trivial⟩ F3 ⟨by first|rfl|exact (congrArg (fun l=>Du _ _ l) (List.append_nil _)).symm|(show (_:A8)=_;simp)|simp,by first|rfl|exact (congrArg (fun l=>Du _ _ l) (List.append_nil _)).symm|(show (_:A8)=_;simp)|simp,by first|rfl|exact (congrArg (fun l=>Du _ _ l) (List.append_nil _)).symm|(show (_:A8)=_;simp)|simp,by first|rfl|exact (congrArg (fun l=>Du _ _ l) (List.append_nil _)).symm|(show (_:A8)=_;simp)|simp,by first|rfl|exact (congrArg (fun l=>Du _ _ l) (List.append_nil _)).symm|(show (_:A8)=_;simp)|simp,trivial⟩ Dh Aa (fun k hk=>?_)
 conv=>whnf
 conv=>whnf
 refine G5 (fun hlt=>?_) fun hlt=>?_<;>conv=>whnf
 ·have hlt:k<l.length:=by omega
  have hw:=B47 (c:=x) (l:=l.take k)
  have hn:=A42 (c:=x) (l:=l.take k)
  have ht:(l.take k).length=k:=by rw [List.length_take];omega
  have hs:=B1e (c:=x) hlt
  have hcn:cnt x (l.take (k+1))=cnt x (l.take k)+if (Ag (Bh x (l.take k)).1 (l.getD k default)).2=true then 1 else 0:=by
   unfold cnt
   rw [hs]
   show ((((Bh x (l.take k)).2++[(Ag (Bh x (l.take k)).1 (l.getD k default)).2]).filter id)).length=_
   rw [List.filter_append,List.length_append]
   cases (Ag (Bh x (l.take k)).1 (l.getD k default)).2<;>rfl
  have hcl:cnt x (l.take k)≤k:=by
   unfold cnt
   exact Nat.le_trans (List.length_filter_le _ _) Ac
  (repeat refine Ar ?_)
  refine Fg (C3k (Bh x (l.take k)).1 (l.getD k default) Ac (by rw [C1k];exact og)) hH hp rfl Ca rfl rfl (fun r2 hr2=>go A0 false ?_)
  conv=>whnf
  refine ⟨fun hb=>?_,fun hb=>?_⟩<;>conv=>whnf
  ·rw [if_pos hb] at hcn
   (repeat refine Ar ?_)
   refine B5 [(1,6),(2,7),(3,8),(4,9),(5,10)] (k+1) Ac Ac ⟨rfl,congrArg (fun n:Nat=>AV.c (vi (n:Int))) hcn.symm,trivial⟩ ⟨congrArg (fun s:A3×List Bool=>Bp s.1.graph.nodes) hs.symm,congrArg (fun s:A3×List Bool=>Be s.1.workers) hs.symm,congrArg (fun s:A3×List Bool=>Dt s.1.links) hs.symm,congrArg (fun s:A3×List Bool=>C0 s.1.tokens) hs.symm,congrArg (fun s:A3×List Bool=>Ef s.1.news) hs.symm,trivial⟩ (by rw [hs];repeat' (first|exact trivial|exact rfl|refine ⟨?_,?_⟩)) Aa Dh Aa
  ·rw [if_neg (by rw [hb];decide)] at hcn
   (repeat refine Ar ?_)
   refine B5 [(1,6),(2,7),(3,8),(4,9),(5,10)] (k+1) Ac Ac ⟨rfl,congrArg (fun n:Nat=>AV.c (vi (n:Int))) hcn.symm,trivial⟩ ⟨congrArg (fun s:A3×List Bool=>Bp s.1.graph.nodes) hs.symm,congrArg (fun s:A3×List Bool=>Be s.1.workers) hs.symm,congrArg (fun s:A3×List Bool=>Dt s.1.links) hs.symm,congrArg (fun s:A3×List Bool=>C0 s.1.tokens) hs.symm,congrArg (fun s:A3×List Bool=>Ef s.1.news) hs.symm,trivial⟩ (by rw [hs];repeat' (first|exact trivial|exact rfl|refine ⟨?_,?_⟩)) Aa Dh Aa
 ·obtain rfl:k=l.length:=by omega
  rw [List.take_length]
  repeat refine Bi ?_
  exact Kk A0 () trivial rfl rfl rfl rfl Ca
theorem A99 (n:Nat):∀c:A3,(Di n c).1.w≤c.w+176 * n:=by
 induction n with
 |zero=>intro c;exact Nat.le_refl _
 |succ n ih=>
  intro c
  have h1:=A89 (c:=c)
  rw [Di]
  split
  ·show (Ba c).1.w≤_
   omega
  ·have h2:=ih (Ba c).1
   show (Di n (Ba c).1).1.w≤_
   omega
theorem A5p (xs:List A5):(Mr xs).w=xs.length+12:=by simp [Ab.w,Mr]
theorem B6x {n:Int}{l:List A5}{k:Nat}(hl:l.length≤20):((E8 n l k).map Ab.w).sum≤k * 92:=by
 induction k with
 |zero=>simp [E8]
 |succ k ih=>
  rw [Zb,List.map_append,List.sum_append]
  have h1:=Wx n l k 4
  simp only [List.map_cons,List.map_nil,List.sum_cons,List.sum_nil,A5p]
  omega
theorem B8k (m:Nat)(n:Int):((List.replicate m (Gv n)).map C2.w).sum=0:=by
 induction m with
 |zero=>rfl
 |succ m ih=>
  rw [List.replicate_succ,List.map_cons,List.sum_cons,ih]
  rfl
theorem B9r {g:Ad}{l:List A5}:(Ah g l).1.w≤g.w+2000:=by
 by_cases h:K6 g l
 ·have hw:=h.1.2.1
  obtain ⟨n,hn⟩:∃n:Nat,g.workers=n:=⟨g.workers.toNat,by omega⟩
  have h1:=B6x (n:=g.workers) (l:=l) (k:=g.workers.toNat) h.2.1
  have h2:=B8k (g.workers.toNat * g.workers.toNat) g.cap
  have h3:=A35 g.workers l g.workers.toNat
  have h4:g.workers.toNat * g.workers.toNat≤16:=Nat.mul_le_mul (show g.workers.toNat≤4 by omega) (show g.workers.toNat≤4 by omega)
  rw [Ul h]
  simp only [A3.w,wS,List.length_replicate,List.length_nil]
  rw [h2,h3]
  have h5:g.workers.toNat≤4:=by omega
  omega
 ·rw [R3 h]
  show Pw.w≤_
  have:Pw.w=0:=rfl
  omega
set_option maxHeartbeats 4000000 in
theorem C11 (x:A3)(most:Int)(h:x.w≤6000000)(og:K9 .i64 x.graph.workers):B0 Tryz.prog 154 [.agg x.c,.one (vi most)] [.agg (Di (En most 0 3000).toNat x).1.c,.one (vi (Di (En most 0 3000).toNat x).2)]:=by
 have hb:=Jq most 0 3000 Bu
 have hal:=H0 x
 obtain ⟨n,hn⟩:∃n:Nat,En most 0 3000=n:=⟨(En most 0 3000).toNat,by omega⟩
 rw [hn,Int.toNat_natCast]
 refine Ay A0 false Tryz.func154 rfl Bu fun W=>?_
 conv=>whnf
 have hp:Kt ⟨W,fun _=>False⟩ []:=fun _ h=>by cases h
 have hH:∀w,Au.rel ⟨W,fun _=>False⟩ w→True:=fun _ _=>trivial
 refine B9a (C1y x Ac) hp rfl (fun r hr=>go A0 false ?_)
 conv=>whnf
 refine B4 (C23 x) rfl (Al ?_)
 refine Aw (A46 most 0 3000) rfl (Al ?_)
 rw [hn]
 refine Bw A0 false [] (fun k:Nat=>[(8,.c (vi (k+1)))]) (fun k=>[⟨2,[.own 3,.c (vi (frN x k).graph.workers),.c (vi (frN x k).graph.cap),.own 4,.own 5,.own 6,.own 7,.c (vb (Fp (frN x k)))]⟩,⟨1,[.c (.val (.slice none 0 0)),.c (vi 0),.c (vi 0),.c (.val (.slice none 0 0)),.c (.val (.slice none 0 0)),.c (.val (.slice none 0 0)),.c (.val (.slice none 0 0))]⟩]) (fun k=>[⟨8,Fu (Gz (Co x))⟩,⟨3,Bp (frN x k).graph.nodes⟩,⟨4,Be (frN x k).workers⟩,⟨5,Dt (frN x k).links⟩,⟨6,C0 (frN x k).tokens⟩,⟨7,Ef (frN x k).news⟩])
  (fun k=>k≤n∧∀i,i<k→(Ba (frN x i)).2≠0) (fun k=>n-k) 0 ⟨Nat.zero_le _,by first|rfl|assumption|simp⟩ ⟨by first|rfl|simp [Dl,ren2,ren1,ren0],trivial⟩ F3 ⟨by first|rfl|exact (congrArg (fun l=>Du _ _ l) (List.append_nil _)).symm|(show (_:A8)=_;simp)|simp,by first|rfl|exact (congrArg (fun l=>Du _ _ l) (List.append_nil _)).symm|(show (_:A8)=_;simp)|simp,by first|rfl|exact (congrArg (fun l=>Du _ _ l) (List.append_nil _)).symm|(show (_:A8)=_;simp)|simp,by first|rfl|exact (congrArg (fun l=>Du _ _ l) (List.append_nil _)).symm|(show (_:A8)=_;simp)|simp,by first|rfl|exact (congrArg (fun l=>Du _ _ l) (List.append_nil _)).symm|(show (_:A8)=_;simp)|simp,by first|rfl|exact (congrArg (fun l=>Du _ _ l) (List.append_nil _)).symm|(show (_:A8)=_;simp)|simp,trivial⟩ Dh Aa (fun k hk=>?_)
 obtain ⟨hk,he⟩:=hk
 conv=>whnf
 conv=>whnf
 refine ⟨fun hlt=>?_,fun hlt=>?_⟩<;>conv=>whnf
 ·have hlt:k<n:=by have:=of_decide_eq_true hlt;omega
  have hw:=B9g x k
  have hP:Co (frN x k)=Co x:=C4x (C2v x k)
  have hF1:(Bh (frN x k) (Gz (Co x))).1=frN x (k+1):=by
   show _=(Ba (frN x k)).1
   unfold Ba
   rw [hP]
  have hF2:cnt (frN x k) (Gz (Co x))=(Ba (frN x k)).2:=by
   unfold Ba cnt
   rw [hP]
  refine Fg (C4j (frN x k) (Gz (Co x)) Ac (by rw [C2v];exact og)) hH hp rfl Ca rfl rfl (fun r2 hr2=>go A0 false ?_)
  conv=>whnf
  rw [hF1,hF2]
  refine ⟨fun h0=>have h0:=eq_of_beq h0;?_,fun h0=>have h0:=beq_eq_false_iff_ne.1 h0;?_⟩<;>conv=>whnf
  ·have h0:(Ba (frN x k)).2=0:=by omega
   repeat refine Bi ?_
   rw [N7 hlt he h0]
   refine Ao A0 rfl rfl ?_
   exact Ca
  ·have h0:(Ba (frN x k)).2≠0:=by omega
   (repeat refine Ar ?_)
   refine B5 [(3,9),(4,10),(5,11),(6,12),(7,13)] (k+1) ⟨by omega,fun i hi=>(Nat.lt_succ_iff_lt_or_eq.1 hi).elim (fun h4=>he i h4) (fun h4=>by subst h4;exact h0)⟩ Ac ⟨rfl,trivial⟩ ⟨rfl,rfl,rfl,rfl,rfl,rfl,trivial⟩ F3 Aa Dh Aa
 ·have hlt:¬ k<n:=by have:=of_decide_eq_false hlt;omega
  obtain rfl:k=n:=by omega
  repeat refine Bi ?_
  rw [Rq he]
  refine Ao A0 rfl rfl ?_
  exact Ca
end Go.Proofs.YtonodkjaoalfjaaGreat
