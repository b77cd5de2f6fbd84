/- Part 34 of the proof that each of the laws FnTight returns true for every input. No conditions. -/
import Derived.Test.YtonodkjaoalfjaaP32
import Derived.Test.YtonodkjaoalfjaaP33
import Derived.Test.YtonodkjaoalfjaaP16
import Derived.Test.YtonodkjaoalfjaaP24
import Derived.Test.YtonodkjaoalfjaaP28
import Derived.Test.YtonodkjaoalfjaaP12
import Derived.Test.YtonodkjaoalfjaaP26
import Derived.Test.YtonodkjaoalfjaaP11
import Derived.Test.YtonodkjaoalfjaaP19

set_option linter.unusedSimpArgs false
set_option linter.unusedVariables false
set_option maxRecDepth 100000
namespace Go.Proofs.Ytonodkjaoalfjaa
open Go.Sx
theorem Pb (c:A3)(e:Int):(C2 c e).1.graph=c.graph:=by
 unfold C2
 dsimp only
 repeat' split
 all_goals first
  |rfl
  |(unfold H2;split<;>rfl)
theorem Xm (c:A3)(p:Bl):(Ao c p).1.graph=c.graph:=by
 unfold Ao
 split
 ·unfold Df;split<;>rfl
 split
 ·unfold Ct;split<;>rfl
 split
 ·unfold Br;repeat' split
  all_goals rfl
 split
 ·unfold Ck;split<;>rfl
 split
 ·unfold Cq;split<;>rfl
 split
 ·exact Pb c p.a
 split
 ·unfold D9;repeat' split
  all_goals rfl
 ·rfl
theorem Vu (l:List Bl):∀s:A3×List Bool,(l.foldl F2 s).1.graph=s.1.graph:=by
 induction l with
 |nil=>intro s;rfl
 |cons p r ih=>intro s;exact (ih (F2 s p)).trans (Xm s.1 p)
theorem X8 (c:A3)(l:List Bl):(Ce c l).1.graph=c.graph:=Vu l (c,[])
theorem B1j (c:A3)(k:Nat):(frN c k).graph=c.graph:=by
 induction k with
 |zero=>rfl
 |succ k ih=>exact (X8 (frN c k) _).trans ih
theorem B4u {c d:A3}(h:d.graph=c.graph):Ou d=Ou c:=by
 unfold Ou
 rw [h]
def cnt (c:A3) (l:List Bl):Nat:=((Ce c l).2.filter id).length
theorem Oa {c:A3}{p:Bl}(h3:p.kind≠3)(h4:p.kind≠4):Aq (Ao c p).1=Aq c:=by
 by_cases hc:Ar c
 ·rw [W2 hc,if_neg h3,if_neg h4]
  exact (decide_eq_true hc).symm
 ·rw [Sz hc]
set_option maxHeartbeats 4000000 in
theorem A3v (x:A3)(p:Bl)(h:x.w≤8000000)(og:Gs .i64 x.graph.workers):Dq Try.prog (fun _=>True) 34 [] (rc x) [.agg p.c] (fun _:Unit=>True) (fun _=>rc (Ao x p).1) (fun _=>[.one (vb (Ao x p).2)]):=by
 refine Ex A0 false Try.func34 rfl Cb fun B b hH hp=>?_
 conv=>whnf
 refine ⟨fun k1=>have k1:=eq_of_beq k1;?_,fun k1=>have k1:=beq_eq_false_iff_ne.1 k1;?_⟩<;>conv=>whnf
 ·have hfl:=Oa (c:=x) (p:=p) Ag Ag
  refine Cm (A3x x p.a Ag) hH hp rfl C1 rfl rfl (fun r hr=>go A0 false ?_)
  conv=>whnf
  have hz:rc (Ao x p).1=O4 (Df x p.a).1 (Aq x):=by
   have e:Ao x p=Df x p.a:=by unfold Ao;rw [if_pos k1]
   show O4 (Ao x p).1 (Aq (Ao x p).1)=_
   rw [hfl,e]
  have hv:(Ao x p).2=(Df x p.a).2:=by unfold Ao;rw [if_pos k1]
  rw [hz,hv]
  exact C9 A0 () trivial rfl rfl rfl rfl C1
 refine ⟨fun k2=>have k2:=eq_of_beq k2;?_,fun k2=>have k2:=beq_eq_false_iff_ne.1 k2;?_⟩<;>conv=>whnf
 ·have hfl:=Oa (c:=x) (p:=p) Ag Ag
  refine Cm (A01 x p.a Ag) hH hp rfl C1 rfl rfl (fun r hr=>go A0 false ?_)
  conv=>whnf
  have hz:rc (Ao x p).1=O4 (Ct x p.a).1 (Aq x):=by
   have e:Ao x p=Ct x p.a:=by unfold Ao;rw [if_neg k1,if_pos k2]
   show O4 (Ao x p).1 (Aq (Ao x p).1)=_
   rw [hfl,e]
  have hv:(Ao x p).2=(Ct x p.a).2:=by unfold Ao;rw [if_neg k1,if_pos k2]
  rw [hz,hv]
  exact C9 A0 () trivial rfl rfl rfl rfl C1
 refine ⟨fun k3=>have k3:=eq_of_beq k3;?_,fun k3=>have k3:=beq_eq_false_iff_ne.1 k3;?_⟩<;>conv=>whnf
 ·refine Cm (A3u x p.a h og) hH hp rfl C1 rfl rfl (fun r hr=>go A0 false ?_)
  conv=>whnf
  have e:Ao x p=Br x p.a:=by unfold Ao;rw [if_neg k1,if_neg k2,if_pos k3]
  rw [e]
  exact C9 A0 () trivial rfl rfl rfl rfl C1
 refine ⟨fun k4=>have k4:=eq_of_beq k4;?_,fun k4=>have k4:=beq_eq_false_iff_ne.1 k4;?_⟩<;>conv=>whnf
 ·refine Cm (A3w x p.a p.b h og) hH hp rfl C1 rfl rfl (fun r hr=>go A0 false ?_)
  conv=>whnf
  have e:Ao x p=Ck x p.a p.b:=by unfold Ao;rw [if_neg k1,if_neg k2,if_neg k3,if_pos k4]
  rw [e]
  exact C9 A0 () trivial rfl rfl rfl rfl C1
 have hfl:=Oa (c:=x) (p:=p) k3 k4
 refine ⟨fun k5=>have k5:=eq_of_beq k5;?_,fun k5=>have k5:=beq_eq_false_iff_ne.1 k5;?_⟩<;>conv=>whnf
 ·refine Cm (Xd x p.a p.b Ag og) hH hp rfl C1 rfl rfl (fun r hr=>go A0 false ?_)
  conv=>whnf
  have hz:rc (Ao x p).1=O4 (Cq x p.a p.b).1 (Aq x):=by
   have e:Ao x p=Cq x p.a p.b:=by unfold Ao;rw [if_neg k1,if_neg k2,if_neg k3,if_neg k4,if_pos k5]
   show O4 (Ao x p).1 (Aq (Ao x p).1)=_
   rw [hfl,e]
  have hv:(Ao x p).2=(Cq x p.a p.b).2:=by unfold Ao;rw [if_neg k1,if_neg k2,if_neg k3,if_neg k4,if_pos k5]
  rw [hz,hv]
  exact C9 A0 () trivial rfl rfl rfl rfl C1
 refine ⟨fun k6=>have k6:=eq_of_beq k6;?_,fun k6=>have k6:=beq_eq_false_iff_ne.1 k6;?_⟩<;>conv=>whnf
 ·refine Cm (A04 x p.a Ag) hH hp rfl C1 rfl rfl (fun r hr=>go A0 false ?_)
  conv=>whnf
  have hz:rc (Ao x p).1=O4 (C2 x p.a).1 (Aq x):=by
   have e:Ao x p=C2 x p.a:=by unfold Ao;rw [if_neg k1,if_neg k2,if_neg k3,if_neg k4,if_neg k5,if_pos k6]
   show O4 (Ao x p).1 (Aq (Ao x p).1)=_
   rw [hfl,e]
  have hv:(Ao x p).2=(C2 x p.a).2:=by unfold Ao;rw [if_neg k1,if_neg k2,if_neg k3,if_neg k4,if_neg k5,if_pos k6]
  rw [hz,hv]
  exact C9 A0 () trivial rfl rfl rfl rfl C1
 refine ⟨fun k7=>have k7:=eq_of_beq k7;?_,fun k7=>have k7:=beq_eq_false_iff_ne.1 k7;?_⟩<;>conv=>whnf
 ·refine Cm (A3s x p.a Ag) hH hp rfl C1 rfl rfl (fun r hr=>go A0 false ?_)
  conv=>whnf
  have hz:rc (Ao x p).1=O4 (D9 x p.a).1 (Aq x):=by
   have e:Ao x p=D9 x p.a:=by unfold Ao;rw [if_neg k1,if_neg k2,if_neg k3,if_neg k4,if_neg k5,if_neg k6,if_pos k7]
   show O4 (Ao x p).1 (Aq (Ao x p).1)=_
   rw [hfl,e]
  have hv:(Ao x p).2=(D9 x p.a).2:=by unfold Ao;rw [if_neg k1,if_neg k2,if_neg k3,if_neg k4,if_neg k5,if_neg k6,if_pos k7]
  rw [hz,hv]
  exact C9 A0 () trivial rfl rfl rfl rfl C1
 ·have e:Ao x p=(x,false):=by unfold Ao;rw [if_neg k1,if_neg k2,if_neg k3,if_neg k4,if_neg k5,if_neg k6,if_neg k7]
  rw [e]
  exact C9 A0 () trivial rfl rfl rfl rfl C1
set_option maxHeartbeats 4000000 in
theorem Uc (x:A3)(l:List Bl)(h:x.w+4 * l.length≤8000000)(og:Gs .i64 x.graph.workers):Bp Try.prog 10 [.agg x.c,.one (C4 l)] [.agg (Ce x l).1.c,.one (Ei (Ce x l).2)]:=by
 refine Bm A0 false Try.func10 rfl Cb fun W=>?_
 conv=>whnf
 have hp:It ⟨W,fun _=>False⟩ []:=fun _ h=>by cases h
 have hH:∀w,Am.rel ⟨W,fun _=>False⟩ w→True:=fun _ _=>trivial
 refine A54 (A03 x Ag) hp rfl (fun r hr=>go A0 false ?_)
 conv=>whnf
 refine Du 8 (Ei []) rfl Da ?_
 refine Cc A0 false [11] (fun k:Nat=>[(8,.c (vi k))]) (fun k=>[⟨2,[.own 3,.c (vi (Ce x (l.take k)).1.graph.workers),.c (vi (Ce x (l.take k)).1.graph.cap),.own 4,.own 5,.own 6,.own 7,.c (vb (Aq (Ce x (l.take k)).1))]⟩,⟨1,[.c (.val (.slice none 0 0)),.c (vi 0),.c (vi 0),.c (.val (.slice none 0 0)),.c (.val (.slice none 0 0)),.c (.val (.slice none 0 0)),.c (.val (.slice none 0 0))]⟩]) (fun k=>[⟨8,Ei (Ce x (l.take k)).2⟩,⟨3,Bt (Ce x (l.take k)).1.graph.nodes⟩,⟨4,Ap (Ce x (l.take k)).1.workers⟩,⟨5,D7 (Ce x (l.take k)).1.links⟩,⟨6,Cl (Ce x (l.take k)).1.tokens⟩,⟨7,D0 (Ce x (l.take k)).1.news⟩])
  (fun k=>k≤l.length) (fun k=>l.length-k) 0 (Nat.zero_le _) ⟨by first|rfl|simp [Dc,ren2,ren1,ren0],trivial⟩ D8 ⟨by first|rfl|exact (congrArg (fun l=>Dz _ _ l) (List.append_nil _)).symm|(show (_:A7)=_;simp)|simp,by first|rfl|exact (congrArg (fun l=>Dz _ _ l) (List.append_nil _)).symm|(show (_:A7)=_;simp)|simp,by first|rfl|exact (congrArg (fun l=>Dz _ _ l) (List.append_nil _)).symm|(show (_:A7)=_;simp)|simp,by first|rfl|exact (congrArg (fun l=>Dz _ _ l) (List.append_nil _)).symm|(show (_:A7)=_;simp)|simp,by first|rfl|exact (congrArg (fun l=>Dz _ _ l) (List.append_nil _)).symm|(show (_:A7)=_;simp)|simp,by first|rfl|exact (congrArg (fun l=>Dz _ _ l) (List.append_nil _)).symm|(show (_:A7)=_;simp)|simp,trivial⟩ Dg A6 (fun k hk=>?_)
 conv=>whnf
 conv=>whnf
 refine G2 (fun hlt=>?_) fun hlt=>?_<;>conv=>whnf
 ·have hlt:k<l.length:=by omega
  have hw:=A3m (c:=x) (l:=l.take k)
  have hn:=A3l (c:=x) (l:=l.take k)
  have ht:(l.take k).length=k:=by rw [List.length_take];omega
  have hs:=A0y (c:=x) hlt
  (repeat refine Ak ?_)
  refine Cm (A3v (Ce x (l.take k)).1 (l.getD k default) Ag (by rw [X8];exact og)) hH hp rfl C1 rfl rfl (fun r2 hr2=>go A0 false ?_)
  conv=>whnf
  refine B4 A0 rfl rfl rfl rfl rfl rfl rfl rfl rfl rfl rfl (Ei ((Ce x (l.take k)).2++[(Ao (Ce x (l.take k)).1 (l.getD k default)).2])) (B5 rfl) Rt Ag (Af ?_)
  (repeat refine Ak ?_)
  refine B8 [(3,9),(4,10),(5,11),(6,12),(7,13),(8,15)] (k+1) Ag Ag ⟨rfl,trivial⟩ ⟨congrArg Ei (by rw [hs];rfl),congrArg (fun s:A3×List Bool=>Bt s.1.graph.nodes) hs.symm,congrArg (fun s:A3×List Bool=>Ap s.1.workers) hs.symm,congrArg (fun s:A3×List Bool=>D7 s.1.links) hs.symm,congrArg (fun s:A3×List Bool=>Cl s.1.tokens) hs.symm,congrArg (fun s:A3×List Bool=>D0 s.1.news) hs.symm,trivial⟩ (by rw [hs];repeat' (first|exact trivial|exact rfl|refine ⟨?_,?_⟩)) A6 Dg A6
 ·obtain rfl:k=l.length:=by omega
  rw [List.take_length]
  repeat refine Bg ?_
  refine B1 A0 rfl rfl ?_
  exact C1
set_option maxHeartbeats 4000000 in
theorem B34 (x:A3)(l:List Bl)(h:x.w+4 * l.length≤8000000)(og:Gs .i64 x.graph.workers):Dq Try.prog (fun _=>True) 43 [] (rc x) [.one (C4 l)] (fun _:Unit=>True) (fun _=>rc (Ce x l).1) (fun _=>[.one (vi (cnt x l))]):=by
 refine Ex A0 false Try.func43 rfl Cb fun B b hH hp=>?_
 conv=>whnf
 refine Cc A0 false [] (fun k:Nat=>[(6,.c (vi k)),(5,.c (vi (cnt x (l.take k))))]) (fun k=>[⟨0,[.own 1,.c (vi (Ce x (l.take k)).1.graph.workers),.c (vi (Ce x (l.take k)).1.graph.cap),.own 2,.own 3,.own 4,.own 5,.c (vb (Aq (Ce x (l.take k)).1))]⟩]) (fun k=>[⟨1,Bt (Ce x (l.take k)).1.graph.nodes⟩,⟨2,Ap (Ce x (l.take k)).1.workers⟩,⟨3,D7 (Ce x (l.take k)).1.links⟩,⟨4,Cl (Ce x (l.take k)).1.tokens⟩,⟨5,D0 (Ce x (l.take k)).1.news⟩])
  (fun k=>k≤l.length) (fun k=>l.length-k) 0 (Nat.zero_le _) ⟨by first|rfl|simp [Dc,ren2,ren1,ren0],by first|rfl|simp [Dc,ren2,ren1,ren0],trivial⟩ D8 ⟨by first|rfl|exact (congrArg (fun l=>Dz _ _ l) (List.append_nil _)).symm|(show (_:A7)=_;simp)|simp,by first|rfl|exact (congrArg (fun l=>Dz _ _ l) (List.append_nil _)).symm|(show (_:A7)=_;simp)|simp,by first|rfl|exact (congrArg (fun l=>Dz _ _ l) (List.append_nil _)).symm|(show (_:A7)=_;simp)|simp,by first|rfl|exact (congrArg (fun l=>Dz _ _ l) (List.append_nil _)).symm|(show (_:A7)=_;simp)|simp,by first|rfl|exact (congrArg (fun l=>Dz _ _ l) (List.append_nil _)).symm|(show (_:A7)=_;simp)|simp,trivial⟩ Dg A6 (fun k hk=>?_)
 conv=>whnf
 conv=>whnf
 refine G2 (fun hlt=>?_) fun hlt=>?_<;>conv=>whnf
 ·have hlt:k<l.length:=by omega
  have hw:=A3m (c:=x) (l:=l.take k)
  have hn:=A3l (c:=x) (l:=l.take k)
  have ht:(l.take k).length=k:=by rw [List.length_take];omega
  have hs:=A0y (c:=x) hlt
  have hcn:cnt x (l.take (k+1))=cnt x (l.take k)+if (Ao (Ce x (l.take k)).1 (l.getD k default)).2=true then 1 else 0:=by
   unfold cnt
   rw [hs]
   show ((((Ce x (l.take k)).2++[(Ao (Ce x (l.take k)).1 (l.getD k default)).2]).filter id)).length=_
   rw [List.filter_append,List.length_append]
   cases (Ao (Ce x (l.take k)).1 (l.getD k default)).2<;>rfl
  have hcl:cnt x (l.take k)≤k:=by
   unfold cnt
   exact Nat.le_trans (List.length_filter_le _ _) Ag
  (repeat refine Ak ?_)
  refine Cm (A3v (Ce x (l.take k)).1 (l.getD k default) Ag (by rw [X8];exact og)) hH hp rfl C1 rfl rfl (fun r2 hr2=>go A0 false ?_)
  conv=>whnf
  refine ⟨fun hb=>?_,fun hb=>?_⟩<;>conv=>whnf
  ·rw [if_pos hb] at hcn
   (repeat refine Ak ?_)
   refine B8 [(1,6),(2,7),(3,8),(4,9),(5,10)] (k+1) Ag Ag ⟨rfl,congrArg (fun n:Nat=>AV.c (vi (n:Int))) hcn.symm,trivial⟩ ⟨congrArg (fun s:A3×List Bool=>Bt s.1.graph.nodes) hs.symm,congrArg (fun s:A3×List Bool=>Ap s.1.workers) hs.symm,congrArg (fun s:A3×List Bool=>D7 s.1.links) hs.symm,congrArg (fun s:A3×List Bool=>Cl s.1.tokens) hs.symm,congrArg (fun s:A3×List Bool=>D0 s.1.news) hs.symm,trivial⟩ (by rw [hs];repeat' (first|exact trivial|exact rfl|refine ⟨?_,?_⟩)) A6 Dg A6
  ·rw [if_neg (by rw [hb];decide)] at hcn
   (repeat refine Ak ?_)
   refine B8 [(1,6),(2,7),(3,8),(4,9),(5,10)] (k+1) Ag Ag ⟨rfl,congrArg (fun n:Nat=>AV.c (vi (n:Int))) hcn.symm,trivial⟩ ⟨congrArg (fun s:A3×List Bool=>Bt s.1.graph.nodes) hs.symm,congrArg (fun s:A3×List Bool=>Ap s.1.workers) hs.symm,congrArg (fun s:A3×List Bool=>D7 s.1.links) hs.symm,congrArg (fun s:A3×List Bool=>Cl s.1.tokens) hs.symm,congrArg (fun s:A3×List Bool=>D0 s.1.news) hs.symm,trivial⟩ (by rw [hs];repeat' (first|exact trivial|exact rfl|refine ⟨?_,?_⟩)) A6 Dg A6
 ·obtain rfl:k=l.length:=by omega
  rw [List.take_length]
  repeat refine Bg ?_
  exact C9 A0 () trivial rfl rfl rfl rfl C1
theorem B3s (n:Nat):∀c:A3,(A46 n c).1.w≤c.w+176 * n:=by
 induction n with
 |zero=>intro c;exact Nat.le_refl _
 |succ n ih=>
  intro c
  have h1:=B3q (c:=c)
  rw [A46]
  split
  ·show (A4a c).1.w≤_
   omega
  ·have h2:=ih (A4a c).1
   show (A46 n (A4a c).1).1.w≤_
   omega
theorem Wd (xs:List Ac):(J9 xs).w=xs.length+12:=by simp [Ad.w,J9]
theorem A48 {n:Int}{l:List Ac}{k:Nat}(hl:l.length≤20):((D6 n l k).map Ad.w).sum≤k * 92:=by
 induction k with
 |zero=>simp [D6]
 |succ k ih=>
  rw [St,List.map_append,List.sum_append]
  have h1:=Qt n l k 4
  simp only [List.map_cons,List.map_nil,List.sum_cons,List.sum_nil,Wd]
  omega
theorem A6o (m:Nat)(n:Int):((List.replicate m (Gm n)).map C0.w).sum=0:=by
 induction m with
 |zero=>rfl
 |succ m ih=>
  rw [List.replicate_succ,List.map_cons,List.sum_cons,ih]
  rfl
theorem A7j {g:An}{l:List Ac}:(Ej g l).1.w≤g.w+2000:=by
 by_cases h:Rs g l
 ·have hw:=h.1.2.1
  obtain ⟨n,hn⟩:∃n:Nat,g.workers=n:=⟨g.workers.toNat,by omega⟩
  have h1:=A48 (n:=g.workers) (l:=l) (k:=g.workers.toNat) h.2.1
  have h2:=A6o (g.workers.toNat * g.workers.toNat) g.cap
  have h3:=Ql g.workers l g.workers.toNat
  have h4:g.workers.toNat * g.workers.toNat≤16:=Nat.mul_le_mul (show g.workers.toNat≤4 by omega) (show g.workers.toNat≤4 by omega)
  rw [N3 h]
  simp only [A3.w,wS,List.length_replicate,List.length_nil]
  rw [h2,h3]
  have h5:g.workers.toNat≤4:=by omega
  omega
 ·rw [Nz h]
  show L4.w≤_
  have:L4.w=0:=rfl
  omega
set_option maxHeartbeats 4000000 in
theorem B2y (x:A3)(most:Int)(h:x.w≤6000000)(og:Gs .i64 x.graph.workers):Bp Try.prog 17 [.agg x.c,.one (vi most)] [.agg (A46 (Dn most 0 3000).toNat x).1.c,.one (vi (A46 (Dn most 0 3000).toNat x).2)]:=by
 have hb:=G1 most 0 3000 Cb
 have hal:=Pv x
 obtain ⟨n,hn⟩:∃n:Nat,Dn most 0 3000=n:=⟨(Dn most 0 3000).toNat,by omega⟩
 rw [hn,Int.toNat_natCast]
 refine Bm A0 false Try.func17 rfl Cb fun W=>?_
 conv=>whnf
 have hp:It ⟨W,fun _=>False⟩ []:=fun _ h=>by cases h
 have hH:∀w,Am.rel ⟨W,fun _=>False⟩ w→True:=fun _ _=>trivial
 refine A54 (A03 x Ag) hp rfl (fun r hr=>go A0 false ?_)
 conv=>whnf
 refine Dk (B2b x) rfl (Af ?_)
 refine B7 (P4 most 0 3000) rfl (Af ?_)
 rw [hn]
 refine Cc A0 false [] (fun k:Nat=>[(8,.c (vi (k+1)))]) (fun k=>[⟨2,[.own 3,.c (vi (frN x k).graph.workers),.c (vi (frN x k).graph.cap),.own 4,.own 5,.own 6,.own 7,.c (vb (Aq (frN x k)))]⟩,⟨1,[.c (.val (.slice none 0 0)),.c (vi 0),.c (vi 0),.c (.val (.slice none 0 0)),.c (.val (.slice none 0 0)),.c (.val (.slice none 0 0)),.c (.val (.slice none 0 0))]⟩]) (fun k=>[⟨8,C4 (Ru (Ou x))⟩,⟨3,Bt (frN x k).graph.nodes⟩,⟨4,Ap (frN x k).workers⟩,⟨5,D7 (frN x k).links⟩,⟨6,Cl (frN x k).tokens⟩,⟨7,D0 (frN x k).news⟩])
  (fun k=>k≤n∧∀i,i<k→(A4a (frN x i)).2≠0) (fun k=>n-k) 0 ⟨Nat.zero_le _,by first|rfl|assumption|simp⟩ ⟨by first|rfl|simp [Dc,ren2,ren1,ren0],trivial⟩ D8 ⟨by first|rfl|exact (congrArg (fun l=>Dz _ _ l) (List.append_nil _)).symm|(show (_:A7)=_;simp)|simp,by first|rfl|exact (congrArg (fun l=>Dz _ _ l) (List.append_nil _)).symm|(show (_:A7)=_;simp)|simp,by first|rfl|exact (congrArg (fun l=>Dz _ _ l) (List.append_nil _)).symm|(show (_:A7)=_;simp)|simp,by first|rfl|exact (congrArg (fun l=>Dz _ _ l) (List.append_nil _)).symm|(show (_:A7)=_;simp)|simp,by first|rfl|exact (congrArg (fun l=>Dz _ _ l) (List.append_nil _)).symm|(show (_:A7)=_;simp)|simp,by first|rfl|exact (congrArg (fun l=>Dz _ _ l) (List.append_nil _)).symm|(show (_:A7)=_;simp)|simp,trivial⟩ Dg A6 (fun k hk=>?_)
 obtain ⟨hk,he⟩:=hk
 conv=>whnf
 conv=>whnf
 refine ⟨fun hlt=>?_,fun hlt=>?_⟩<;>conv=>whnf
 ·have hlt:k<n:=by have:=of_decide_eq_true hlt;omega
  have hw:=B5w x k
  have hP:Ou (frN x k)=Ou x:=B4u (B1j x k)
  have hF1:(Ce (frN x k) (Ru (Ou x))).1=frN x (k+1):=by
   show _=(A4a (frN x k)).1
   unfold A4a
   rw [hP]
  have hF2:cnt (frN x k) (Ru (Ou x))=(A4a (frN x k)).2:=by
   unfold A4a cnt
   rw [hP]
  refine Cm (B34 (frN x k) (Ru (Ou x)) Ag (by rw [B1j];exact og)) hH hp rfl C1 rfl rfl (fun r2 hr2=>go A0 false ?_)
  conv=>whnf
  rw [hF1,hF2]
  refine ⟨fun h0=>have h0:=eq_of_beq h0;?_,fun h0=>have h0:=beq_eq_false_iff_ne.1 h0;?_⟩<;>conv=>whnf
  ·have h0:(A4a (frN x k)).2=0:=by omega
   repeat refine Bg ?_
   rw [A90 hlt he h0]
   refine B1 A0 rfl rfl ?_
   exact C1
  ·have h0:(A4a (frN x k)).2≠0:=by omega
   (repeat refine Ak ?_)
   refine B8 [(3,9),(4,10),(5,11),(6,12),(7,13)] (k+1) ⟨by omega,fun i hi=>(Nat.lt_succ_iff_lt_or_eq.1 hi).elim (fun h4=>he i h4) (fun h4=>by subst h4;exact h0)⟩ Ag ⟨rfl,trivial⟩ ⟨rfl,rfl,rfl,rfl,rfl,rfl,trivial⟩ D8 A6 Dg A6
 ·have hlt:¬ k<n:=by have:=of_decide_eq_false hlt;omega
  obtain rfl:k=n:=by omega
  repeat refine Bg ?_
  rw [B10 he]
  refine B1 A0 rfl rfl ?_
  exact C1
theorem Kk (k:Nat):Gs .i64 ([1,1,1,2,3,3,3,4,4,5,6,6,7].getD k 0):=
 V5 (p:=fun w=>Gs .i64 w) _ k 0 (fun x hx=>by simp only [List.mem_cons,List.not_mem_nil,or_false] at hx;show _∧_;omega) ⟨by decide,by decide⟩
theorem Pf (n:Int):Gs .i64 (n.tmod 3):=by
 show _∧_
 have h1:=Int.tmod_lt_of_pos n (show (0:Int)<3 by decide)
 have h2:=Int.lt_tmod_of_pos n (show (0:Int)<3 by decide)
 omega
theorem A1y (d:Gb)(i h:Int)(hi:0≤i∧i≤d.n):Dq Try.prog HT 48 d.pins (d.cur i h) [] (fun r:Int×Int×Bl=>(0≤r.1∧r.1≤d.n)∧r.2.2.ok) (fun r=>d.cur r.1 r.2.1) (fun r=>[.agg r.2.2.c]):=by
 refine Ex A0 false Try.func48 rfl Cb fun B b hH hp=>?_
 conv=>whnf
 refine Og 2 (Ds [1,1,1,2,3,3,3,4,4,5,6,6,7]) rfl (Cn rfl D8) ?_
 refine Cm (Wm d i h [1,1,1,2,3,3,3,4,4,5,6,6,7] hi Cb) hH hp rfl C1 rfl rfl (fun r hr=>go A0 false ?_)
 conv=>whnf
 refine Cm (Cv d r.1 r.2.1 3 hr.1 Cb) hH hp rfl C1 rfl rfl (fun r2 hr2=>go A0 false ?_)
 conv=>whnf
 refine ⟨fun c1=>?_,fun c1=>?_⟩<;>conv=>whnf
 ·repeat' (first|(refine L9 ?_;conv=>whnf)|(refine La ?_;conv=>whnf)|(refine ⟨fun h=>?_,fun h=>?_⟩<;>conv=>whnf)|(refine He ?_;conv=>whnf)|fail)
  refine Y7 rfl ?_
  refine Hp A0 false 0 rfl rfl rfl A6 rfl (Aa D3) ?_
  refine Hp A0 false 3 rfl rfl rfl A6 rfl (Aa D3) ?_
  refine A4 [1,4] A6 ⟨?_,?_,trivial⟩
  focus
   refine go A0 false ?_
   conv=>whnf
   refine A5 ?_
   refine Hp A0 false 2 rfl rfl rfl A6 rfl (Aa D3) ?_
   refine A4 [4] A6 ⟨?_,trivial⟩
   refine go A0 false ?_
   conv=>whnf
   refine Cm (Cv d r2.1 r2.2.1 2 hr2.1 Cb) hH hp rfl C1 rfl rfl (fun r3 hr3=>go A0 false ?_)
   conv=>whnf
   refine A5 ?_
   refine Hp A0 false 5 rfl rfl rfl A6 rfl (Aa D3) ?_
   refine Hp A0 false 6 rfl rfl rfl A6 rfl (Aa D3) ?_
   refine Hp A0 false 7 rfl rfl rfl A6 rfl (Aa D3) ?_
   refine A4 [8] A6 ⟨?_,trivial⟩
   refine go A0 false ?_
   conv=>whnf
   refine A5 ?_
   refine Ba A6 (Af ?_)
  rotate_left 1
  focus
   refine go A0 false ?_
   conv=>whnf
   refine Cm (Cv d r2.1 r2.2.1 2 hr2.1 Cb) hH hp rfl C1 rfl rfl (fun r3 hr3=>go A0 false ?_)
   conv=>whnf
   refine A5 ?_
   refine A4 [1] A6 ⟨?_,trivial⟩
   refine go A0 false ?_
   conv=>whnf
   refine A5 ?_
   refine Hp A0 false 2 rfl rfl rfl A6 rfl (Aa D3) ?_
   refine Hp A0 false 5 rfl rfl rfl A6 rfl (Aa D3) ?_
   refine Hp A0 false 6 rfl rfl rfl A6 rfl (Aa D3) ?_
   refine Hp A0 false 7 rfl rfl rfl A6 rfl (Aa D3) ?_
   refine A4 [8] A6 ⟨?_,trivial⟩
   refine go A0 false ?_
   conv=>whnf
   refine A5 ?_
   refine Ba A6 (Af ?_)
  ·exact C9 A0 (r3.1,r3.2.1,⟨[1,1,1,2,3,3,3,4,4,5,6,6,7].getD r.2.2 0,r2.2.2,(r2.2.2+1+r3.2.2).tmod 3⟩) ⟨hr3.1,Kk _,⟨by show _≤r2.2.2;omega,by show r2.2.2≤_;omega⟩,Pf _⟩ rfl rfl rfl rfl C1
  ·exact C9 A0 (r3.1,r3.2.1,⟨[1,1,1,2,3,3,3,4,4,5,6,6,7].getD r.2.2 0,r2.2.2,(r2.2.2+1+r3.2.2).tmod 3⟩) ⟨hr3.1,Kk _,⟨by show _≤r2.2.2;omega,by show r2.2.2≤_;omega⟩,Pf _⟩ rfl rfl rfl rfl C1
 ·repeat' (first|(refine L9 ?_;conv=>whnf)|(refine La ?_;conv=>whnf)|(refine ⟨fun h=>?_,fun h=>?_⟩<;>conv=>whnf)|(refine He ?_;conv=>whnf)|fail)
  ·refine Y7 rfl ?_
   refine Hp A0 false 0 rfl rfl rfl A6 rfl (Aa D3) ?_
   refine Hp A0 false 3 rfl rfl rfl A6 rfl (Aa D3) ?_
   refine A4 [1,4] A6 ⟨?_,?_,trivial⟩
   focus
    refine go A0 false ?_
    conv=>whnf
    refine A5 ?_
    refine Hp A0 false 2 rfl rfl rfl A6 rfl (Aa D3) ?_
    refine A4 [4] A6 ⟨?_,trivial⟩
    refine go A0 false ?_
    conv=>whnf
    refine Cm (Cv d r2.1 r2.2.1 2 hr2.1 Cb) hH hp rfl C1 rfl rfl (fun r3 hr3=>go A0 false ?_)
    conv=>whnf
    refine A5 ?_
    refine Hp A0 false 5 rfl rfl rfl A6 rfl (Aa D3) ?_
    refine Hp A0 false 6 rfl rfl rfl A6 rfl (Aa D3) ?_
    refine Hp A0 false 7 rfl rfl rfl A6 rfl (Aa D3) ?_
    refine A4 [8] A6 ⟨?_,trivial⟩
    refine go A0 false ?_
    conv=>whnf
    refine A5 ?_
    refine Ba A6 (Af ?_)
   rotate_left 1
   focus
    refine go A0 false ?_
    conv=>whnf
    refine Cm (Cv d r2.1 r2.2.1 2 hr2.1 Cb) hH hp rfl C1 rfl rfl (fun r3 hr3=>go A0 false ?_)
    conv=>whnf
    refine A5 ?_
    refine A4 [1] A6 ⟨?_,trivial⟩
    refine go A0 false ?_
    conv=>whnf
    refine A5 ?_
    refine Hp A0 false 2 rfl rfl rfl A6 rfl (Aa D3) ?_
    refine Hp A0 false 5 rfl rfl rfl A6 rfl (Aa D3) ?_
    refine Hp A0 false 6 rfl rfl rfl A6 rfl (Aa D3) ?_
    refine Hp A0 false 7 rfl rfl rfl A6 rfl (Aa D3) ?_
    refine A4 [8] A6 ⟨?_,trivial⟩
    refine go A0 false ?_
    conv=>whnf
    refine A5 ?_
    refine Ba A6 (Af ?_)
   ·exact C9 A0 (r3.1,r3.2.1,⟨[1,1,1,2,3,3,3,4,4,5,6,6,7].getD r.2.2 0,r2.2.2,(r2.2.2+1+r3.2.2).tmod 3⟩) ⟨hr3.1,Kk _,⟨by show _≤r2.2.2;omega,by show r2.2.2≤_;omega⟩,Pf _⟩ rfl rfl rfl rfl C1
   ·exact C9 A0 (r3.1,r3.2.1,⟨[1,1,1,2,3,3,3,4,4,5,6,6,7].getD r.2.2 0,r2.2.2,(r2.2.2+1+r3.2.2).tmod 3⟩) ⟨hr3.1,Kk _,⟨by show _≤r2.2.2;omega,by show r2.2.2≤_;omega⟩,Pf _⟩ rfl rfl rfl rfl C1
  ·exact C9 A0 (r2.1,r2.2.1,⟨[1,1,1,2,3,3,3,4,4,5,6,6,7].getD r.2.2 0,r2.2.2,0⟩) ⟨hr2.1,Kk _,⟨by show _≤r2.2.2;omega,by show r2.2.2≤_;omega⟩,⟨by show (-9223372036854775808:Int)≤0;decide,by show (0:Int)≤9223372036854775807;decide⟩⟩ rfl rfl rfl rfl C1
theorem A1x (d:Gb)(i h:Int)(hi:0≤i∧i≤d.n):Dq Try.prog HT 48 d.pins (d.cur i h) [] (fun r:Int×Int×Bl=>0≤r.1∧r.1≤d.n) (fun r=>d.cur r.1 r.2.1) (fun r=>[.agg r.2.2.c]):=(A1y d i h hi).weak fun _ h=>h.1
structure JPk where
 k:Nat
 i:Int
 h:Int
 xs:List Bl
theorem A1z (d:Gb)(i h:Int)(m:Nat)(hm:m≤1000)(hi:0≤i∧i≤d.n):Dq Try.prog HT 24 d.pins (d.cur i h) [.one (vi m)] (fun r:Int×Int×List Bl=>(0≤r.1∧r.1≤d.n)∧r.2.2.length≤m) (fun r=>d.cur r.1 r.2.1) (fun r=>[.one (C4 r.2.2)]):=by
 refine Ex A0 false Try.func24 rfl Cb fun B b hH hp=>?_
 conv=>whnf
 refine Du 1 (C4 []) rfl (Cn rfl D8) ?_
 refine Cc A0 false [7] (fun j:JPk=>[(6,.c (vi j.k))]) (fun j=>[⟨0,[.c (.val d.v),.c (vi j.i),.c (vi j.h)]⟩]) (fun j=>[⟨1,C4 j.xs⟩]) (fun j=>(0≤j.i∧j.i≤d.n)∧j.k≤m∧j.xs.length=j.k) (fun j=>m-j.k) (⟨0,i,h,[]⟩) (⟨hi,Nat.zero_le _,rfl⟩) ⟨by first|rfl|simp [Dc,ren2,ren1,ren0],trivial⟩ D8 ⟨by first|rfl|exact (congrArg (fun l=>Dz _ _ l) (List.append_nil _)).symm|(show (_:A7)=_;simp)|simp,trivial⟩ Dg A6 (fun j hj=>?_)
 conv=>whnf
 obtain ⟨hi,hk,hx⟩:=hj
 (repeat refine Ak ?_)
 refine Cm (Cv d j.i j.h (m+1) hi Ag) hH hp rfl C1 rfl rfl (fun r hr=>go A0 false ?_)
 conv=>whnf
 refine G2 (fun hlt=>?_) fun hlt=>?_<;>conv=>whnf
 ·have hlt2:(r.2.2:Int)<m+1:=hr.2.2.2 Ag
  refine Cm (A1x d r.1 r.2.1 hr.1) hH hp rfl C1 rfl rfl (fun r2 hr2=>go A0 false ?_)
  conv=>whnf
  refine B4 A0 rfl rfl rfl rfl rfl rfl rfl rfl rfl rfl rfl (C4 (j.xs++[r2.2.2])) (B5 rfl) Rt Ag (Af ?_)
  (repeat refine Ak ?_)
  refine B8 [(1,3)] (⟨j.k+1,r2.1,r2.2.1,j.xs++[r2.2.2]⟩) (⟨hr2,by show j.k+1≤m;omega,by simp [hx]⟩) (by show m-(j.k+1)<_;omega) ⟨rfl,trivial⟩ ⟨rfl,trivial⟩ D8 A6 Dg A6
 ·exact C9 A0 (r.1,r.2.1,j.xs) ⟨hr.1,by show j.xs.length≤m;omega⟩ rfl rfl rfl rfl C1
end Go.Proofs.Ytonodkjaoalfjaa
