/- Part 35 of the proof that each of the laws FnExactRunScriptOf, FnExactSpreadResult returns true for every input. No conditions. -/
import Derived.Test.YtlbmkgkmbjadcaaGreatP32
import Derived.Test.YtlbmkgkmbjadcaaGreatP34
import Derived.Test.YtlbmkgkmbjadcaaGreatP30
import Derived.Test.YtlbmkgkmbjadcaaGreatP21

set_option linter.unusedSimpArgs false
set_option linter.unusedVariables false
set_option maxRecDepth 100000
namespace Go.Proofs.YtlbmkgkmbjadcaaGreat
open Go.Sx
theorem Us (c:A4)(e:Int):(D3 c e).1.graph=c.graph:=by
 unfold D3
 dsimp only
 repeat' split
 all_goals first
  |rfl
  |(unfold Ho;split<;>rfl)
theorem A6s (c:A4)(p:Bo):(B3 c p).1.graph=c.graph:=by
 unfold B3
 split
 ·unfold Es;split<;>rfl
 split
 ·unfold E5;split<;>rfl
 split
 ·unfold D0;repeat' split
  all_goals rfl
 split
 ·unfold Dt;split<;>rfl
 split
 ·unfold E9;split<;>rfl
 split
 ·exact Us c p.a
 split
 ·unfold Eo;repeat' split
  all_goals rfl
 ·rfl
theorem A38 (l:List Bo):∀s:A4×List Bool,(l.foldl Gy s).1.graph=s.1.graph:=by
 induction l with
 |nil=>intro s;rfl
 |cons p r ih=>intro s;exact (ih (Gy s p)).trans (A6s s.1 p)
theorem Nz (c:A4)(l:List Bo):(Bd c l).1.graph=c.graph:=A38 l (c,[])
theorem Zc (c:A4)(k:Nat):(Ku c k).graph=c.graph:=by
 induction k with
 |zero=>rfl
 |succ k ih=>exact (Nz (Ku c k) _).trans ih
theorem B20 {c d:A4}(h:d.graph=c.graph):Ge d=Ge c:=by
 unfold Ge
 rw [h]
def cnt (c:A4) (l:List Bo):Nat:=((Bd c l).2.filter id).length
theorem Tn {c:A4}{p:Bo}(h3:p.kind≠3)(h4:p.kind≠4):B8 (B3 c p).1=B8 c:=by
 by_cases hc:Bg c
 ·rw [A4m hc,if_neg h3,if_neg h4]
  exact (decide_eq_true hc).symm
 ·rw [Zq hc]
set_option maxHeartbeats 4000000 in
theorem A4i (x:A4)(p:Bo)(h:x.w≤8000000)(og:G8 .i64 x.graph.workers):J0 Tryz.prog (fun _=>True) 92 [] (rc x) [.agg p.c] (fun _:Unit=>True) (fun _=>rc (B3 x p).1) (fun _=>[.one (vb (B3 x p).2)]):=by
 refine Kl A0 false Tryz.func92 rfl Bs fun B b hH hp=>?_
 conv=>whnf
 refine ⟨fun k1=>have k1:=eq_of_beq k1;?_,fun k1=>have k1:=beq_eq_false_iff_ne.1 k1;?_⟩<;>conv=>whnf
 ·have hfl:=Tn (c:=x) (p:=p) Ad Ad
  refine K8 (B3j x p.a Ad) hH hp rfl C1 rfl rfl (fun r hr=>go A0 false ?_)
  conv=>whnf
  have hz:rc (B3 x p).1=Te (Es x p.a).1 (B8 x):=by
   have e:B3 x p=Es x p.a:=by unfold B3;rw [if_pos k1]
   show Te (B3 x p).1 (B8 (B3 x p).1)=_
   rw [hfl,e]
  have hv:(B3 x p).2=(Es x p.a).2:=by unfold B3;rw [if_pos k1]
  rw [hz,hv]
  exact Ez A0 () trivial rfl rfl rfl rfl C1
 refine ⟨fun k2=>have k2:=eq_of_beq k2;?_,fun k2=>have k2:=beq_eq_false_iff_ne.1 k2;?_⟩<;>conv=>whnf
 ·have hfl:=Tn (c:=x) (p:=p) Ad Ad
  refine K8 (B0a x p.a Ad) hH hp rfl C1 rfl rfl (fun r hr=>go A0 false ?_)
  conv=>whnf
  have hz:rc (B3 x p).1=Te (E5 x p.a).1 (B8 x):=by
   have e:B3 x p=E5 x p.a:=by unfold B3;rw [if_neg k1,if_pos k2]
   show Te (B3 x p).1 (B8 (B3 x p).1)=_
   rw [hfl,e]
  have hv:(B3 x p).2=(E5 x p.a).2:=by unfold B3;rw [if_neg k1,if_pos k2]
  rw [hz,hv]
  exact Ez A0 () trivial rfl rfl rfl rfl C1
 refine ⟨fun k3=>have k3:=eq_of_beq k3;?_,fun k3=>have k3:=beq_eq_false_iff_ne.1 k3;?_⟩<;>conv=>whnf
 ·refine K8 (B3h x p.a h og) hH hp rfl C1 rfl rfl (fun r hr=>go A0 false ?_)
  conv=>whnf
  have e:B3 x p=D0 x p.a:=by unfold B3;rw [if_neg k1,if_neg k2,if_pos k3]
  rw [e]
  exact Ez A0 () trivial rfl rfl rfl rfl C1
 refine ⟨fun k4=>have k4:=eq_of_beq k4;?_,fun k4=>have k4:=beq_eq_false_iff_ne.1 k4;?_⟩<;>conv=>whnf
 ·refine K8 (B3i x p.a p.b h og) hH hp rfl C1 rfl rfl (fun r hr=>go A0 false ?_)
  conv=>whnf
  have e:B3 x p=Dt x p.a p.b:=by unfold B3;rw [if_neg k1,if_neg k2,if_neg k3,if_pos k4]
  rw [e]
  exact Ez A0 () trivial rfl rfl rfl rfl C1
 have hfl:=Tn (c:=x) (p:=p) k3 k4
 refine ⟨fun k5=>have k5:=eq_of_beq k5;?_,fun k5=>have k5:=beq_eq_false_iff_ne.1 k5;?_⟩<;>conv=>whnf
 ·refine K8 (A6f x p.a p.b Ad og) hH hp rfl C1 rfl rfl (fun r hr=>go A0 false ?_)
  conv=>whnf
  have hz:rc (B3 x p).1=Te (E9 x p.a p.b).1 (B8 x):=by
   have e:B3 x p=E9 x p.a p.b:=by unfold B3;rw [if_neg k1,if_neg k2,if_neg k3,if_neg k4,if_pos k5]
   show Te (B3 x p).1 (B8 (B3 x p).1)=_
   rw [hfl,e]
  have hv:(B3 x p).2=(E9 x p.a p.b).2:=by unfold B3;rw [if_neg k1,if_neg k2,if_neg k3,if_neg k4,if_pos k5]
  rw [hz,hv]
  exact Ez A0 () trivial rfl rfl rfl rfl C1
 refine ⟨fun k6=>have k6:=eq_of_beq k6;?_,fun k6=>have k6:=beq_eq_false_iff_ne.1 k6;?_⟩<;>conv=>whnf
 ·refine K8 (B0d x p.a Ad) hH hp rfl C1 rfl rfl (fun r hr=>go A0 false ?_)
  conv=>whnf
  have hz:rc (B3 x p).1=Te (D3 x p.a).1 (B8 x):=by
   have e:B3 x p=D3 x p.a:=by unfold B3;rw [if_neg k1,if_neg k2,if_neg k3,if_neg k4,if_neg k5,if_pos k6]
   show Te (B3 x p).1 (B8 (B3 x p).1)=_
   rw [hfl,e]
  have hv:(B3 x p).2=(D3 x p.a).2:=by unfold B3;rw [if_neg k1,if_neg k2,if_neg k3,if_neg k4,if_neg k5,if_pos k6]
  rw [hz,hv]
  exact Ez A0 () trivial rfl rfl rfl rfl C1
 refine ⟨fun k7=>have k7:=eq_of_beq k7;?_,fun k7=>have k7:=beq_eq_false_iff_ne.1 k7;?_⟩<;>conv=>whnf
 ·refine K8 (B3f x p.a Ad) hH hp rfl C1 rfl rfl (fun r hr=>go A0 false ?_)
  conv=>whnf
  have hz:rc (B3 x p).1=Te (Eo x p.a).1 (B8 x):=by
   have e:B3 x p=Eo x p.a:=by unfold B3;rw [if_neg k1,if_neg k2,if_neg k3,if_neg k4,if_neg k5,if_neg k6,if_pos k7]
   show Te (B3 x p).1 (B8 (B3 x p).1)=_
   rw [hfl,e]
  have hv:(B3 x p).2=(Eo x p.a).2:=by unfold B3;rw [if_neg k1,if_neg k2,if_neg k3,if_neg k4,if_neg k5,if_neg k6,if_pos k7]
  rw [hz,hv]
  exact Ez A0 () trivial rfl rfl rfl rfl C1
 ·have e:B3 x p=(x,false):=by unfold B3;rw [if_neg k1,if_neg k2,if_neg k3,if_neg k4,if_neg k5,if_neg k6,if_neg k7]
  rw [e]
  exact Ez A0 () trivial rfl rfl rfl rfl C1
set_option maxHeartbeats 4000000 in
theorem A1w (x:A4)(l:List Bo)(h:x.w+4 * l.length≤8000000)(og:G8 .i64 x.graph.workers):Aq Tryz.prog 37 [.agg x.c,.one (D5 l)] [.agg (Bd x l).1.c,.one (Cx (Bd x l).2)]:=by
 refine Aj A0 false Tryz.func37 rfl Bs fun W=>?_
 conv=>whnf
 have hp:N6 ⟨W,fun _=>False⟩ []:=fun _ h=>by cases h
 have hH:∀w,B5.rel ⟨W,fun _=>False⟩ w→True:=fun _ _=>trivial
 refine B5p (Zx x Ad) hp rfl (fun r hr=>go A0 false ?_)
 conv=>whnf
 refine Gk 8 (Cx []) rfl Do ?_
 refine B6 A0 false [11] (fun k:Nat=>[(8,.c (vi k))]) (fun k=>[⟨2,[.own 3,.c (vi (Bd x (l.take k)).1.graph.workers),.c (vi (Bd x (l.take k)).1.graph.cap),.own 4,.own 5,.own 6,.own 7,.c (vb (B8 (Bd x (l.take k)).1))]⟩,⟨1,[.c (.val (.slice none 0 0)),.c (vi 0),.c (vi 0),.c (.val (.slice none 0 0)),.c (.val (.slice none 0 0)),.c (.val (.slice none 0 0)),.c (.val (.slice none 0 0))]⟩]) (fun k=>[⟨8,Cx (Bd x (l.take k)).2⟩,⟨3,Bb (Bd x (l.take k)).1.graph.nodes⟩,⟨4,Ap (Bd x (l.take k)).1.workers⟩,⟨5,Bu (Bd x (l.take k)).1.links⟩,⟨6,Be (Bd x (l.take k)).1.tokens⟩,⟨7,C3 (Bd x (l.take k)).1.news⟩])
  (fun k=>k≤l.length) (fun k=>l.length-k) 0 (Nat.zero_le _) ⟨by first|rfl|simp [Cr,ren2,ren1,ren0],trivial⟩ Cp ⟨by first|rfl|exact (congrArg (fun l=>Cb _ _ l) (List.append_nil _)).symm|(show (_:Ab)=_;simp)|simp,by first|rfl|exact (congrArg (fun l=>Cb _ _ l) (List.append_nil _)).symm|(show (_:Ab)=_;simp)|simp,by first|rfl|exact (congrArg (fun l=>Cb _ _ l) (List.append_nil _)).symm|(show (_:Ab)=_;simp)|simp,by first|rfl|exact (congrArg (fun l=>Cb _ _ l) (List.append_nil _)).symm|(show (_:Ab)=_;simp)|simp,by first|rfl|exact (congrArg (fun l=>Cb _ _ l) (List.append_nil _)).symm|(show (_:Ab)=_;simp)|simp,by first|rfl|exact (congrArg (fun l=>Cb _ _ l) (List.append_nil _)).symm|(show (_:Ab)=_;simp)|simp,trivial⟩ Cc A5 (fun k hk=>?_)
 conv=>whnf
 conv=>whnf
 refine F2 (fun hlt=>?_) fun hlt=>?_<;>conv=>whnf
 ·have hlt:k<l.length:=by omega
  have hw:=Ra (c:=x) (l:=l.take k)
  have hn:=Pl (c:=x) (l:=l.take k)
  have ht:(l.take k).length=k:=by rw [List.length_take];omega
  have hs:=Tg (c:=x) hlt
  (repeat refine An ?_)
  refine K8 (A4i (Bd x (l.take k)).1 (l.getD k default) Ad (by rw [Nz];exact og)) hH hp rfl C1 rfl rfl (fun r2 hr2=>go A0 false ?_)
  conv=>whnf
  refine Bm A0 rfl rfl rfl rfl rfl rfl rfl rfl rfl rfl rfl (Cx ((Bd x (l.take k)).2++[(B3 (Bd x (l.take k)).1 (l.getD k default)).2])) (Bh rfl) Ef Ad (Ae ?_)
  (repeat refine An ?_)
  refine At [(3,9),(4,10),(5,11),(6,12),(7,13),(8,15)] (k+1) Ad Ad ⟨rfl,trivial⟩ ⟨congrArg Cx (by rw [hs];rfl),congrArg (fun s:A4×List Bool=>Bb s.1.graph.nodes) hs.symm,congrArg (fun s:A4×List Bool=>Ap s.1.workers) hs.symm,congrArg (fun s:A4×List Bool=>Bu s.1.links) hs.symm,congrArg (fun s:A4×List Bool=>Be s.1.tokens) hs.symm,congrArg (fun s:A4×List Bool=>C3 s.1.news) hs.symm,trivial⟩ (by rw [hs];repeat' (first|exact trivial|exact rfl|refine ⟨?_,?_⟩)) A5 Cc A5
 ·obtain rfl:k=l.length:=by omega
  rw [List.take_length]
  repeat refine B9 ?_
  refine Ah A0 rfl rfl ?_
  exact C1
set_option maxHeartbeats 4000000 in
theorem B0c (x:A4)(l:List Bo)(h:x.w+4 * l.length≤8000000)(og:G8 .i64 x.graph.workers):J0 Tryz.prog (fun _=>True) 95 [] (rc x) [.one (D5 l)] (fun _:Unit=>True) (fun _=>rc (Bd x l).1) (fun _=>[.one (vi (cnt x l))]):=by
 refine Kl A0 false Tryz.func95 rfl Bs fun B b hH hp=>?_
 conv=>whnf
 refine B6 A0 false [] (fun k:Nat=>[(6,.c (vi k)),(5,.c (vi (cnt x (l.take k))))]) (fun k=>[⟨0,[.own 1,.c (vi (Bd x (l.take k)).1.graph.workers),.c (vi (Bd x (l.take k)).1.graph.cap),.own 2,.own 3,.own 4,.own 5,.c (vb (B8 (Bd x (l.take k)).1))]⟩]) (fun k=>[⟨1,Bb (Bd x (l.take k)).1.graph.nodes⟩,⟨2,Ap (Bd x (l.take k)).1.workers⟩,⟨3,Bu (Bd x (l.take k)).1.links⟩,⟨4,Be (Bd x (l.take k)).1.tokens⟩,⟨5,C3 (Bd x (l.take k)).1.news⟩])
  (fun k=>k≤l.length) (fun k=>l.length-k) 0 (Nat.zero_le _) ⟨by first|rfl|simp [Cr,ren2,ren1,ren0],by first|rfl|simp [Cr,ren2,ren1,ren0],trivial⟩ Cp ⟨by first|rfl|exact (congrArg (fun l=>Cb _ _ l) (List.append_nil _)).symm|(show (_:Ab)=_;simp)|simp,by first|rfl|exact (congrArg (fun l=>Cb _ _ l) (List.append_nil _)).symm|(show (_:Ab)=_;simp)|simp,by first|rfl|exact (congrArg (fun l=>Cb _ _ l) (List.append_nil _)).symm|(show (_:Ab)=_;simp)|simp,by first|rfl|exact (congrArg (fun l=>Cb _ _ l) (List.append_nil _)).symm|(show (_:Ab)=_;simp)|simp,by first|rfl|exact (congrArg (fun l=>Cb _ _ l) (List.append_nil _)).symm|(show (_:Ab)=_;simp)|simp,trivial⟩ Cc A5 (fun k hk=>?_)
 conv=>whnf
 conv=>whnf
 refine F2 (fun hlt=>?_) fun hlt=>?_<;>conv=>whnf
 ·have hlt:k<l.length:=by omega
  have hw:=Ra (c:=x) (l:=l.take k)
  have hn:=Pl (c:=x) (l:=l.take k)
  have ht:(l.take k).length=k:=by rw [List.length_take];omega
  have hs:=Tg (c:=x) hlt
  have hcn:cnt x (l.take (k+1))=cnt x (l.take k)+if (B3 (Bd x (l.take k)).1 (l.getD k default)).2=true then 1 else 0:=by
   unfold cnt
   rw [hs]
   show ((((Bd x (l.take k)).2++[(B3 (Bd x (l.take k)).1 (l.getD k default)).2]).filter id)).length=_
   rw [List.filter_append,List.length_append]
   cases (B3 (Bd x (l.take k)).1 (l.getD k default)).2<;>rfl
  have hcl:cnt x (l.take k)≤k:=by
   unfold cnt
   exact Nat.le_trans (List.length_filter_le _ _) Ad
  (repeat refine An ?_)
  refine K8 (A4i (Bd x (l.take k)).1 (l.getD k default) Ad (by rw [Nz];exact og)) hH hp rfl C1 rfl rfl (fun r2 hr2=>go A0 false ?_)
  conv=>whnf
  refine ⟨fun hb=>?_,fun hb=>?_⟩<;>conv=>whnf
  ·rw [if_pos hb] at hcn
   (repeat refine An ?_)
   refine At [(1,6),(2,7),(3,8),(4,9),(5,10)] (k+1) Ad Ad ⟨rfl,congrArg (fun n:Nat=>AV.c (vi (n:Int))) hcn.symm,trivial⟩ ⟨congrArg (fun s:A4×List Bool=>Bb s.1.graph.nodes) hs.symm,congrArg (fun s:A4×List Bool=>Ap s.1.workers) hs.symm,congrArg (fun s:A4×List Bool=>Bu s.1.links) hs.symm,congrArg (fun s:A4×List Bool=>Be s.1.tokens) hs.symm,congrArg (fun s:A4×List Bool=>C3 s.1.news) hs.symm,trivial⟩ (by rw [hs];repeat' (first|exact trivial|exact rfl|refine ⟨?_,?_⟩)) A5 Cc A5
  ·rw [if_neg (by rw [hb];decide)] at hcn
   (repeat refine An ?_)
   refine At [(1,6),(2,7),(3,8),(4,9),(5,10)] (k+1) Ad Ad ⟨rfl,congrArg (fun n:Nat=>AV.c (vi (n:Int))) hcn.symm,trivial⟩ ⟨congrArg (fun s:A4×List Bool=>Bb s.1.graph.nodes) hs.symm,congrArg (fun s:A4×List Bool=>Ap s.1.workers) hs.symm,congrArg (fun s:A4×List Bool=>Bu s.1.links) hs.symm,congrArg (fun s:A4×List Bool=>Be s.1.tokens) hs.symm,congrArg (fun s:A4×List Bool=>C3 s.1.news) hs.symm,trivial⟩ (by rw [hs];repeat' (first|exact trivial|exact rfl|refine ⟨?_,?_⟩)) A5 Cc A5
 ·obtain rfl:k=l.length:=by omega
  rw [List.take_length]
  repeat refine B9 ?_
  exact Ez A0 () trivial rfl rfl rfl rfl C1
theorem A17 (c:A4)(e:Int):(D3 c e).1.workers.length=c.workers.length:=by
 unfold D3
 dsimp only
 repeat' split
 all_goals first
  |rfl
  |exact List.length_set
  |(unfold Ho;split<;>first|rfl|exact List.length_set)
theorem B5g (c:A4)(p:Bo):(B3 c p).1.workers.length=c.workers.length:=by
 unfold B3
 split
 ·unfold Es;split<;>first|rfl|exact List.length_set
 split
 ·unfold E5;split<;>first|rfl|exact List.length_set
 split
 ·unfold D0;repeat' split
  all_goals first|rfl|exact List.length_set
 split
 ·unfold Dt;split<;>first|rfl|exact List.length_set
 split
 ·unfold E9;split<;>rfl
 split
 ·exact A17 c p.a
 split
 ·unfold Eo;repeat' split
  all_goals first|rfl|exact List.length_set
 ·rfl
theorem B29 (l:List Bo):∀s:A4×List Bool,(l.foldl Gy s).1.workers.length=s.1.workers.length:=by
 induction l with
 |nil=>intro s;rfl
 |cons p r ih=>intro s;exact (ih (Gy s p)).trans (B5g s.1 p)
theorem A76 (c:A4)(l:List Bo):(Bd c l).1.workers.length=c.workers.length:=B29 l (c,[])
theorem Vz (n:Nat):∀c:A4,(Dj n c).1.workers.length=c.workers.length:=by
 induction n with
 |zero=>intro c;rfl
 |succ n ih=>
  intro c
  rw [Dj]
  split
  ·exact A76 c _
  ·exact (ih _).trans (A76 c _)
theorem Pv (n:Nat):∀c:A4,(Dj n c).1.w≤c.w+176 * n:=by
 induction n with
 |zero=>intro c;exact Nat.le_refl _
 |succ n ih=>
  intro c
  have h1:=A72 (c:=c)
  rw [Dj]
  split
  ·show (Cn c).1.w≤_
   omega
  ·have h2:=ih (Cn c).1
   show (Dj n (Cn c).1).1.w≤_
   omega
theorem Vu {w:A6}{e:Int}{k:Nat}(hk:k<w.dones.length)(hb:∀i,i<k→(w.dones.getD i default).epoch≠e)(h:(w.dones.getD k default).epoch=e):Kk w e=(w.dones.getD k default,true):=by
 have hd:Gp w e=true:=K7 hk (by simpa using h)
 have hf:Fm (fun d:Bp=>d.epoch==e) w.dones=k:=Nh _ _ k hk (fun i hi=>by simpa using hb i hi) (by simpa using h)
 unfold Kk
 rw [if_pos hd,hf]
theorem Z4 {w:A6}{e:Int}(hb:∀i,i<w.dones.length→(w.dones.getD i default).epoch≠e):Kk w e=(default,false):=by
 have hd:Gp w e=false:=by
  unfold Gp
  rw [List.any_eq_false]
  intro y hy
  obtain ⟨i,hi,rfl⟩:=List.getElem_of_mem hy
  have:=hb i hi
  rw [show w.dones.getD i default=w.dones[i] by simp [List.getD,hi]] at this
  simpa using this
 unfold Kk
 rw [if_neg (by rw [hd];decide)]
theorem A6g (x:A6)(e:Int)(h:x.w≤16000000):Aq Tryz.prog 120 [.agg x.c,.one (vi e)] [.agg (Kk x e).1.c,.one (vb (Kk x e).2)]:=by
 have hl:x.dones.length≤16000000:=by simp only [A6.w] at h;omega
 refine Aj A0 false Tryz.func120 rfl Bs fun W=>?_
 conv=>whnf
 refine B6 A0 false [] (fun k:Nat=>[(6,.c (vi k))]) (fun k=>[⟨0,[.c (A9 x.queue),.c (A9 x.staged),.c (A9 x.inputs),.c (Ao x.cells),.c (Eu x.sums),.c (Cx x.black),.c (Cx x.caps),.c (Er x.dones)]⟩,⟨1,[.c (vi 0),.c (vb false)]⟩]) (fun k=>[])
  (fun k=>k≤x.dones.length∧∀i,i<k→(x.dones.getD i default).epoch≠e) (fun k=>x.dones.length-k) 0 ⟨Nat.zero_le _,by first|rfl|assumption|simp⟩ ⟨by first|rfl|simp [Cr,ren2,ren1,ren0],trivial⟩ Cp trivial Cc A5 (fun k hk=>?_)
 obtain ⟨hk,he⟩:=hk
 conv=>whnf
 conv=>whnf
 refine F2 (fun h1=>?_) fun h1=>?_<;>conv=>whnf
 ·have h1:k<x.dones.length:=by omega
  (repeat refine An ?_)
  refine ⟨fun h2=>have h2:=eq_of_beq h2;?_,fun h2=>have h2:=beq_eq_false_iff_ne.1 h2;?_⟩<;>conv=>whnf
  ·rw [Int.toNat_natCast] at h2
   (repeat refine An ?_)
   rw [Vu h1 he h2]
   refine Ah A0 rfl rfl ?_
   exact C1
  ·rw [Int.toNat_natCast] at h2
   (repeat refine An ?_)
   refine At [] (k+1) ⟨by omega,fun i hi=>(Nat.lt_succ_iff_lt_or_eq.1 hi).elim (fun h4=>he i h4) (fun h4=>by subst h4;exact h2)⟩ Ad ⟨rfl,trivial⟩ trivial Cp A5 Cc A5
 ·rw [Z4 (fun i hi=>he i Ad)]
  refine Ah A0 rfl rfl ?_
  exact C1
theorem A5m (x:A6)(e:Int)(h:x.w≤16000000):Aq Tryz.prog 124 [.agg x.c,.one (vi e)] [.agg (Kk x e).1.c,.one (vb (Kk x e).2)]:=by
 have hl:x.dones.length≤16000000:=by simp only [A6.w] at h;omega
 refine Aj A0 false Tryz.func124 rfl Bs fun W=>?_
 conv=>whnf
 refine B6 A0 false [] (fun k:Nat=>[(11,.c (vi k))]) (fun k=>[⟨0,[.c (A9 x.queue),.c (A9 x.staged),.c (A9 x.inputs),.c (Ao x.cells),.c (Eu x.sums),.c (Cx x.black),.c (Cx x.caps),.c (Er x.dones)]⟩,⟨1,[.c (vi 0),.c (vb false)]⟩]) (fun k=>[])
  (fun k=>k≤x.dones.length∧∀i,i<k→(x.dones.getD i default).epoch≠e) (fun k=>x.dones.length-k) 0 ⟨Nat.zero_le _,by first|rfl|assumption|simp⟩ ⟨by first|rfl|simp [Cr,ren2,ren1,ren0],trivial⟩ Cp trivial Cc A5 (fun k hk=>?_)
 obtain ⟨hk,he⟩:=hk
 conv=>whnf
 conv=>whnf
 refine F2 (fun h1=>?_) fun h1=>?_<;>conv=>whnf
 ·have h1:k<x.dones.length:=by omega
  (repeat refine An ?_)
  refine ⟨fun h2=>have h2:=eq_of_beq h2;?_,fun h2=>have h2:=beq_eq_false_iff_ne.1 h2;?_⟩<;>conv=>whnf
  ·rw [Int.toNat_natCast] at h2
   (repeat refine An ?_)
   rw [Vu h1 he h2]
   refine Ah A0 rfl rfl ?_
   exact C1
  ·rw [Int.toNat_natCast] at h2
   (repeat refine An ?_)
   refine At [] (k+1) ⟨by omega,fun i hi=>(Nat.lt_succ_iff_lt_or_eq.1 hi).elim (fun h4=>he i h4) (fun h4=>by subst h4;exact h2)⟩ Ad ⟨rfl,trivial⟩ trivial Cp A5 Cc A5
 ·rw [Z4 (fun i hi=>he i Ad)]
  refine Ah A0 rfl rfl ?_
  exact C1
end Go.Proofs.YtlbmkgkmbjadcaaGreat
