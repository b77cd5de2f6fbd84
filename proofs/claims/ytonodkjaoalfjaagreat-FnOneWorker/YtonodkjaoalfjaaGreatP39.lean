/- Part 39 of the proof that each of the laws FnOneWorker returns true for every input. No conditions. -/
import Derived.Test.YtonodkjaoalfjaaGreatP19
import Derived.Test.YtonodkjaoalfjaaGreatP37
import Derived.Test.YtonodkjaoalfjaaGreatP38
import Derived.Test.YtonodkjaoalfjaaGreatP15
import Derived.Test.YtonodkjaoalfjaaGreatP22

set_option linter.unusedSimpArgs false
set_option linter.unusedVariables false
set_option maxRecDepth 100000
namespace Go.Proofs.YtonodkjaoalfjaaGreat
open Go.Sx
set_option maxHeartbeats 4000000 in
theorem A08 (x:A3)(p:Bl)(h:x.w≤8000000)(hgo:J9 x):B0 Tryz.prog 142 [.agg x.c,.agg p.c] [.agg (Ag x p).1.c,.one (vb (Ag x p).2)]:=by
 refine Ay A0 false Tryz.func142 rfl Bu fun W=>?_
 conv=>whnf
 refine ⟨fun k1=>have k1:=eq_of_beq k1;?_,fun k1=>have k1:=beq_eq_false_iff_ne.1 k1;?_⟩<;>conv=>whnf
 ·refine B4 (A05 x p.a Ac hgo) rfl (Al ?_)
  rw [Ag,if_pos k1]
  refine Ao A0 rfl rfl ?_
  exact Ca
 refine ⟨fun k2=>have k2:=eq_of_beq k2;?_,fun k2=>have k2:=beq_eq_false_iff_ne.1 k2;?_⟩<;>conv=>whnf
 ·refine B4 (Y3 x p.a Ac hgo) rfl (Al ?_)
  rw [Ag,if_neg k1,if_pos k2]
  refine Ao A0 rfl rfl ?_
  exact Ca
 refine ⟨fun k3=>have k3:=eq_of_beq k3;?_,fun k3=>have k3:=beq_eq_false_iff_ne.1 k3;?_⟩<;>conv=>whnf
 ·refine B4 (A03 x p.a h hgo) rfl (Al ?_)
  rw [Ag,if_neg k1,if_neg k2,if_pos k3]
  refine Ao A0 rfl rfl ?_
  exact Ca
 refine ⟨fun k4=>have k4:=eq_of_beq k4;?_,fun k4=>have k4:=beq_eq_false_iff_ne.1 k4;?_⟩<;>conv=>whnf
 ·refine B4 (A04 x p.a p.b h hgo) rfl (Al ?_)
  rw [Ag,if_neg k1,if_neg k2,if_neg k3,if_pos k4]
  refine Ao A0 rfl rfl ?_
  exact Ca
 refine ⟨fun k5=>have k5:=eq_of_beq k5;?_,fun k5=>have k5:=beq_eq_false_iff_ne.1 k5;?_⟩<;>conv=>whnf
 ·refine B4 (We x p.a p.b Ac hgo) rfl (Al ?_)
  rw [Ag,if_neg k1,if_neg k2,if_neg k3,if_neg k4,if_pos k5]
  refine Ao A0 rfl rfl ?_
  exact Ca
 refine ⟨fun k6=>have k6:=eq_of_beq k6;?_,fun k6=>have k6:=beq_eq_false_iff_ne.1 k6;?_⟩<;>conv=>whnf
 ·refine B4 (Y4 x p.a Ac hgo) rfl (Al ?_)
  rw [Ag,if_neg k1,if_neg k2,if_neg k3,if_neg k4,if_neg k5,if_pos k6]
  refine Ao A0 rfl rfl ?_
  exact Ca
 refine ⟨fun k7=>have k7:=eq_of_beq k7;?_,fun k7=>have k7:=beq_eq_false_iff_ne.1 k7;?_⟩<;>conv=>whnf
 ·refine B4 (A02 x p.a Ac hgo) rfl (Al ?_)
  rw [Ag,if_neg k1,if_neg k2,if_neg k3,if_neg k4,if_neg k5,if_neg k6,if_pos k7]
  refine Ao A0 rfl rfl ?_
  exact Ca
 refine B4 (Dz x Ac) rfl (Al ?_)
 rw [Ag,if_neg k1,if_neg k2,if_neg k3,if_neg k4,if_neg k5,if_neg k6,if_neg k7]
 refine Ao A0 rfl rfl ?_
 exact Ca
set_option maxHeartbeats 8000000 in
theorem Nh (x:A3)(l:List Bl)(h:x.w+4 * l.length≤8000000)(hgo:J9 x):B0 Tryz.prog 112 [.agg x.c,.one (Fu l)] [.agg (Bh x l).1.c,.one (Gm (Bh x l).2)]:=by
 refine Ay A0 false Tryz.func112 rfl Bu fun W=>?_
 conv=>whnf
 refine B4 (Dz x Ac) rfl (Al ?_)
 refine A36 7 1 (fun i=>[vb (([]:List Bool).getD i default)]) rfl ?_
 refine Bw A0 false [13] (fun k:Nat=>[(16,.c (vi k))]) (fun k=>[⟨7,[.own 2,.c (vi (Bh x (l.take k)).1.graph.workers),.c (vi (Bh x (l.take k)).1.graph.cap),.own 3,.own 4,.own 5,.own 6]⟩,⟨1,[.c (.val (.slice none 0 0)),.c (vi 0),.c (vi 0),.c (.val (.slice none 0 0)),.c (.val (.slice none 0 0)),.c (.val (.slice none 0 0)),.c (.val (.slice none 0 0))]⟩]) (fun k=>[⟨8,Gm (Bh x (l.take k)).2⟩,⟨2,Bp (Bh x (l.take k)).1.graph.nodes⟩,⟨3,Be (Bh x (l.take k)).1.workers⟩,⟨4,Dt (Bh x (l.take k)).1.links⟩,⟨5,C0 (Bh x (l.take k)).1.tokens⟩,⟨6,Ef (Bh x (l.take k)).1.news⟩])
  (fun k=>k≤l.length) (fun k=>l.length-k) 0 (Nat.zero_le _) ⟨by first|rfl|simp [Dl,ren2,ren1,ren0],trivial⟩ Dh ⟨by first|rfl|exact (congrArg (fun l=>Du _ _ l) (List.append_nil _)).symm|(show (_:A8)=_;simp)|simp,by first|rfl|exact (congrArg (fun l=>Du _ _ l) (List.append_nil _)).symm|(show (_:A8)=_;simp)|simp,by first|rfl|exact (congrArg (fun l=>Du _ _ l) (List.append_nil _)).symm|(show (_:A8)=_;simp)|simp,by first|rfl|exact (congrArg (fun l=>Du _ _ l) (List.append_nil _)).symm|(show (_:A8)=_;simp)|simp,by first|rfl|exact (congrArg (fun l=>Du _ _ l) (List.append_nil _)).symm|(show (_:A8)=_;simp)|simp,by first|rfl|exact (congrArg (fun l=>Du _ _ l) (List.append_nil _)).symm|(show (_:A8)=_;simp)|simp,trivial⟩ D0 Aa (fun k hk=>?_)
 conv=>whnf
 conv=>whnf
 refine G5 (fun hlt=>?_) fun hlt=>?_<;>conv=>whnf
 ·have hlt:k<l.length:=by omega
  have hw:=B47 (c:=x) (l:=l.take k)
  have hn:=A42 (c:=x) (l:=l.take k)
  have ht:(l.take k).length=k:=by rw [List.length_take];omega
  have hs:=B1e (c:=x) hlt
  (repeat refine Ar ?_)
  refine B4 (A08 (Bh x (l.take k)).1 (l.getD k default) Ac (A41 hgo)) rfl (Al ?_)
  refine Dp A0 rfl rfl rfl rfl rfl rfl rfl rfl rfl rfl rfl (Gm ((Bh x (l.take k)).2++[(Ag (Bh x (l.take k)).1 (l.getD k default)).2])) (Bf rfl) Kc Ac (Al ?_)
  (repeat refine Ar ?_)
  refine B5 [(2,10),(3,11),(4,12),(5,13),(6,14),(8,17)] (k+1) Ac Ac ⟨rfl,trivial⟩ ⟨congrArg Gm (by rw [hs];rfl),congrArg (fun s:A3×List Bool=>Bp s.1.graph.nodes) hs.symm,congrArg (fun s:A3×List Bool=>Be s.1.workers) hs.symm,congrArg (fun s:A3×List Bool=>Dt s.1.links) hs.symm,congrArg (fun s:A3×List Bool=>C0 s.1.tokens) hs.symm,congrArg (fun s:A3×List Bool=>Ef s.1.news) hs.symm,trivial⟩ (by rw [hs];repeat' (first|exact trivial|exact rfl|refine ⟨?_,?_⟩)) Aa D0 Aa
 ·obtain rfl:k=l.length:=by omega
  rw [List.take_length]
  refine Ao A0 rfl rfl ?_
  exact Ca
theorem Vk {l:List Bool}{k:Nat}(hk:k<l.length):((l.take (k+1)).filter id).length=((l.take k).filter id).length+if l.getD k default=true then 1 else 0:=by
 rw [Ez id l k hk,List.length_append]
 simp only [id]
 split<;>rfl
set_option maxHeartbeats 8000000 in
theorem Y0 (x:A3)(h:x.w≤7000000)(hgo:J9 x):B0 Tryz.prog 63 [.agg x.c] [.agg (Ba x).1.c,.one (vi (Ba x).2)]:=by
 have hal:=H0 x
 have hrl:=A42 (c:=x) (l:=Gz (Co x))
 have hF:Ba x=((Bh x (Gz (Co x))).1,((Bh x (Gz (Co x))).2.filter id).length):=rfl
 refine Ay A0 false Tryz.func63 rfl Bu fun W=>?_
 conv=>whnf
 refine Jc rfl ?_
 refine Do (s':=?_) 0 rfl Aa ?_ ?_
 rotate_left
 refine go A0 false ?_
 conv=>whnf
 (repeat refine Ar ?_)
 exact Bd
 refine Do (s':=?_) 1 rfl Aa ?_ ?_
 rotate_left
 refine go A0 false ?_
 conv=>whnf
 (repeat refine Ar ?_)
 exact Bd
 refine Cm [2,7] Aa ⟨?_,?_,trivial⟩
 focus
  refine go A0 false ?_
  conv=>whnf
  refine B4 (Rw x) rfl (Al ?_)
  refine Cu ?_
  refine Cm [3,7] Aa ⟨?_,?_,trivial⟩
  focus
   refine go A0 false ?_
   conv=>whnf
   refine B4 (Nh x (Gz (Co x)) Ac hgo) rfl (Al ?_)
   refine Cu ?_
   refine Ct A0 false 4 rfl rfl Aa rfl (Af F3) ?_
   refine Kj (s':=?_) 5 rfl Aa ?_ ?_
   rotate_left
   refine go A0 false ?_
   conv=>whnf
   (repeat refine Ar ?_)
   exact Bd
   refine Kj (s':=?_) 6 rfl Aa ?_ ?_
   rotate_left
   refine go A0 false ?_
   conv=>whnf
   (repeat refine Ar ?_)
   exact Bd
   refine Cm [7] Aa ⟨?_,trivial⟩
   refine go A0 false ?_
   conv=>whnf
   (repeat refine Ar ?_)
   refine Cu ?_
   refine Cm [8] Aa ⟨?_,trivial⟩
   refine go A0 false ?_
   conv=>whnf
   (repeat refine Ar ?_)
   refine Cu ?_
   refine Ct A0 false 9 rfl rfl Aa rfl (Af F3) ?_
   refine Hu Aa (Al ?_)
  rotate_left 1
  focus
   refine go A0 false ?_
   conv=>whnf
   (repeat refine Ar ?_)
   refine Cu ?_
   refine Cm [3] Aa ⟨?_,trivial⟩
   refine go A0 false ?_
   conv=>whnf
   refine B4 (Nh x (Gz (Co x)) Ac hgo) rfl (Al ?_)
   refine Cu ?_
   refine Ct A0 false 4 rfl rfl Aa rfl (Af F3) ?_
   refine Kj (s':=?_) 5 rfl Aa ?_ ?_
   rotate_left
   refine go A0 false ?_
   conv=>whnf
   (repeat refine Ar ?_)
   exact Bd
   refine Kj (s':=?_) 6 rfl Aa ?_ ?_
   rotate_left
   refine go A0 false ?_
   conv=>whnf
   (repeat refine Ar ?_)
   exact Bd
   refine Cm [8] Aa ⟨?_,trivial⟩
   refine go A0 false ?_
   conv=>whnf
   (repeat refine Ar ?_)
   refine Cu ?_
   refine Ct A0 false 9 rfl rfl Aa rfl (Af F3) ?_
   refine Hu Aa (Al ?_)
 rotate_left 2
 focus
  refine go A0 false ?_
  conv=>whnf
  (repeat refine Ar ?_)
  refine Cu ?_
  refine Cm [2] Aa ⟨?_,trivial⟩
  refine go A0 false ?_
  conv=>whnf
  refine B4 (Rw x) rfl (Al ?_)
  refine Cu ?_
  refine Cm [3] Aa ⟨?_,trivial⟩
  refine go A0 false ?_
  conv=>whnf
  refine B4 (Nh x (Gz (Co x)) Ac hgo) rfl (Al ?_)
  refine Cu ?_
  refine Ct A0 false 4 rfl rfl Aa rfl (Af F3) ?_
  refine Kj (s':=?_) 5 rfl Aa ?_ ?_
  rotate_left
  refine go A0 false ?_
  conv=>whnf
  (repeat refine Ar ?_)
  exact Bd
  refine Kj (s':=?_) 6 rfl Aa ?_ ?_
  rotate_left
  refine go A0 false ?_
  conv=>whnf
  (repeat refine Ar ?_)
  exact Bd
  refine Cm [8] Aa ⟨?_,trivial⟩
  refine go A0 false ?_
  conv=>whnf
  (repeat refine Ar ?_)
  refine Cu ?_
  refine Ct A0 false 9 rfl rfl Aa rfl (Af F3) ?_
  refine Hu Aa (Al ?_)
 all_goals generalize Bh x (Gz (Co x))=R at *
 ·refine Bw A0 false [8] (fun k:Nat=>[(18,.c (vi k)),(6,.c (vi ((R.2.take k).filter id).length))]) (fun k=>[⟨2,[.own 4,.c (vi R.1.graph.workers),.c (vi R.1.graph.cap),.own 5,.own 6,.own 7,.own 8]⟩,⟨1,[.c (.val (.slice none 0 0)),.c (vi 0),.c (vi 0),.c (.val (.slice none 0 0)),.c (.val (.slice none 0 0)),.c (.val (.slice none 0 0)),.c (.val (.slice none 0 0))]⟩]) (fun k=>[⟨9,Gm R.2⟩,⟨4,Bp R.1.graph.nodes⟩,⟨5,Be R.1.workers⟩,⟨6,Dt R.1.links⟩,⟨7,C0 R.1.tokens⟩,⟨8,Ef R.1.news⟩])
   (fun k=>k≤R.2.length) (fun k=>R.2.length-k) 0 (Nat.zero_le _) ⟨by first|rfl|simp [Dl,ren2,ren1,ren0],by first|rfl|simp [Dl,ren2,ren1,ren0],trivial⟩ Dh ⟨by first|rfl|exact (congrArg (fun l=>Du _ _ l) (List.append_nil _)).symm|(show (_:A8)=_;simp)|simp,by first|rfl|exact (congrArg (fun l=>Du _ _ l) (List.append_nil _)).symm|(show (_:A8)=_;simp)|simp,by first|rfl|exact (congrArg (fun l=>Du _ _ l) (List.append_nil _)).symm|(show (_:A8)=_;simp)|simp,by first|rfl|exact (congrArg (fun l=>Du _ _ l) (List.append_nil _)).symm|(show (_:A8)=_;simp)|simp,by first|rfl|exact (congrArg (fun l=>Du _ _ l) (List.append_nil _)).symm|(show (_:A8)=_;simp)|simp,by first|rfl|exact (congrArg (fun l=>Du _ _ l) (List.append_nil _)).symm|(show (_:A8)=_;simp)|simp,trivial⟩ D0 Aa (fun k hk=>?_)
  conv=>whnf
  conv=>whnf
  refine G5 (fun hlt=>?_) fun hlt=>?_<;>conv=>whnf
  ·have hlt:k<R.2.length:=by omega
   have hc:=Vk hlt
   have hle:((R.2.take k).filter id).length≤k:=Nat.le_trans (List.length_filter_le _ _) (by rw [List.length_take];omega)
   (repeat refine Ar ?_)
   refine ⟨fun hb=>?_,fun hb=>?_⟩<;>conv=>whnf
   ·rw [Int.toNat_natCast] at hb
    rw [if_pos hb] at hc
    (repeat refine Ar ?_)
    refine B5 [] (k+1) Ac Ac ⟨rfl,congrArg (fun n:Nat=>AV.c (vi (n:Int))) hc.symm,trivial⟩ ⟨rfl,rfl,rfl,rfl,rfl,rfl,trivial⟩ Dh Aa D0 Aa
   ·rw [Int.toNat_natCast] at hb
    rw [if_neg (by rw [hb];decide)] at hc
    (repeat refine Ar ?_)
    refine B5 [] (k+1) Ac Ac ⟨rfl,congrArg (fun n:Nat=>AV.c (vi (n:Int))) hc.symm,trivial⟩ ⟨rfl,rfl,rfl,rfl,rfl,rfl,trivial⟩ Dh Aa D0 Aa
  ·obtain rfl:k=R.2.length:=by omega
   rw [hF,List.take_length]
   refine Ao A0 rfl rfl ?_
   exact Ca
 ·refine Bw A0 false [8] (fun k:Nat=>[(18,.c (vi k)),(6,.c (vi ((R.2.take k).filter id).length))]) (fun k=>[⟨3,[.own 4,.c (vi R.1.graph.workers),.c (vi R.1.graph.cap),.own 5,.own 6,.own 7,.own 8]⟩,⟨1,[.c (.val (.slice none 0 0)),.c (vi 0),.c (vi 0),.c (.val (.slice none 0 0)),.c (.val (.slice none 0 0)),.c (.val (.slice none 0 0)),.c (.val (.slice none 0 0))]⟩]) (fun k=>[⟨9,Gm R.2⟩,⟨4,Bp R.1.graph.nodes⟩,⟨5,Be R.1.workers⟩,⟨6,Dt R.1.links⟩,⟨7,C0 R.1.tokens⟩,⟨8,Ef R.1.news⟩])
   (fun k=>k≤R.2.length) (fun k=>R.2.length-k) 0 (Nat.zero_le _) ⟨by first|rfl|simp [Dl,ren2,ren1,ren0],by first|rfl|simp [Dl,ren2,ren1,ren0],trivial⟩ Dh ⟨by first|rfl|exact (congrArg (fun l=>Du _ _ l) (List.append_nil _)).symm|(show (_:A8)=_;simp)|simp,by first|rfl|exact (congrArg (fun l=>Du _ _ l) (List.append_nil _)).symm|(show (_:A8)=_;simp)|simp,by first|rfl|exact (congrArg (fun l=>Du _ _ l) (List.append_nil _)).symm|(show (_:A8)=_;simp)|simp,by first|rfl|exact (congrArg (fun l=>Du _ _ l) (List.append_nil _)).symm|(show (_:A8)=_;simp)|simp,by first|rfl|exact (congrArg (fun l=>Du _ _ l) (List.append_nil _)).symm|(show (_:A8)=_;simp)|simp,by first|rfl|exact (congrArg (fun l=>Du _ _ l) (List.append_nil _)).symm|(show (_:A8)=_;simp)|simp,trivial⟩ D0 Aa (fun k hk=>?_)
  conv=>whnf
  conv=>whnf
  refine G5 (fun hlt=>?_) fun hlt=>?_<;>conv=>whnf
  ·have hlt:k<R.2.length:=by omega
   have hc:=Vk hlt
   have hle:((R.2.take k).filter id).length≤k:=Nat.le_trans (List.length_filter_le _ _) (by rw [List.length_take];omega)
   (repeat refine Ar ?_)
   refine ⟨fun hb=>?_,fun hb=>?_⟩<;>conv=>whnf
   ·rw [Int.toNat_natCast] at hb
    rw [if_pos hb] at hc
    (repeat refine Ar ?_)
    refine B5 [] (k+1) Ac Ac ⟨rfl,congrArg (fun n:Nat=>AV.c (vi (n:Int))) hc.symm,trivial⟩ ⟨rfl,rfl,rfl,rfl,rfl,rfl,trivial⟩ Dh Aa D0 Aa
   ·rw [Int.toNat_natCast] at hb
    rw [if_neg (by rw [hb];decide)] at hc
    (repeat refine Ar ?_)
    refine B5 [] (k+1) Ac Ac ⟨rfl,congrArg (fun n:Nat=>AV.c (vi (n:Int))) hc.symm,trivial⟩ ⟨rfl,rfl,rfl,rfl,rfl,rfl,trivial⟩ Dh Aa D0 Aa
  ·obtain rfl:k=R.2.length:=by omega
   rw [hF,List.take_length]
   refine Ao A0 rfl rfl ?_
   exact Ca
 ·refine Bw A0 false [8] (fun k:Nat=>[(18,.c (vi k)),(6,.c (vi ((R.2.take k).filter id).length))]) (fun k=>[⟨9,[.own 3,.c (vi R.1.graph.workers),.c (vi R.1.graph.cap),.own 4,.own 5,.own 6,.own 7]⟩,⟨1,[.c (.val (.slice none 0 0)),.c (vi 0),.c (vi 0),.c (.val (.slice none 0 0)),.c (.val (.slice none 0 0)),.c (.val (.slice none 0 0)),.c (.val (.slice none 0 0))]⟩]) (fun k=>[⟨8,Gm R.2⟩,⟨3,Bp R.1.graph.nodes⟩,⟨4,Be R.1.workers⟩,⟨5,Dt R.1.links⟩,⟨6,C0 R.1.tokens⟩,⟨7,Ef R.1.news⟩])
   (fun k=>k≤R.2.length) (fun k=>R.2.length-k) 0 (Nat.zero_le _) ⟨by first|rfl|simp [Dl,ren2,ren1,ren0],by first|rfl|simp [Dl,ren2,ren1,ren0],trivial⟩ Dh ⟨by first|rfl|exact (congrArg (fun l=>Du _ _ l) (List.append_nil _)).symm|(show (_:A8)=_;simp)|simp,by first|rfl|exact (congrArg (fun l=>Du _ _ l) (List.append_nil _)).symm|(show (_:A8)=_;simp)|simp,by first|rfl|exact (congrArg (fun l=>Du _ _ l) (List.append_nil _)).symm|(show (_:A8)=_;simp)|simp,by first|rfl|exact (congrArg (fun l=>Du _ _ l) (List.append_nil _)).symm|(show (_:A8)=_;simp)|simp,by first|rfl|exact (congrArg (fun l=>Du _ _ l) (List.append_nil _)).symm|(show (_:A8)=_;simp)|simp,by first|rfl|exact (congrArg (fun l=>Du _ _ l) (List.append_nil _)).symm|(show (_:A8)=_;simp)|simp,trivial⟩ D0 Aa (fun k hk=>?_)
  conv=>whnf
  conv=>whnf
  refine G5 (fun hlt=>?_) fun hlt=>?_<;>conv=>whnf
  ·have hlt:k<R.2.length:=by omega
   have hc:=Vk hlt
   have hle:((R.2.take k).filter id).length≤k:=Nat.le_trans (List.length_filter_le _ _) (by rw [List.length_take];omega)
   (repeat refine Ar ?_)
   refine ⟨fun hb=>?_,fun hb=>?_⟩<;>conv=>whnf
   ·rw [Int.toNat_natCast] at hb
    rw [if_pos hb] at hc
    (repeat refine Ar ?_)
    refine B5 [] (k+1) Ac Ac ⟨rfl,congrArg (fun n:Nat=>AV.c (vi (n:Int))) hc.symm,trivial⟩ ⟨rfl,rfl,rfl,rfl,rfl,rfl,trivial⟩ Dh Aa D0 Aa
   ·rw [Int.toNat_natCast] at hb
    rw [if_neg (by rw [hb];decide)] at hc
    (repeat refine Ar ?_)
    refine B5 [] (k+1) Ac Ac ⟨rfl,congrArg (fun n:Nat=>AV.c (vi (n:Int))) hc.symm,trivial⟩ ⟨rfl,rfl,rfl,rfl,rfl,rfl,trivial⟩ Dh Aa D0 Aa
  ·obtain rfl:k=R.2.length:=by omega
   rw [hF,List.take_length]
   refine Ao A0 rfl rfl ?_
   exact Ca
set_option maxHeartbeats 8000000 in
theorem A3o (x:A3)(most:Int)(h:x.w≤6000000)(hgo:J9 x):B0 Tryz.prog 9 [.agg x.c,.one (vi most)] [.agg (Di (En most 0 3000).toNat x).1.c,.one (vi (Di (En most 0 3000).toNat x).2)]:=by
 have hb:=Jq most 0 3000 Bu
 obtain ⟨n,hn⟩:∃n:Nat,En most 0 3000=n:=⟨(En most 0 3000).toNat,by omega⟩
 rw [hn,Int.toNat_natCast]
 refine Ay A0 false Tryz.func9 rfl Bu fun W=>?_
 conv=>whnf
 refine B4 (Dz x Ac) rfl (Al ?_)
 refine Bw A0 false [11] (fun k:Nat=>[(7,.c (vi k))]) (fun k=>[⟨7,[.own 2,.c (vi (frN x k).graph.workers),.c (vi (frN x k).graph.cap),.own 3,.own 4,.own 5,.own 6]⟩,⟨1,[.c (.val (.slice none 0 0)),.c (vi 0),.c (vi 0),.c (.val (.slice none 0 0)),.c (.val (.slice none 0 0)),.c (.val (.slice none 0 0)),.c (.val (.slice none 0 0))]⟩]) (fun k=>[⟨2,Bp (frN x k).graph.nodes⟩,⟨3,Be (frN x k).workers⟩,⟨4,Dt (frN x k).links⟩,⟨5,C0 (frN x k).tokens⟩,⟨6,Ef (frN x k).news⟩])
  (fun k=>k≤n∧∀i,i<k→(Ba (frN x i)).2≠0) (fun k=>n-k) 0 ⟨Nat.zero_le _,by first|rfl|assumption|simp⟩ ⟨by first|rfl|simp [Dl,ren2,ren1,ren0],trivial⟩ Dh ⟨by first|rfl|exact (congrArg (fun l=>Du _ _ l) (List.append_nil _)).symm|(show (_:A8)=_;simp)|simp,by first|rfl|exact (congrArg (fun l=>Du _ _ l) (List.append_nil _)).symm|(show (_:A8)=_;simp)|simp,by first|rfl|exact (congrArg (fun l=>Du _ _ l) (List.append_nil _)).symm|(show (_:A8)=_;simp)|simp,by first|rfl|exact (congrArg (fun l=>Du _ _ l) (List.append_nil _)).symm|(show (_:A8)=_;simp)|simp,by first|rfl|exact (congrArg (fun l=>Du _ _ l) (List.append_nil _)).symm|(show (_:A8)=_;simp)|simp,trivial⟩ D0 Aa (fun k hk=>?_)
 obtain ⟨hk,he⟩:=hk
 conv=>whnf
 conv=>whnf
 refine Aw (Oo most 0 3000) rfl (Al ?_)
 rw [hn]
 refine G5 (fun hlt=>?_) fun hlt=>?_<;>conv=>whnf
 ·have hlt:k<n:=by omega
  have hw:=B9g x k
  refine B4 (Y0 (frN x k) Ac (B6f hgo k)) rfl (Al ?_)
  (repeat refine Ar ?_)
  refine ⟨fun h0=>have h0:=eq_of_beq h0;?_,fun h0=>have h0:=beq_eq_false_iff_ne.1 h0;?_⟩<;>conv=>whnf
  ·have h0:(Ba (frN x k)).2=0:=by omega
   rw [N7 hlt he h0]
   refine Ao A0 rfl rfl ?_
   exact Ca
  ·have h0:(Ba (frN x k)).2≠0:=by omega
   refine B5 [(2,8),(3,9),(4,10),(5,11),(6,12)] (k+1) ⟨by omega,fun i hi=>(Nat.lt_succ_iff_lt_or_eq.1 hi).elim (fun h4=>he i h4) (fun h4=>by subst h4;exact h0)⟩ Ac ⟨rfl,trivial⟩ ⟨rfl,rfl,rfl,rfl,rfl,trivial⟩ Dh Aa D0 Aa
 ·obtain rfl:k=n:=by omega
  rw [Rq he]
  refine Ao A0 rfl rfl ?_
  exact Ca
theorem Oy (k:Nat):K9 .i64 ([1,1,1,2,3,3,3,4,4,5,6,6,7].getD k 0):=
 A3f (p:=fun w=>K9 .i64 w) _ k 0 (fun x hx=>by simp only [List.mem_cons,List.not_mem_nil,or_false] at hx;show _∧_;omega) ⟨by decide,by decide⟩
theorem Uk (n:Int):K9 .i64 (n.tmod 3):=by
 show _∧_
 have h1:=Int.tmod_lt_of_pos n (show (0:Int)<3 by decide)
 have h2:=Int.lt_tmod_of_pos n (show (0:Int)<3 by decide)
 omega
theorem B2x (d:I9)(i h:Int)(hi:0≤i∧i≤d.n):Iv Tryz.prog HT 104 d.pins (d.cur i h) [] (fun r:Int×Int×Bl=>(0≤r.1∧r.1≤d.n)∧r.2.2.ok) (fun r=>d.cur r.1 r.2.1) (fun r=>[.agg r.2.2.c]):=by
 refine Ol A0 false Tryz.func104 rfl Bu fun B b hH hp=>?_
 conv=>whnf
 refine O2 2 (F1 [1,1,1,2,3,3,3,4,4,5,6,6,7]) rfl (Db rfl Dh) ?_
 refine Fg (A57 d i h [1,1,1,2,3,3,3,4,4,5,6,6,7] hi Bu) hH hp rfl Ca rfl rfl (fun r hr=>go A0 false ?_)
 conv=>whnf
 refine Fg (E5 d r.1 r.2.1 3 hr.1 Bu) hH hp rfl Ca rfl rfl (fun r2 hr2=>go A0 false ?_)
 conv=>whnf
 refine ⟨fun c1=>?_,fun c1=>?_⟩<;>conv=>whnf
 ·repeat' (first|(refine Ms ?_;conv=>whnf)|(refine Mt ?_;conv=>whnf)|(refine ⟨fun h=>?_,fun h=>?_⟩<;>conv=>whnf)|(refine Kf ?_;conv=>whnf)|fail)
  refine A8a rfl ?_
  refine M7 A0 false 0 rfl rfl rfl Aa rfl (Af F3) ?_
  refine M7 A0 false 3 rfl rfl rfl Aa rfl (Af F3) ?_
  refine Aj [1,4] Aa ⟨?_,?_,trivial⟩
  focus
   refine go A0 false ?_
   conv=>whnf
   refine Ak ?_
   refine M7 A0 false 2 rfl rfl rfl Aa rfl (Af F3) ?_
   refine Aj [4] Aa ⟨?_,trivial⟩
   refine go A0 false ?_
   conv=>whnf
   refine Fg (E5 d r2.1 r2.2.1 2 hr2.1 Bu) hH hp rfl Ca rfl rfl (fun r3 hr3=>go A0 false ?_)
   conv=>whnf
   refine Ak ?_
   refine M7 A0 false 5 rfl rfl rfl Aa rfl (Af F3) ?_
   refine M7 A0 false 6 rfl rfl rfl Aa rfl (Af F3) ?_
   refine M7 A0 false 7 rfl rfl rfl Aa rfl (Af F3) ?_
   refine Aj [8] Aa ⟨?_,trivial⟩
   refine go A0 false ?_
   conv=>whnf
   refine Ak ?_
   refine Ed Aa (Al ?_)
  rotate_left 1
  focus
   refine go A0 false ?_
   conv=>whnf
   refine Fg (E5 d r2.1 r2.2.1 2 hr2.1 Bu) hH hp rfl Ca rfl rfl (fun r3 hr3=>go A0 false ?_)
   conv=>whnf
   refine Ak ?_
   refine Aj [1] Aa ⟨?_,trivial⟩
   refine go A0 false ?_
   conv=>whnf
   refine Ak ?_
   refine M7 A0 false 2 rfl rfl rfl Aa rfl (Af F3) ?_
   refine M7 A0 false 5 rfl rfl rfl Aa rfl (Af F3) ?_
   refine M7 A0 false 6 rfl rfl rfl Aa rfl (Af F3) ?_
   refine M7 A0 false 7 rfl rfl rfl Aa rfl (Af F3) ?_
   refine Aj [8] Aa ⟨?_,trivial⟩
   refine go A0 false ?_
   conv=>whnf
   refine Ak ?_
   refine Ed Aa (Al ?_)
  ·exact Kk A0 (r3.1,r3.2.1,⟨[1,1,1,2,3,3,3,4,4,5,6,6,7].getD r.2.2 0,r2.2.2,(r2.2.2+1+r3.2.2).tmod 3⟩) ⟨hr3.1,Oy _,⟨by show _≤r2.2.2;omega,by show r2.2.2≤_;omega⟩,Uk _⟩ rfl rfl rfl rfl Ca
  ·exact Kk A0 (r3.1,r3.2.1,⟨[1,1,1,2,3,3,3,4,4,5,6,6,7].getD r.2.2 0,r2.2.2,(r2.2.2+1+r3.2.2).tmod 3⟩) ⟨hr3.1,Oy _,⟨by show _≤r2.2.2;omega,by show r2.2.2≤_;omega⟩,Uk _⟩ rfl rfl rfl rfl Ca
 ·repeat' (first|(refine Ms ?_;conv=>whnf)|(refine Mt ?_;conv=>whnf)|(refine ⟨fun h=>?_,fun h=>?_⟩<;>conv=>whnf)|(refine Kf ?_;conv=>whnf)|fail)
  ·refine A8a rfl ?_
   refine M7 A0 false 0 rfl rfl rfl Aa rfl (Af F3) ?_
   refine M7 A0 false 3 rfl rfl rfl Aa rfl (Af F3) ?_
   refine Aj [1,4] Aa ⟨?_,?_,trivial⟩
   focus
    refine go A0 false ?_
    conv=>whnf
    refine Ak ?_
    refine M7 A0 false 2 rfl rfl rfl Aa rfl (Af F3) ?_
    refine Aj [4] Aa ⟨?_,trivial⟩
    refine go A0 false ?_
    conv=>whnf
    refine Fg (E5 d r2.1 r2.2.1 2 hr2.1 Bu) hH hp rfl Ca rfl rfl (fun r3 hr3=>go A0 false ?_)
    conv=>whnf
    refine Ak ?_
    refine M7 A0 false 5 rfl rfl rfl Aa rfl (Af F3) ?_
    refine M7 A0 false 6 rfl rfl rfl Aa rfl (Af F3) ?_
    refine M7 A0 false 7 rfl rfl rfl Aa rfl (Af F3) ?_
    refine Aj [8] Aa ⟨?_,trivial⟩
    refine go A0 false ?_
    conv=>whnf
    refine Ak ?_
    refine Ed Aa (Al ?_)
   rotate_left 1
   focus
    refine go A0 false ?_
    conv=>whnf
    refine Fg (E5 d r2.1 r2.2.1 2 hr2.1 Bu) hH hp rfl Ca rfl rfl (fun r3 hr3=>go A0 false ?_)
    conv=>whnf
    refine Ak ?_
    refine Aj [1] Aa ⟨?_,trivial⟩
    refine go A0 false ?_
    conv=>whnf
    refine Ak ?_
    refine M7 A0 false 2 rfl rfl rfl Aa rfl (Af F3) ?_
    refine M7 A0 false 5 rfl rfl rfl Aa rfl (Af F3) ?_
    refine M7 A0 false 6 rfl rfl rfl Aa rfl (Af F3) ?_
    refine M7 A0 false 7 rfl rfl rfl Aa rfl (Af F3) ?_
    refine Aj [8] Aa ⟨?_,trivial⟩
    refine go A0 false ?_
    conv=>whnf
    refine Ak ?_
    refine Ed Aa (Al ?_)
   ·exact Kk A0 (r3.1,r3.2.1,⟨[1,1,1,2,3,3,3,4,4,5,6,6,7].getD r.2.2 0,r2.2.2,(r2.2.2+1+r3.2.2).tmod 3⟩) ⟨hr3.1,Oy _,⟨by show _≤r2.2.2;omega,by show r2.2.2≤_;omega⟩,Uk _⟩ rfl rfl rfl rfl Ca
   ·exact Kk A0 (r3.1,r3.2.1,⟨[1,1,1,2,3,3,3,4,4,5,6,6,7].getD r.2.2 0,r2.2.2,(r2.2.2+1+r3.2.2).tmod 3⟩) ⟨hr3.1,Oy _,⟨by show _≤r2.2.2;omega,by show r2.2.2≤_;omega⟩,Uk _⟩ rfl rfl rfl rfl Ca
  ·exact Kk A0 (r2.1,r2.2.1,⟨[1,1,1,2,3,3,3,4,4,5,6,6,7].getD r.2.2 0,r2.2.2,0⟩) ⟨hr2.1,Oy _,⟨by show _≤r2.2.2;omega,by show r2.2.2≤_;omega⟩,⟨by show (-9223372036854775808:Int)≤0;decide,by show (0:Int)≤9223372036854775807;decide⟩⟩ rfl rfl rfl rfl Ca
theorem B2w (d:I9)(i h:Int)(hi:0≤i∧i≤d.n):Iv Tryz.prog HT 104 d.pins (d.cur i h) [] (fun r:Int×Int×Bl=>0≤r.1∧r.1≤d.n) (fun r=>d.cur r.1 r.2.1) (fun r=>[.agg r.2.2.c]):=(B2x d i h hi).weak fun _ h=>h.1
structure JPk where
 k:Nat
 i:Int
 h:Int
 xs:List Bl
theorem B2y (d:I9)(i h:Int)(m:Nat)(hm:m≤1000)(hi:0≤i∧i≤d.n):Iv Tryz.prog HT 53 d.pins (d.cur i h) [.one (vi m)] (fun r:Int×Int×List Bl=>(0≤r.1∧r.1≤d.n)∧r.2.2.length≤m) (fun r=>d.cur r.1 r.2.1) (fun r=>[.one (Fu r.2.2)]):=by
 refine Ol A0 false Tryz.func53 rfl Bu fun B b hH hp=>?_
 conv=>whnf
 refine G4 1 (Fu []) rfl (Db rfl Dh) ?_
 refine Bw A0 false [7] (fun j:JPk=>[(6,.c (vi j.k))]) (fun j=>[⟨0,[.c (.val d.v),.c (vi j.i),.c (vi j.h)]⟩]) (fun j=>[⟨1,Fu j.xs⟩]) (fun j=>(0≤j.i∧j.i≤d.n)∧j.k≤m∧j.xs.length=j.k) (fun j=>m-j.k) (⟨0,i,h,[]⟩) (⟨hi,Nat.zero_le _,rfl⟩) ⟨by first|rfl|simp [Dl,ren2,ren1,ren0],trivial⟩ Dh ⟨by first|rfl|exact (congrArg (fun l=>Du _ _ l) (List.append_nil _)).symm|(show (_:A8)=_;simp)|simp,trivial⟩ D0 Aa (fun j hj=>?_)
 conv=>whnf
 obtain ⟨hi,hk,hx⟩:=hj
 (repeat refine Ar ?_)
 refine Fg (E5 d j.i j.h (m+1) hi Ac) hH hp rfl Ca rfl rfl (fun r hr=>go A0 false ?_)
 conv=>whnf
 refine G5 (fun hlt=>?_) fun hlt=>?_<;>conv=>whnf
 ·have hlt2:(r.2.2:Int)<m+1:=hr.2.2.2 Ac
  refine Fg (B2w d r.1 r.2.1 hr.1) hH hp rfl Ca rfl rfl (fun r2 hr2=>go A0 false ?_)
  conv=>whnf
  refine Dp A0 rfl rfl rfl rfl rfl rfl rfl rfl rfl rfl rfl (Fu (j.xs++[r2.2.2])) (Bf rfl) Kc Ac (Al ?_)
  (repeat refine Ar ?_)
  refine B5 [(1,3)] (⟨j.k+1,r2.1,r2.2.1,j.xs++[r2.2.2]⟩) (⟨hr2,by show j.k+1≤m;omega,by simp [hx]⟩) (by show m-(j.k+1)<_;omega) ⟨rfl,trivial⟩ ⟨rfl,trivial⟩ Dh Aa D0 Aa
 ·exact Kk A0 (r.1,r.2.1,j.xs) ⟨hr.1,by show j.xs.length≤m;omega⟩ rfl rfl rfl rfl Ca
end Go.Proofs.YtonodkjaoalfjaaGreat
