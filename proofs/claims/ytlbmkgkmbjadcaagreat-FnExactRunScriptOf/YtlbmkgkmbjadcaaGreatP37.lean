/- Part 37 of the proof that each of the laws FnExactRunScriptOf, FnExactSpreadResult returns true for every input. No conditions. -/
import Derived.Test.YtlbmkgkmbjadcaaGreatP30
import Derived.Test.YtlbmkgkmbjadcaaGreatP33
import Derived.Test.YtlbmkgkmbjadcaaGreatP36
import Derived.Test.YtlbmkgkmbjadcaaGreatP28

set_option linter.unusedSimpArgs false
set_option linter.unusedVariables false
set_option maxRecDepth 100000
namespace Go.Proofs.YtlbmkgkmbjadcaaGreat
open Go.Sx
set_option maxHeartbeats 4000000 in
theorem A01 (x:A4)(p:Bo)(h:x.w≤8000000)(hgo:Jl x):Aq Tryz.prog 105 [.agg x.c,.agg p.c] [.agg (B3 x p).1.c,.one (vb (B3 x p).2)]:=by
 refine Aj A0 false Tryz.func105 rfl Bs fun W=>?_
 conv=>whnf
 refine ⟨fun k1=>have k1:=eq_of_beq k1;?_,fun k1=>have k1:=beq_eq_false_iff_ne.1 k1;?_⟩<;>conv=>whnf
 ·refine Av (A0y x p.a Ad hgo) rfl (Ae ?_)
  rw [B3,if_pos k1]
  refine Ah A0 rfl rfl ?_
  exact C1
 refine ⟨fun k2=>have k2:=eq_of_beq k2;?_,fun k2=>have k2:=beq_eq_false_iff_ne.1 k2;?_⟩<;>conv=>whnf
 ·refine Av (Yg x p.a Ad hgo) rfl (Ae ?_)
  rw [B3,if_neg k1,if_pos k2]
  refine Ah A0 rfl rfl ?_
  exact C1
 refine ⟨fun k3=>have k3:=eq_of_beq k3;?_,fun k3=>have k3:=beq_eq_false_iff_ne.1 k3;?_⟩<;>conv=>whnf
 ·refine Av (A0w x p.a h hgo) rfl (Ae ?_)
  rw [B3,if_neg k1,if_neg k2,if_pos k3]
  refine Ah A0 rfl rfl ?_
  exact C1
 refine ⟨fun k4=>have k4:=eq_of_beq k4;?_,fun k4=>have k4:=beq_eq_false_iff_ne.1 k4;?_⟩<;>conv=>whnf
 ·refine Av (A0x x p.a p.b h hgo) rfl (Ae ?_)
  rw [B3,if_neg k1,if_neg k2,if_neg k3,if_pos k4]
  refine Ah A0 rfl rfl ?_
  exact C1
 refine ⟨fun k5=>have k5:=eq_of_beq k5;?_,fun k5=>have k5:=beq_eq_false_iff_ne.1 k5;?_⟩<;>conv=>whnf
 ·refine Av (Wn x p.a p.b Ad hgo) rfl (Ae ?_)
  rw [B3,if_neg k1,if_neg k2,if_neg k3,if_neg k4,if_pos k5]
  refine Ah A0 rfl rfl ?_
  exact C1
 refine ⟨fun k6=>have k6:=eq_of_beq k6;?_,fun k6=>have k6:=beq_eq_false_iff_ne.1 k6;?_⟩<;>conv=>whnf
 ·refine Av (Yh x p.a Ad hgo) rfl (Ae ?_)
  rw [B3,if_neg k1,if_neg k2,if_neg k3,if_neg k4,if_neg k5,if_pos k6]
  refine Ah A0 rfl rfl ?_
  exact C1
 refine ⟨fun k7=>have k7:=eq_of_beq k7;?_,fun k7=>have k7:=beq_eq_false_iff_ne.1 k7;?_⟩<;>conv=>whnf
 ·refine Av (A0t x p.a Ad hgo) rfl (Ae ?_)
  rw [B3,if_neg k1,if_neg k2,if_neg k3,if_neg k4,if_neg k5,if_neg k6,if_pos k7]
  refine Ah A0 rfl rfl ?_
  exact C1
 refine Av (Ea x Ad) rfl (Ae ?_)
 rw [B3,if_neg k1,if_neg k2,if_neg k3,if_neg k4,if_neg k5,if_neg k6,if_neg k7]
 refine Ah A0 rfl rfl ?_
 exact C1
set_option maxHeartbeats 8000000 in
theorem Kz (x:A4)(l:List Bo)(h:x.w+4 * l.length≤8000000)(hgo:Jl x):Aq Tryz.prog 41 [.agg x.c,.one (D5 l)] [.agg (Bd x l).1.c,.one (Cx (Bd x l).2)]:=by
 refine Aj A0 false Tryz.func41 rfl Bs fun W=>?_
 conv=>whnf
 refine Av (Ea x Ad) rfl (Ae ?_)
 refine Wv 7 1 (fun i=>[vb (([]:List Bool).getD i default)]) rfl ?_
 refine B6 A0 false [13] (fun k:Nat=>[(16,.c (vi k))]) (fun k=>[⟨7,[.own 2,.c (vi (Bd x (l.take k)).1.graph.workers),.c (vi (Bd x (l.take k)).1.graph.cap),.own 3,.own 4,.own 5,.own 6]⟩,⟨1,[.c (.val (.slice none 0 0)),.c (vi 0),.c (vi 0),.c (.val (.slice none 0 0)),.c (.val (.slice none 0 0)),.c (.val (.slice none 0 0)),.c (.val (.slice none 0 0))]⟩]) (fun k=>[⟨8,Cx (Bd x (l.take k)).2⟩,⟨2,Bb (Bd x (l.take k)).1.graph.nodes⟩,⟨3,Ap (Bd x (l.take k)).1.workers⟩,⟨4,Bu (Bd x (l.take k)).1.links⟩,⟨5,Be (Bd x (l.take k)).1.tokens⟩,⟨6,C3 (Bd x (l.take k)).1.news⟩])
  (fun k=>k≤l.length) (fun k=>l.length-k) 0 (Nat.zero_le _) ⟨by first|rfl|simp [Cr,ren2,ren1,ren0],trivial⟩ Cp ⟨by first|rfl|exact (congrArg (fun l=>Cb _ _ l) (List.append_nil _)).symm|(show (_:Ab)=_;simp)|simp,by first|rfl|exact (congrArg (fun l=>Cb _ _ l) (List.append_nil _)).symm|(show (_:Ab)=_;simp)|simp,by first|rfl|exact (congrArg (fun l=>Cb _ _ l) (List.append_nil _)).symm|(show (_:Ab)=_;simp)|simp,by first|rfl|exact (congrArg (fun l=>Cb _ _ l) (List.append_nil _)).symm|(show (_:Ab)=_;simp)|simp,by first|rfl|exact (congrArg (fun l=>Cb _ _ l) (List.append_nil _)).symm|(show (_:Ab)=_;simp)|simp,by first|rfl|exact (congrArg (fun l=>Cb _ _ l) (List.append_nil _)).symm|(show (_:Ab)=_;simp)|simp,trivial⟩ Cc A5 (fun k hk=>?_)
 conv=>whnf
 conv=>whnf
 refine F2 (fun hlt=>?_) fun hlt=>?_<;>conv=>whnf
 ·have hlt:k<l.length:=by omega
  have hw:=Ra (c:=x) (l:=l.take k)
  have hn:=Pl (c:=x) (l:=l.take k)
  have ht:(l.take k).length=k:=by rw [List.length_take];omega
  have hs:=Tg (c:=x) hlt
  (repeat refine An ?_)
  refine Av (A01 (Bd x (l.take k)).1 (l.getD k default) Ad (Xg hgo)) rfl (Ae ?_)
  refine Bm A0 rfl rfl rfl rfl rfl rfl rfl rfl rfl rfl rfl (Cx ((Bd x (l.take k)).2++[(B3 (Bd x (l.take k)).1 (l.getD k default)).2])) (Bh rfl) Ef Ad (Ae ?_)
  (repeat refine An ?_)
  refine At [(2,10),(3,11),(4,12),(5,13),(6,14),(8,17)] (k+1) Ad Ad ⟨rfl,trivial⟩ ⟨congrArg Cx (by rw [hs];rfl),congrArg (fun s:A4×List Bool=>Bb s.1.graph.nodes) hs.symm,congrArg (fun s:A4×List Bool=>Ap s.1.workers) hs.symm,congrArg (fun s:A4×List Bool=>Bu s.1.links) hs.symm,congrArg (fun s:A4×List Bool=>Be s.1.tokens) hs.symm,congrArg (fun s:A4×List Bool=>C3 s.1.news) hs.symm,trivial⟩ (by rw [hs];repeat' (first|exact trivial|exact rfl|refine ⟨?_,?_⟩)) A5 Cc A5
 ·obtain rfl:k=l.length:=by omega
  rw [List.take_length]
  refine Ah A0 rfl rfl ?_
  exact C1
theorem Vr {l:List Bool}{k:Nat}(hk:k<l.length):((l.take (k+1)).filter id).length=((l.take k).filter id).length+if l.getD k default=true then 1 else 0:=by
 rw [Dv id l k hk,List.length_append]
 simp only [id]
 split<;>rfl
set_option maxHeartbeats 8000000 in
theorem Yd (x:A4)(h:x.w≤7000000)(hgo:Jl x):Aq Tryz.prog 107 [.agg x.c] [.agg (Cn x).1.c,.one (vi (Cn x).2)]:=by
 have hal:=Rg x
 have hrl:=Pl (c:=x) (l:=Lx (Ge x))
 have hF:Cn x=((Bd x (Lx (Ge x))).1,((Bd x (Lx (Ge x))).2.filter id).length):=rfl
 refine Aj A0 false Tryz.func107 rfl Bs fun W=>?_
 conv=>whnf
 refine Gl rfl ?_
 refine Cj (s':=?_) 0 rfl A5 ?_ ?_
 rotate_left
 refine go A0 false ?_
 conv=>whnf
 (repeat refine An ?_)
 exact Ax
 refine Cj (s':=?_) 1 rfl A5 ?_ ?_
 rotate_left
 refine go A0 false ?_
 conv=>whnf
 (repeat refine An ?_)
 exact Ax
 refine Cl [2,7] A5 ⟨?_,?_,trivial⟩
 focus
  refine go A0 false ?_
  conv=>whnf
  refine Av (Rx x) rfl (Ae ?_)
  refine Cw ?_
  refine Cl [3,7] A5 ⟨?_,?_,trivial⟩
  focus
   refine go A0 false ?_
   conv=>whnf
   refine Av (Kz x (Lx (Ge x)) Ad hgo) rfl (Ae ?_)
   refine Cw ?_
   refine Bk A0 false 4 rfl rfl A5 rfl (Af D7) ?_
   refine Kd (s':=?_) 5 rfl A5 ?_ ?_
   rotate_left
   refine go A0 false ?_
   conv=>whnf
   (repeat refine An ?_)
   exact Ax
   refine Kd (s':=?_) 6 rfl A5 ?_ ?_
   rotate_left
   refine go A0 false ?_
   conv=>whnf
   (repeat refine An ?_)
   exact Ax
   refine Cl [7] A5 ⟨?_,trivial⟩
   refine go A0 false ?_
   conv=>whnf
   (repeat refine An ?_)
   refine Cw ?_
   refine Cl [8] A5 ⟨?_,trivial⟩
   refine go A0 false ?_
   conv=>whnf
   (repeat refine An ?_)
   refine Cw ?_
   refine Bk A0 false 9 rfl rfl A5 rfl (Af D7) ?_
   refine Hh A5 (Ae ?_)
  rotate_left 1
  focus
   refine go A0 false ?_
   conv=>whnf
   (repeat refine An ?_)
   refine Cw ?_
   refine Cl [3] A5 ⟨?_,trivial⟩
   refine go A0 false ?_
   conv=>whnf
   refine Av (Kz x (Lx (Ge x)) Ad hgo) rfl (Ae ?_)
   refine Cw ?_
   refine Bk A0 false 4 rfl rfl A5 rfl (Af D7) ?_
   refine Kd (s':=?_) 5 rfl A5 ?_ ?_
   rotate_left
   refine go A0 false ?_
   conv=>whnf
   (repeat refine An ?_)
   exact Ax
   refine Kd (s':=?_) 6 rfl A5 ?_ ?_
   rotate_left
   refine go A0 false ?_
   conv=>whnf
   (repeat refine An ?_)
   exact Ax
   refine Cl [8] A5 ⟨?_,trivial⟩
   refine go A0 false ?_
   conv=>whnf
   (repeat refine An ?_)
   refine Cw ?_
   refine Bk A0 false 9 rfl rfl A5 rfl (Af D7) ?_
   refine Hh A5 (Ae ?_)
 rotate_left 2
 focus
  refine go A0 false ?_
  conv=>whnf
  (repeat refine An ?_)
  refine Cw ?_
  refine Cl [2] A5 ⟨?_,trivial⟩
  refine go A0 false ?_
  conv=>whnf
  refine Av (Rx x) rfl (Ae ?_)
  refine Cw ?_
  refine Cl [3] A5 ⟨?_,trivial⟩
  refine go A0 false ?_
  conv=>whnf
  refine Av (Kz x (Lx (Ge x)) Ad hgo) rfl (Ae ?_)
  refine Cw ?_
  refine Bk A0 false 4 rfl rfl A5 rfl (Af D7) ?_
  refine Kd (s':=?_) 5 rfl A5 ?_ ?_
  rotate_left
  refine go A0 false ?_
  conv=>whnf
  (repeat refine An ?_)
  exact Ax
  refine Kd (s':=?_) 6 rfl A5 ?_ ?_
  rotate_left
  refine go A0 false ?_
  conv=>whnf
  (repeat refine An ?_)
  exact Ax
  refine Cl [8] A5 ⟨?_,trivial⟩
  refine go A0 false ?_
  conv=>whnf
  (repeat refine An ?_)
  refine Cw ?_
  refine Bk A0 false 9 rfl rfl A5 rfl (Af D7) ?_
  refine Hh A5 (Ae ?_)
 all_goals generalize Bd x (Lx (Ge x))=R at *
 ·refine B6 A0 false [8] (fun k:Nat=>[(18,.c (vi k)),(6,.c (vi ((R.2.take k).filter id).length))]) (fun k=>[⟨2,[.own 4,.c (vi R.1.graph.workers),.c (vi R.1.graph.cap),.own 5,.own 6,.own 7,.own 8]⟩,⟨1,[.c (.val (.slice none 0 0)),.c (vi 0),.c (vi 0),.c (.val (.slice none 0 0)),.c (.val (.slice none 0 0)),.c (.val (.slice none 0 0)),.c (.val (.slice none 0 0))]⟩]) (fun k=>[⟨9,Cx R.2⟩,⟨4,Bb R.1.graph.nodes⟩,⟨5,Ap R.1.workers⟩,⟨6,Bu R.1.links⟩,⟨7,Be R.1.tokens⟩,⟨8,C3 R.1.news⟩])
   (fun k=>k≤R.2.length) (fun k=>R.2.length-k) 0 (Nat.zero_le _) ⟨by first|rfl|simp [Cr,ren2,ren1,ren0],by first|rfl|simp [Cr,ren2,ren1,ren0],trivial⟩ Cp ⟨by first|rfl|exact (congrArg (fun l=>Cb _ _ l) (List.append_nil _)).symm|(show (_:Ab)=_;simp)|simp,by first|rfl|exact (congrArg (fun l=>Cb _ _ l) (List.append_nil _)).symm|(show (_:Ab)=_;simp)|simp,by first|rfl|exact (congrArg (fun l=>Cb _ _ l) (List.append_nil _)).symm|(show (_:Ab)=_;simp)|simp,by first|rfl|exact (congrArg (fun l=>Cb _ _ l) (List.append_nil _)).symm|(show (_:Ab)=_;simp)|simp,by first|rfl|exact (congrArg (fun l=>Cb _ _ l) (List.append_nil _)).symm|(show (_:Ab)=_;simp)|simp,by first|rfl|exact (congrArg (fun l=>Cb _ _ l) (List.append_nil _)).symm|(show (_:Ab)=_;simp)|simp,trivial⟩ Cc A5 (fun k hk=>?_)
  conv=>whnf
  conv=>whnf
  refine F2 (fun hlt=>?_) fun hlt=>?_<;>conv=>whnf
  ·have hlt:k<R.2.length:=by omega
   have hc:=Vr hlt
   have hle:((R.2.take k).filter id).length≤k:=Nat.le_trans (List.length_filter_le _ _) (by rw [List.length_take];omega)
   (repeat refine An ?_)
   refine ⟨fun hb=>?_,fun hb=>?_⟩<;>conv=>whnf
   ·rw [Int.toNat_natCast] at hb
    rw [if_pos hb] at hc
    (repeat refine An ?_)
    refine At [] (k+1) Ad Ad ⟨rfl,congrArg (fun n:Nat=>AV.c (vi (n:Int))) hc.symm,trivial⟩ ⟨rfl,rfl,rfl,rfl,rfl,rfl,trivial⟩ Cp A5 Cc A5
   ·rw [Int.toNat_natCast] at hb
    rw [if_neg (by rw [hb];decide)] at hc
    (repeat refine An ?_)
    refine At [] (k+1) Ad Ad ⟨rfl,congrArg (fun n:Nat=>AV.c (vi (n:Int))) hc.symm,trivial⟩ ⟨rfl,rfl,rfl,rfl,rfl,rfl,trivial⟩ Cp A5 Cc A5
  ·obtain rfl:k=R.2.length:=by omega
   rw [hF,List.take_length]
   refine Ah A0 rfl rfl ?_
   exact C1
 ·refine B6 A0 false [8] (fun k:Nat=>[(18,.c (vi k)),(6,.c (vi ((R.2.take k).filter id).length))]) (fun k=>[⟨3,[.own 4,.c (vi R.1.graph.workers),.c (vi R.1.graph.cap),.own 5,.own 6,.own 7,.own 8]⟩,⟨1,[.c (.val (.slice none 0 0)),.c (vi 0),.c (vi 0),.c (.val (.slice none 0 0)),.c (.val (.slice none 0 0)),.c (.val (.slice none 0 0)),.c (.val (.slice none 0 0))]⟩]) (fun k=>[⟨9,Cx R.2⟩,⟨4,Bb R.1.graph.nodes⟩,⟨5,Ap R.1.workers⟩,⟨6,Bu R.1.links⟩,⟨7,Be R.1.tokens⟩,⟨8,C3 R.1.news⟩])
   (fun k=>k≤R.2.length) (fun k=>R.2.length-k) 0 (Nat.zero_le _) ⟨by first|rfl|simp [Cr,ren2,ren1,ren0],by first|rfl|simp [Cr,ren2,ren1,ren0],trivial⟩ Cp ⟨by first|rfl|exact (congrArg (fun l=>Cb _ _ l) (List.append_nil _)).symm|(show (_:Ab)=_;simp)|simp,by first|rfl|exact (congrArg (fun l=>Cb _ _ l) (List.append_nil _)).symm|(show (_:Ab)=_;simp)|simp,by first|rfl|exact (congrArg (fun l=>Cb _ _ l) (List.append_nil _)).symm|(show (_:Ab)=_;simp)|simp,by first|rfl|exact (congrArg (fun l=>Cb _ _ l) (List.append_nil _)).symm|(show (_:Ab)=_;simp)|simp,by first|rfl|exact (congrArg (fun l=>Cb _ _ l) (List.append_nil _)).symm|(show (_:Ab)=_;simp)|simp,by first|rfl|exact (congrArg (fun l=>Cb _ _ l) (List.append_nil _)).symm|(show (_:Ab)=_;simp)|simp,trivial⟩ Cc A5 (fun k hk=>?_)
  conv=>whnf
  conv=>whnf
  refine F2 (fun hlt=>?_) fun hlt=>?_<;>conv=>whnf
  ·have hlt:k<R.2.length:=by omega
   have hc:=Vr hlt
   have hle:((R.2.take k).filter id).length≤k:=Nat.le_trans (List.length_filter_le _ _) (by rw [List.length_take];omega)
   (repeat refine An ?_)
   refine ⟨fun hb=>?_,fun hb=>?_⟩<;>conv=>whnf
   ·rw [Int.toNat_natCast] at hb
    rw [if_pos hb] at hc
    (repeat refine An ?_)
    refine At [] (k+1) Ad Ad ⟨rfl,congrArg (fun n:Nat=>AV.c (vi (n:Int))) hc.symm,trivial⟩ ⟨rfl,rfl,rfl,rfl,rfl,rfl,trivial⟩ Cp A5 Cc A5
   ·rw [Int.toNat_natCast] at hb
    rw [if_neg (by rw [hb];decide)] at hc
    (repeat refine An ?_)
    refine At [] (k+1) Ad Ad ⟨rfl,congrArg (fun n:Nat=>AV.c (vi (n:Int))) hc.symm,trivial⟩ ⟨rfl,rfl,rfl,rfl,rfl,rfl,trivial⟩ Cp A5 Cc A5
  ·obtain rfl:k=R.2.length:=by omega
   rw [hF,List.take_length]
   refine Ah A0 rfl rfl ?_
   exact C1
 ·refine B6 A0 false [8] (fun k:Nat=>[(18,.c (vi k)),(6,.c (vi ((R.2.take k).filter id).length))]) (fun k=>[⟨9,[.own 3,.c (vi R.1.graph.workers),.c (vi R.1.graph.cap),.own 4,.own 5,.own 6,.own 7]⟩,⟨1,[.c (.val (.slice none 0 0)),.c (vi 0),.c (vi 0),.c (.val (.slice none 0 0)),.c (.val (.slice none 0 0)),.c (.val (.slice none 0 0)),.c (.val (.slice none 0 0))]⟩]) (fun k=>[⟨8,Cx R.2⟩,⟨3,Bb R.1.graph.nodes⟩,⟨4,Ap R.1.workers⟩,⟨5,Bu R.1.links⟩,⟨6,Be R.1.tokens⟩,⟨7,C3 R.1.news⟩])
   (fun k=>k≤R.2.length) (fun k=>R.2.length-k) 0 (Nat.zero_le _) ⟨by first|rfl|simp [Cr,ren2,ren1,ren0],by first|rfl|simp [Cr,ren2,ren1,ren0],trivial⟩ Cp ⟨by first|rfl|exact (congrArg (fun l=>Cb _ _ l) (List.append_nil _)).symm|(show (_:Ab)=_;simp)|simp,by first|rfl|exact (congrArg (fun l=>Cb _ _ l) (List.append_nil _)).symm|(show (_:Ab)=_;simp)|simp,by first|rfl|exact (congrArg (fun l=>Cb _ _ l) (List.append_nil _)).symm|(show (_:Ab)=_;simp)|simp,by first|rfl|exact (congrArg (fun l=>Cb _ _ l) (List.append_nil _)).symm|(show (_:Ab)=_;simp)|simp,by first|rfl|exact (congrArg (fun l=>Cb _ _ l) (List.append_nil _)).symm|(show (_:Ab)=_;simp)|simp,by first|rfl|exact (congrArg (fun l=>Cb _ _ l) (List.append_nil _)).symm|(show (_:Ab)=_;simp)|simp,trivial⟩ Cc A5 (fun k hk=>?_)
  conv=>whnf
  conv=>whnf
  refine F2 (fun hlt=>?_) fun hlt=>?_<;>conv=>whnf
  ·have hlt:k<R.2.length:=by omega
   have hc:=Vr hlt
   have hle:((R.2.take k).filter id).length≤k:=Nat.le_trans (List.length_filter_le _ _) (by rw [List.length_take];omega)
   (repeat refine An ?_)
   refine ⟨fun hb=>?_,fun hb=>?_⟩<;>conv=>whnf
   ·rw [Int.toNat_natCast] at hb
    rw [if_pos hb] at hc
    (repeat refine An ?_)
    refine At [] (k+1) Ad Ad ⟨rfl,congrArg (fun n:Nat=>AV.c (vi (n:Int))) hc.symm,trivial⟩ ⟨rfl,rfl,rfl,rfl,rfl,rfl,trivial⟩ Cp A5 Cc A5
   ·rw [Int.toNat_natCast] at hb
    rw [if_neg (by rw [hb];decide)] at hc
    (repeat refine An ?_)
    refine At [] (k+1) Ad Ad ⟨rfl,congrArg (fun n:Nat=>AV.c (vi (n:Int))) hc.symm,trivial⟩ ⟨rfl,rfl,rfl,rfl,rfl,rfl,trivial⟩ Cp A5 Cc A5
  ·obtain rfl:k=R.2.length:=by omega
   rw [hF,List.take_length]
   refine Ah A0 rfl rfl ?_
   exact C1
set_option maxHeartbeats 8000000 in
theorem U2 (x:A4)(most:Int)(h:x.w≤6000000)(hgo:Jl x):Aq Tryz.prog 42 [.agg x.c,.one (vi most)] [.agg (Dj (E7 most 0 3000).toNat x).1.c,.one (vi (Dj (E7 most 0 3000).toNat x).2)]:=by
 have hb:=Ha most 0 3000 Bs
 obtain ⟨n,hn⟩:∃n:Nat,E7 most 0 3000=n:=⟨(E7 most 0 3000).toNat,by omega⟩
 rw [hn,Int.toNat_natCast]
 refine Aj A0 false Tryz.func42 rfl Bs fun W=>?_
 conv=>whnf
 refine Av (Ea x Ad) rfl (Ae ?_)
 refine B6 A0 false [11] (fun k:Nat=>[(7,.c (vi k))]) (fun k=>[⟨7,[.own 2,.c (vi (Ku x k).graph.workers),.c (vi (Ku x k).graph.cap),.own 3,.own 4,.own 5,.own 6]⟩,⟨1,[.c (.val (.slice none 0 0)),.c (vi 0),.c (vi 0),.c (.val (.slice none 0 0)),.c (.val (.slice none 0 0)),.c (.val (.slice none 0 0)),.c (.val (.slice none 0 0))]⟩]) (fun k=>[⟨2,Bb (Ku x k).graph.nodes⟩,⟨3,Ap (Ku x k).workers⟩,⟨4,Bu (Ku x k).links⟩,⟨5,Be (Ku x k).tokens⟩,⟨6,C3 (Ku x k).news⟩])
  (fun k=>k≤n∧∀i,i<k→(Cn (Ku x i)).2≠0) (fun k=>n-k) 0 ⟨Nat.zero_le _,by first|rfl|assumption|simp⟩ ⟨by first|rfl|simp [Cr,ren2,ren1,ren0],trivial⟩ Cp ⟨by first|rfl|exact (congrArg (fun l=>Cb _ _ l) (List.append_nil _)).symm|(show (_:Ab)=_;simp)|simp,by first|rfl|exact (congrArg (fun l=>Cb _ _ l) (List.append_nil _)).symm|(show (_:Ab)=_;simp)|simp,by first|rfl|exact (congrArg (fun l=>Cb _ _ l) (List.append_nil _)).symm|(show (_:Ab)=_;simp)|simp,by first|rfl|exact (congrArg (fun l=>Cb _ _ l) (List.append_nil _)).symm|(show (_:Ab)=_;simp)|simp,by first|rfl|exact (congrArg (fun l=>Cb _ _ l) (List.append_nil _)).symm|(show (_:Ab)=_;simp)|simp,trivial⟩ Cc A5 (fun k hk=>?_)
 obtain ⟨hk,he⟩:=hk
 conv=>whnf
 conv=>whnf
 refine Ai (P1 most 0 3000) rfl (Ae ?_)
 rw [hn]
 refine F2 (fun hlt=>?_) fun hlt=>?_<;>conv=>whnf
 ·have hlt:k<n:=by omega
  have hw:=B5r x k
  refine Av (Yd (Ku x k) Ad (B4o hgo k)) rfl (Ae ?_)
  (repeat refine An ?_)
  refine ⟨fun h0=>have h0:=eq_of_beq h0;?_,fun h0=>have h0:=beq_eq_false_iff_ne.1 h0;?_⟩<;>conv=>whnf
  ·have h0:(Cn (Ku x k)).2=0:=by omega
   rw [Rr hlt he h0]
   refine Ah A0 rfl rfl ?_
   exact C1
  ·have h0:(Cn (Ku x k)).2≠0:=by omega
   refine At [(2,8),(3,9),(4,10),(5,11),(6,12)] (k+1) ⟨by omega,fun i hi=>(Nat.lt_succ_iff_lt_or_eq.1 hi).elim (fun h4=>he i h4) (fun h4=>by subst h4;exact h0)⟩ Ad ⟨rfl,trivial⟩ ⟨rfl,rfl,rfl,rfl,rfl,trivial⟩ Cp A5 Cc A5
 ·obtain rfl:k=n:=by omega
  rw [Rq he]
  refine Ah A0 rfl rfl ?_
  exact C1
end Go.Proofs.YtlbmkgkmbjadcaaGreat
