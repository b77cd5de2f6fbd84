/- Part 15 of the proof that each of the laws FnExactRunScriptOf, FnExactSpreadResult returns true for every input. No conditions. -/
import Derived.Test.YtlbmkgkmbjadcaaGreatP13
import Derived.Test.YtlbmkgkmbjadcaaGreatP14

set_option linter.unusedSimpArgs false
set_option linter.unusedVariables false
set_option maxRecDepth 100000
namespace Go.Proofs.YtlbmkgkmbjadcaaGreat
open Go.Sx
theorem B1e (x:Au)(h:x.w≤16777216):Aq Tryz.prog 153 [.agg x.c] [.agg x.c]:=by
 have h:x.outs.length≤16777216:=h
 refine Aj A0 false Tryz.func153 rfl Bs fun W=>?_
 conv=>whnf
 refine Bm A0 rfl rfl rfl rfl rfl rfl rfl rfl rfl rfl rfl (Eu x.outs) (B1) (fun _=>Mx x.outs) Ad (Ae ?_)
 exact Ah A0 rfl rfl ⟨⟨rfl,rfl,rfl,rfl,trivial⟩,trivial⟩
theorem Dg (x:Ar)(h:x.w≤16777216):Aq Tryz.prog 99 [.agg x.c] [.agg x.c]:=by
 have h:x.nodes.length+(x.nodes.map Au.w).sum≤16777216:=h
 refine Aj A0 false Tryz.func99 rfl Bs fun W=>?_
 conv=>whnf
 refine A1c 2 0 4 (fun i=>Au.c (([]:List Au).getD i default)) rfl rfl ?_
 refine B6 A0 false [] (fun k:Nat=>[(14,.c (vi k))]) (fun _=>[⟨0,[.c (Bb x.nodes),.c (vi x.workers),.c (vi x.cap)]⟩,⟨2,[.own 3,.c (vi x.workers),.c (vi x.cap)]⟩,⟨1,[.any,.any,.any]⟩]) (fun k=>[⟨3,Bb (x.nodes.take k)⟩])
  (fun k=>k≤x.nodes.length) (fun k=>x.nodes.length-k) 0 (Nat.zero_le _) ⟨rfl,trivial⟩ Cp ⟨rfl,trivial⟩ trivial A5 (fun k hk=>?_)
 conv=>whnf
 refine F2 (fun h=>?_) fun h=>?_<;>conv=>whnf
 ·have h:k<x.nodes.length:=by omega
  have hle:=Bz Au.w x.nodes k h
  (repeat refine An ?_)
  refine Ks rfl [0,1,2,3,4,5,6,7] A5 (Ae ?_)
  refine Av (B1e (x.nodes.getD k default) Ad) rfl (Ae ?_)
  refine Mi A0 rfl rfl rfl rfl rfl rfl rfl rfl rfl (Ae ?_)
  refine Bm A0 rfl rfl rfl rfl rfl rfl rfl rfl rfl rfl rfl (Bb (x.nodes.take k++[x.nodes.getD k default])) (Bh rfl) Ef (by simp only [List.length_take];omega) (Ae ?_)
  (repeat refine An ?_)
  refine At [(3,7)] (k+1) Ad Ad ⟨rfl,trivial⟩ ⟨?_,trivial⟩ Cp A5 trivial A5
  exact congrArg Bb (Gw x.nodes k h).symm
 ·refine Ah A0 rfl rfl ⟨⟨?_,rfl,rfl,trivial⟩,trivial⟩
  exact congrArg Bb (Ee _ _ Ad)
theorem Di (x:Ar)(h:x.w≤16777216):Aq Tryz.prog 87 [.agg x.c] [.agg x.c]:=by
 have h:x.nodes.length+(x.nodes.map Au.w).sum≤16777216:=h
 refine Aj A0 false Tryz.func87 rfl Bs fun W=>?_
 conv=>whnf
 refine Gk 3 (Bb []) rfl Do ?_
 refine B6 A0 false [7] (fun k:Nat=>[(4,.c (vi k))]) (fun _=>[⟨0,[.c (Bb x.nodes),.c (vi x.workers),.c (vi x.cap)]⟩,⟨2,[.own 3,.c (vi x.workers),.c (vi x.cap)]⟩,⟨1,[.any,.any,.any]⟩]) (fun k=>[⟨3,Bb (x.nodes.take k)⟩])
  (fun k=>k≤x.nodes.length) (fun k=>x.nodes.length-k) 0 (Nat.zero_le _) ⟨rfl,trivial⟩ Cp ⟨rfl,trivial⟩ trivial A5 (fun k hk=>?_)
 conv=>whnf
 refine F2 (fun h=>?_) fun h=>?_<;>conv=>whnf
 ·have h:k<x.nodes.length:=by omega
  have hle:=Bz Au.w x.nodes k h
  have ho:(x.nodes.getD k default).outs.length≤16777216:=by simp only [Au.w] at hle;omega
  (repeat refine An ?_)
  refine Bm A0 rfl rfl rfl rfl rfl rfl rfl rfl rfl rfl rfl (Eu (x.nodes.getD k default).outs) (B1) (fun _=>Mx _) (by first|omega|(simp only [Int.toNat_natCast];omega)) (Ae ?_)
  refine Mi A0 rfl rfl rfl rfl rfl rfl rfl rfl rfl (Ae ?_)
  refine Bm A0 rfl rfl rfl rfl rfl rfl rfl rfl rfl rfl rfl (Bb (x.nodes.take k++[x.nodes.getD k default])) (Bh rfl) Ef (by simp only [List.length_take];omega) (Ae ?_)
  (repeat refine An ?_)
  refine At [(3,8)] (k+1) Ad Ad ⟨rfl,trivial⟩ ⟨?_,trivial⟩ Cp A5 trivial A5
  exact congrArg Bb (Gw x.nodes k h).symm
 ·refine Ah A0 rfl rfl ⟨⟨?_,rfl,rfl,trivial⟩,trivial⟩
  exact congrArg Bb (Ee _ _ Ad)
set_option maxHeartbeats 8000000 in
theorem Ea (x:A4)(h:x.w≤16777216):Aq Tryz.prog 104 [.agg x.c] [.agg x.c]:=by
 have hg:=A4.graph_le h
 have h2:=h
 simp only [A4.w,wS] at h2
 refine A0n A0 false Tryz.func104 rfl Bs fun W us hul huv huo hp=>?_
 match us,hul with
 | [v0,v1,v2,v3,v4,v5,v6],_=>
 conv=>whnf
 refine A65 4 ?_
 refine B6v A0 false (J:=Unit) [10,13,16,17] (fun _=>[(3,.box 2 0)]) (fun _=>[⟨2,[.own 3,.c (vi x.graph.workers),.c (vi x.graph.cap),.c (.val (.slice none 0 0)),.c (.val (.slice none 0 0)),.own 4,.own 5]⟩,⟨0,[.c (.val v0),.c (.val v1),.c (.val v2),.c (.val v3),.c (.val v4),.c (.val v5),.c (.val v6)]⟩,⟨1,[.c (.val (.slice none 0 0)),.c (vi 0),.c (vi 0),.c (.val (.slice none 0 0)),.c (.val (.slice none 0 0)),.c (.val (.slice none 0 0)),.c (.val (.slice none 0 0))]⟩]) (fun _=>[⟨3,Bb x.graph.nodes⟩,⟨4,Be x.tokens⟩,⟨5,C3 x.news⟩]) (fun _=>True) ?_ ?_
 ·conv=>whnf
  refine Gl rfl ?_
  refine Bk A0 false 0 rfl rfl A5 rfl (Af D7) ?_
  refine Bk A0 false 3 rfl rfl A5 rfl (Af D7) ?_
  refine Bk A0 false 6 rfl rfl A5 rfl (Af D7) ?_
  refine Jo [2,5,8,9,10,11] [⟨1,9,.ra [v0,v1,v2]⟩,⟨4,12,.rd v5⟩,⟨7,15,.rd v6⟩] A5 ?_
  refine Jf (s1:=?_) (s2:=?_) A0 [2,5,8,9,10,11] 2 10 [5,8,9,10,11] [2,5,8,9,11] rfl rfl A5 F1 Bs Bs ?_ ?_ ?_ ?_
  rotate_left 2
  refine go A0 false ?_
  conv=>whnf
  refine Kp hp 0 0 0 rfl rfl rfl ?_
  refine Kp hp 0 1 1 rfl rfl rfl ?_
  refine Kp hp 0 2 2 rfl rfl rfl ?_
  refine Av (Dg x.graph hg) rfl (Ae ?_)
  exact Ax
  refine Jf (s1:=?_) (s2:=?_) A0 [5,8,9,10,11] 5 10 [8,9,10,11] [5,8,9,11] rfl rfl A5 F1 Bs Bs ?_ ?_ ?_ ?_
  rotate_left 2
  refine go A0 false ?_
  conv=>whnf
  refine H0 hp 5 rfl 12 rfl ?_
  refine Bm A0 rfl rfl rfl rfl rfl rfl rfl rfl rfl rfl rfl (Be x.tokens) (B1) (fun _=>Io x.tokens) Ad (Ae ?_)
  exact Ax
  refine Jf (s1:=?_) (s2:=?_) A0 [8,9,10,11] 8 10 [9,10,11] [8,9,11] rfl rfl A5 F1 Bs Bs ?_ ?_ ?_ ?_
  rotate_left 2
  refine go A0 false ?_
  conv=>whnf
  refine H0 hp 6 rfl 15 rfl ?_
  refine Bm A0 rfl rfl rfl rfl rfl rfl rfl rfl rfl rfl rfl (C3 x.news) (B1) (fun _=>Fh x.news) Ad (Ae ?_)
  exact Ax
  refine Jf (s1:=?_) (s2:=?_) A0 [9,10,11] 9 10 [10,11] [9,11] rfl rfl A5 F1 Bs Bs ?_ ?_ ?_ ?_
  rotate_left 2
  refine go A0 false ?_
  conv=>whnf
  (repeat refine An ?_)
  exact Ax
  refine Bf (s':=?_) A0 rfl A5 F1 ?_ ?_
  rotate_left
  refine go A0 false ?_
  conv=>whnf
  (repeat refine An ?_)
  exact Ax
  refine Bf (s':=?_) A0 rfl A5 F1 ?_ ?_
  rotate_left
  refine go A0 false ?_
  conv=>whnf
  (repeat refine An ?_)
  exact Ax
  refine I7 A0 A5 F1 (GW.out (Iy ?_))
  conv=>whnf
  exact At [(2,9),(3,6),(4,7),(5,8)] () trivial Lv ⟨rfl,trivial⟩ ⟨rfl,rfl,rfl,trivial⟩ Cp A5 trivial A5
  refine go A0 false ?_
  conv=>whnf
  (repeat refine An ?_)
  exact Ax
  refine Bf (s':=?_) A0 rfl A5 F1 ?_ ?_
  rotate_left
  refine go A0 false ?_
  conv=>whnf
  (repeat refine An ?_)
  exact Ax
  refine Bf (s':=?_) A0 rfl A5 F1 ?_ ?_
  rotate_left
  refine go A0 false ?_
  conv=>whnf
  (repeat refine An ?_)
  exact Ax
  refine I7 A0 A5 F1 (GW.out (Iy ?_))
  conv=>whnf
  exact At [(2,9),(3,6),(4,7),(5,8)] () trivial Lv ⟨rfl,trivial⟩ ⟨rfl,rfl,rfl,trivial⟩ Cp A5 trivial A5
  refine go A0 false ?_
  conv=>whnf
  (repeat refine An ?_)
  exact Ax
  refine Bf (s':=?_) A0 rfl A5 F1 ?_ ?_
  rotate_left
  refine go A0 false ?_
  conv=>whnf
  refine H0 hp 6 rfl 15 rfl ?_
  refine Bm A0 rfl rfl rfl rfl rfl rfl rfl rfl rfl rfl rfl (C3 x.news) (B1) (fun _=>Fh x.news) Ad (Ae ?_)
  exact Ax
  refine Bf (s':=?_) A0 rfl A5 F1 ?_ ?_
  rotate_left
  refine go A0 false ?_
  conv=>whnf
  (repeat refine An ?_)
  exact Ax
  refine Bf (s':=?_) A0 rfl A5 F1 ?_ ?_
  rotate_left
  refine go A0 false ?_
  conv=>whnf
  (repeat refine An ?_)
  exact Ax
  refine I7 A0 A5 F1 (GW.out (Iy ?_))
  conv=>whnf
  exact At [(2,8),(3,6),(4,7),(5,9)] () trivial Lv ⟨rfl,trivial⟩ ⟨rfl,rfl,rfl,trivial⟩ Cp A5 trivial A5
  refine go A0 false ?_
  conv=>whnf
  (repeat refine An ?_)
  exact Ax
  refine Bf (s':=?_) A0 rfl A5 F1 ?_ ?_
  rotate_left
  refine go A0 false ?_
  conv=>whnf
  refine H0 hp 5 rfl 12 rfl ?_
  refine Bm A0 rfl rfl rfl rfl rfl rfl rfl rfl rfl rfl rfl (Be x.tokens) (B1) (fun _=>Io x.tokens) Ad (Ae ?_)
  exact Ax
  refine Bf (s':=?_) A0 rfl A5 F1 ?_ ?_
  rotate_left
  refine go A0 false ?_
  conv=>whnf
  refine H0 hp 6 rfl 15 rfl ?_
  refine Bm A0 rfl rfl rfl rfl rfl rfl rfl rfl rfl rfl rfl (C3 x.news) (B1) (fun _=>Fh x.news) Ad (Ae ?_)
  exact Ax
  refine Bf (s':=?_) A0 rfl A5 F1 ?_ ?_
  rotate_left
  refine go A0 false ?_
  conv=>whnf
  (repeat refine An ?_)
  exact Ax
  refine Bf (s':=?_) A0 rfl A5 F1 ?_ ?_
  rotate_left
  refine go A0 false ?_
  conv=>whnf
  (repeat refine An ?_)
  exact Ax
  refine I7 A0 A5 F1 (GW.out (Iy ?_))
  conv=>whnf
  exact At [(2,7),(3,6),(4,8),(5,9)] () trivial Lv ⟨rfl,trivial⟩ ⟨rfl,rfl,rfl,trivial⟩ Cp A5 trivial A5
  refine go A0 false ?_
  conv=>whnf
  (repeat refine An ?_)
  exact Ax
  refine Bf (s':=?_) A0 rfl A5 F1 ?_ ?_
  rotate_left
  refine go A0 false ?_
  conv=>whnf
  refine Kp hp 0 0 0 rfl rfl rfl ?_
  refine Kp hp 0 1 1 rfl rfl rfl ?_
  refine Kp hp 0 2 2 rfl rfl rfl ?_
  refine Av (Dg x.graph hg) rfl (Ae ?_)
  exact Ax
  refine Bf (s':=?_) A0 rfl A5 F1 ?_ ?_
  rotate_left
  refine go A0 false ?_
  conv=>whnf
  refine H0 hp 5 rfl 12 rfl ?_
  refine Bm A0 rfl rfl rfl rfl rfl rfl rfl rfl rfl rfl rfl (Be x.tokens) (B1) (fun _=>Io x.tokens) Ad (Ae ?_)
  exact Ax
  refine Bf (s':=?_) A0 rfl A5 F1 ?_ ?_
  rotate_left
  refine go A0 false ?_
  conv=>whnf
  refine H0 hp 6 rfl 15 rfl ?_
  refine Bm A0 rfl rfl rfl rfl rfl rfl rfl rfl rfl rfl rfl (C3 x.news) (B1) (fun _=>Fh x.news) Ad (Ae ?_)
  exact Ax
  refine Bf (s':=?_) A0 rfl A5 F1 ?_ ?_
  rotate_left
  refine go A0 false ?_
  conv=>whnf
  (repeat refine An ?_)
  exact Ax
  refine Bf (s':=?_) A0 rfl A5 F1 ?_ ?_
  rotate_left
  refine go A0 false ?_
  conv=>whnf
  (repeat refine An ?_)
  exact Ax
  refine I7 A0 A5 F1 (GW.out (Iy ?_))
  conv=>whnf
  exact At [(2,6),(3,7),(4,8),(5,9)] () trivial Lv ⟨rfl,trivial⟩ ⟨rfl,rfl,rfl,trivial⟩ Cp A5 trivial A5
 intro _ _
 refine A1q hp 0 3 3 rfl rfl rfl ?_
 refine A1q hp 0 4 4 rfl rfl rfl ?_
 refine A1c 2 3 8 (fun i=>A6.c (([]:List A6).getD i default)) rfl rfl ?_
 refine A1c 2 4 6 (fun i=>As.c (([]:List As).getD i default)) rfl rfl ?_
 refine go A0 false ?_
 conv=>whnf
 refine B6 A0 false [] (fun k:Nat=>[(21,.c (vi k))]) (fun k=>[⟨2,[.own 3,.c (vi x.graph.workers),.c (vi x.graph.cap),.own 6,.own 7,.own 4,.own 5]⟩,⟨0,[.c (.val v0),.c (.val v1),.c (.val v2),.c (Ap x.workers),.c (Bu x.links),.c (.val v5),.c (.val v6)]⟩,⟨1,[.c (.val (.slice none 0 0)),.c (vi 0),.c (vi 0),.c (.val (.slice none 0 0)),.c (.val (.slice none 0 0)),.c (.val (.slice none 0 0)),.c (.val (.slice none 0 0))]⟩]) (fun k=>[⟨3,Bb x.graph.nodes⟩,⟨4,Be x.tokens⟩,⟨5,C3 x.news⟩,⟨6,Ap (x.workers.take k)⟩,⟨7,Bu []⟩])
  (fun k=>k≤x.workers.length) (fun k=>x.workers.length-k) 0 (Nat.zero_le _) ⟨by first|rfl|simp [Cr,ren2,ren1,ren0],trivial⟩ Cp ⟨by first|rfl|exact (congrArg (fun l=>Cb _ _ l) (List.append_nil _)).symm|(show (_:Ab)=_;simp)|simp,by first|rfl|exact (congrArg (fun l=>Cb _ _ l) (List.append_nil _)).symm|(show (_:Ab)=_;simp)|simp,by first|rfl|exact (congrArg (fun l=>Cb _ _ l) (List.append_nil _)).symm|(show (_:Ab)=_;simp)|simp,by first|rfl|exact (congrArg (fun l=>Cb _ _ l) (List.append_nil _)).symm|(show (_:Ab)=_;simp)|simp,by first|rfl|exact (congrArg (fun l=>Cb _ _ l) (List.append_nil _)).symm|(show (_:Ab)=_;simp)|simp,trivial⟩ Cc A5 (fun k hk=>?_)
 conv=>whnf
 refine F2 (fun h'=>?_) fun h'=>?_<;>conv=>whnf
 ·have h':k<x.workers.length:=by omega
  have hw:=A4.worker_le h h'
  (repeat refine An ?_)
  first|(refine Ak 1 rfl [0,1,3,4,6,7,2,5,8,9,10,11] A5 (Ae ?_))|(refine Ak 5 rfl [0,1,2,3,4,5,6,7] A5 (Ae ?_))|(refine Ak 10 rfl [0,1,2,3,4,5,6,7] A5 (Ae ?_))
  (repeat refine An ?_)
  refine Av (Gn (x.workers.getD k default) hw) rfl (Ae ?_)
  refine Mi A0 rfl rfl rfl rfl rfl rfl rfl rfl rfl (Ae ?_)
  refine Bm A0 rfl rfl rfl rfl rfl rfl rfl rfl rfl rfl rfl (Ap (x.workers.take k++[x.workers.getD k default])) (Bh rfl) Ef (by simp only [List.length_take];omega) (Ae ?_)
  (repeat refine An ?_)
  refine At [(6,18)] (k+1) Ad Ad ⟨rfl,trivial⟩ ⟨rfl,rfl,rfl,congrArg Ap (Gw x.workers k h').symm,rfl,trivial⟩ Cp A5 Cc A5
 rw [Ee x.workers k Ad]
 refine B6 A0 false [] (fun j:Nat=>[(36,.c (vi j))]) (fun j=>[⟨2,[.own 3,.c (vi x.graph.workers),.c (vi x.graph.cap),.own 6,.own 7,.own 4,.own 5]⟩,⟨0,[.c (.val v0),.c (.val v1),.c (.val v2),.c (Ap x.workers),.c (Bu x.links),.c (.val v5),.c (.val v6)]⟩,⟨1,[.c (.val (.slice none 0 0)),.c (vi 0),.c (vi 0),.c (.val (.slice none 0 0)),.c (.val (.slice none 0 0)),.c (.val (.slice none 0 0)),.c (.val (.slice none 0 0))]⟩]) (fun j=>[⟨3,Bb x.graph.nodes⟩,⟨4,Be x.tokens⟩,⟨5,C3 x.news⟩,⟨6,Ap x.workers⟩,⟨7,Bu (x.links.take j)⟩])
  (fun j=>j≤x.links.length) (fun j=>x.links.length-j) 0 (Nat.zero_le _) ⟨by first|rfl|simp [Cr,ren2,ren1,ren0],trivial⟩ Cp ⟨by first|rfl|exact (congrArg (fun l=>Cb _ _ l) (List.append_nil _)).symm|(show (_:Ab)=_;simp)|simp,by first|rfl|exact (congrArg (fun l=>Cb _ _ l) (List.append_nil _)).symm|(show (_:Ab)=_;simp)|simp,by first|rfl|exact (congrArg (fun l=>Cb _ _ l) (List.append_nil _)).symm|(show (_:Ab)=_;simp)|simp,by first|rfl|exact (congrArg (fun l=>Cb _ _ l) (List.append_nil _)).symm|(show (_:Ab)=_;simp)|simp,by first|rfl|exact (congrArg (fun l=>Cb _ _ l) (List.append_nil _)).symm|(show (_:Ab)=_;simp)|simp,trivial⟩ Cc A5 (fun j hj=>?_)
 conv=>whnf
 refine F2 (fun h''=>?_) fun h''=>?_<;>conv=>whnf
 ·have h'':j<x.links.length:=by omega
  have hl:=A4.link_le h h''
  (repeat refine An ?_)
  first|(refine Ak 1 rfl [0,1,3,4,6,7,2,5,8,9,10,11] A5 (Ae ?_))|(refine Ak 5 rfl [0,1,2,3,4,5,6,7] A5 (Ae ?_))|(refine Ak 10 rfl [0,1,2,3,4,5,6,7] A5 (Ae ?_))
  (repeat refine An ?_)
  refine Av (Ky (x.links.getD j default) hl) rfl (Ae ?_)
  refine Mi A0 rfl rfl rfl rfl rfl rfl rfl rfl rfl (Ae ?_)
  refine Bm A0 rfl rfl rfl rfl rfl rfl rfl rfl rfl rfl rfl (Bu (x.links.take j++[x.links.getD j default])) (Bh rfl) Ef (by simp only [List.length_take];omega) (Ae ?_)
  (repeat refine An ?_)
  refine At [(7,11)] (j+1) Ad Ad ⟨rfl,trivial⟩ ⟨rfl,rfl,rfl,rfl,congrArg Bu (Gw x.links j h'').symm,trivial⟩ Cp A5 Cc A5
 ·refine Ah A0 rfl rfl ⟨⟨rfl,rfl,rfl,rfl,?_,rfl,rfl,trivial⟩,trivial⟩
  exact congrArg Bu (Ee _ _ Ad)
set_option maxHeartbeats 8000000 in
theorem Uo (x:A4)(h:x.w≤16777216):Aq Tryz.prog 142 [.agg x.c] [.agg x.c]:=by
 have hg:=A4.graph_le h
 have h2:=h
 simp only [A4.w,wS] at h2
 refine A0n A0 false Tryz.func142 rfl Bs fun W us hul huv huo hp=>?_
 match us,hul with
 | [v0,v1,v2,v3,v4,v5,v6],_=>
 conv=>whnf
 refine A65 4 ?_
 refine B6v A0 false (J:=Unit) [8,9,12,13,16,17] (fun _=>[(3,.box 2 0)]) (fun _=>[⟨2,[.own 3,.c (vi x.graph.workers),.c (vi x.graph.cap),.c (.val (.slice none 0 0)),.c (.val (.slice none 0 0)),.own 4,.own 5]⟩,⟨0,[.c (.val v0),.c (.val v1),.c (.val v2),.c (.val v3),.c (.val v4),.c (.val v5),.c (.val v6)]⟩,⟨1,[.c (.val (.slice none 0 0)),.c (vi 0),.c (vi 0),.c (.val (.slice none 0 0)),.c (.val (.slice none 0 0)),.c (.val (.slice none 0 0)),.c (.val (.slice none 0 0))]⟩]) (fun _=>[⟨3,Bb x.graph.nodes⟩,⟨4,Be x.tokens⟩,⟨5,C3 x.news⟩]) (fun _=>True) ?_ ?_
 ·conv=>whnf
  refine Gl rfl ?_
  refine Bk A0 false 0 rfl rfl A5 rfl (Af D7) ?_
  refine Bk A0 false 4 rfl rfl A5 rfl (Af D7) ?_
  refine Bk A0 false 8 rfl rfl A5 rfl (Af D7) ?_
  refine Jo [2,6,10,11,12,13] [⟨1,7,.ra [v0,v1,v2]⟩,⟨3,9,.emp 5⟩,⟨5,11,.rd v5⟩,⟨7,13,.emp 3⟩,⟨9,15,.rd v6⟩] A5 ?_
  refine Jf (s1:=?_) (s2:=?_) A0 [2,6,10,11,12,13] 2 12 [6,10,11,12,13] [2,6,10,11,13] rfl rfl A5 F1 Bs Bs ?_ ?_ ?_ ?_
  rotate_left 2
  refine go A0 false ?_
  conv=>whnf
  refine Kp hp 0 0 0 rfl rfl rfl ?_
  refine Kp hp 0 1 1 rfl rfl rfl ?_
  refine Kp hp 0 2 2 rfl rfl rfl ?_
  refine Av (Di x.graph hg) rfl (Ae ?_)
  exact Ax
  refine Jf (s1:=?_) (s2:=?_) A0 [6,10,11,12,13] 6 12 [10,11,12,13] [6,10,11,13] rfl rfl A5 F1 Bs Bs ?_ ?_ ?_ ?_
  rotate_left 2
  refine go A0 false ?_
  conv=>whnf
  refine H0 hp 5 rfl 11 rfl ?_
  refine Bm A0 rfl rfl rfl rfl rfl rfl rfl rfl rfl rfl rfl (Be x.tokens) (B1) (fun _=>Io x.tokens) Ad (Ae ?_)
  exact Ax
  refine Jf (s1:=?_) (s2:=?_) A0 [10,11,12,13] 10 12 [11,12,13] [10,11,13] rfl rfl A5 F1 Bs Bs ?_ ?_ ?_ ?_
  rotate_left 2
  refine go A0 false ?_
  conv=>whnf
  refine H0 hp 6 rfl 15 rfl ?_
  refine Bm A0 rfl rfl rfl rfl rfl rfl rfl rfl rfl rfl rfl (C3 x.news) (B1) (fun _=>Fh x.news) Ad (Ae ?_)
  exact Ax
  refine Jf (s1:=?_) (s2:=?_) A0 [11,12,13] 11 12 [12,13] [11,13] rfl rfl A5 F1 Bs Bs ?_ ?_ ?_ ?_
  rotate_left 2
  refine go A0 false ?_
  conv=>whnf
  (repeat refine An ?_)
  exact Ax
  refine Bf (s':=?_) A0 rfl A5 F1 ?_ ?_
  rotate_left
  refine go A0 false ?_
  conv=>whnf
  (repeat refine An ?_)
  exact Ax
  refine Bf (s':=?_) A0 rfl A5 F1 ?_ ?_
  rotate_left
  refine go A0 false ?_
  conv=>whnf
  (repeat refine An ?_)
  exact Ax
  refine I7 A0 A5 F1 (GW.out (Iy ?_))
  conv=>whnf
  exact At [(2,11),(3,6),(4,8),(5,10)] () trivial Lv ⟨rfl,trivial⟩ ⟨rfl,rfl,rfl,trivial⟩ Cp A5 trivial A5
  refine go A0 false ?_
  conv=>whnf
  (repeat refine An ?_)
  exact Ax
  refine Bf (s':=?_) A0 rfl A5 F1 ?_ ?_
  rotate_left
  refine go A0 false ?_
  conv=>whnf
  (repeat refine An ?_)
  exact Ax
  refine Bf (s':=?_) A0 rfl A5 F1 ?_ ?_
  rotate_left
  refine go A0 false ?_
  conv=>whnf
  (repeat refine An ?_)
  exact Ax
  refine I7 A0 A5 F1 (GW.out (Iy ?_))
  conv=>whnf
  exact At [(2,11),(3,6),(4,8),(5,10)] () trivial Lv ⟨rfl,trivial⟩ ⟨rfl,rfl,rfl,trivial⟩ Cp A5 trivial A5
  refine go A0 false ?_
  conv=>whnf
  (repeat refine An ?_)
  exact Ax
  refine Bf (s':=?_) A0 rfl A5 F1 ?_ ?_
  rotate_left
  refine go A0 false ?_
  conv=>whnf
  refine H0 hp 6 rfl 15 rfl ?_
  refine Bm A0 rfl rfl rfl rfl rfl rfl rfl rfl rfl rfl rfl (C3 x.news) (B1) (fun _=>Fh x.news) Ad (Ae ?_)
  exact Ax
  refine Bf (s':=?_) A0 rfl A5 F1 ?_ ?_
  rotate_left
  refine go A0 false ?_
  conv=>whnf
  (repeat refine An ?_)
  exact Ax
  refine Bf (s':=?_) A0 rfl A5 F1 ?_ ?_
  rotate_left
  refine go A0 false ?_
  conv=>whnf
  (repeat refine An ?_)
  exact Ax
  refine I7 A0 A5 F1 (GW.out (Iy ?_))
  conv=>whnf
  exact At [(2,9),(3,6),(4,8),(5,11)] () trivial Lv ⟨rfl,trivial⟩ ⟨rfl,rfl,rfl,trivial⟩ Cp A5 trivial A5
  refine go A0 false ?_
  conv=>whnf
  (repeat refine An ?_)
  exact Ax
  refine Bf (s':=?_) A0 rfl A5 F1 ?_ ?_
  rotate_left
  refine go A0 false ?_
  conv=>whnf
  refine H0 hp 5 rfl 11 rfl ?_
  refine Bm A0 rfl rfl rfl rfl rfl rfl rfl rfl rfl rfl rfl (Be x.tokens) (B1) (fun _=>Io x.tokens) Ad (Ae ?_)
  exact Ax
  refine Bf (s':=?_) A0 rfl A5 F1 ?_ ?_
  rotate_left
  refine go A0 false ?_
  conv=>whnf
  refine H0 hp 6 rfl 15 rfl ?_
  refine Bm A0 rfl rfl rfl rfl rfl rfl rfl rfl rfl rfl rfl (C3 x.news) (B1) (fun _=>Fh x.news) Ad (Ae ?_)
  exact Ax
  refine Bf (s':=?_) A0 rfl A5 F1 ?_ ?_
  rotate_left
  refine go A0 false ?_
  conv=>whnf
  (repeat refine An ?_)
  exact Ax
  refine Bf (s':=?_) A0 rfl A5 F1 ?_ ?_
  rotate_left
  refine go A0 false ?_
  conv=>whnf
  (repeat refine An ?_)
  exact Ax
  refine I7 A0 A5 F1 (GW.out (Iy ?_))
  conv=>whnf
  exact At [(2,7),(3,6),(4,9),(5,11)] () trivial Lv ⟨rfl,trivial⟩ ⟨rfl,rfl,rfl,trivial⟩ Cp A5 trivial A5
  refine go A0 false ?_
  conv=>whnf
  (repeat refine An ?_)
  exact Ax
  refine Bf (s':=?_) A0 rfl A5 F1 ?_ ?_
  rotate_left
  refine go A0 false ?_
  conv=>whnf
  refine Kp hp 0 0 0 rfl rfl rfl ?_
  refine Kp hp 0 1 1 rfl rfl rfl ?_
  refine Kp hp 0 2 2 rfl rfl rfl ?_
  refine Av (Di x.graph hg) rfl (Ae ?_)
  exact Ax
  refine Bf (s':=?_) A0 rfl A5 F1 ?_ ?_
  rotate_left
  refine go A0 false ?_
  conv=>whnf
  refine H0 hp 5 rfl 11 rfl ?_
  refine Bm A0 rfl rfl rfl rfl rfl rfl rfl rfl rfl rfl rfl (Be x.tokens) (B1) (fun _=>Io x.tokens) Ad (Ae ?_)
  exact Ax
  refine Bf (s':=?_) A0 rfl A5 F1 ?_ ?_
  rotate_left
  refine go A0 false ?_
  conv=>whnf
  refine H0 hp 6 rfl 15 rfl ?_
  refine Bm A0 rfl rfl rfl rfl rfl rfl rfl rfl rfl rfl rfl (C3 x.news) (B1) (fun _=>Fh x.news) Ad (Ae ?_)
  exact Ax
  refine Bf (s':=?_) A0 rfl A5 F1 ?_ ?_
  rotate_left
  refine go A0 false ?_
  conv=>whnf
  (repeat refine An ?_)
  exact Ax
  refine Bf (s':=?_) A0 rfl A5 F1 ?_ ?_
  rotate_left
  refine go A0 false ?_
  conv=>whnf
  (repeat refine An ?_)
  exact Ax
  refine I7 A0 A5 F1 (GW.out (Iy ?_))
  conv=>whnf
  exact At [(2,6),(3,7),(4,9),(5,11)] () trivial Lv ⟨rfl,trivial⟩ ⟨rfl,rfl,rfl,trivial⟩ Cp A5 trivial A5
 intro _ _
 refine A1q hp 0 3 3 rfl rfl rfl ?_
 refine A1q hp 0 4 4 rfl rfl rfl ?_
 refine A1c 2 3 8 (fun i=>A6.c (([]:List A6).getD i default)) rfl rfl ?_
 refine A1c 2 4 6 (fun i=>As.c (([]:List As).getD i default)) rfl rfl ?_
 refine go A0 false ?_
 conv=>whnf
 refine B6 A0 false [] (fun k:Nat=>[(4,.c (vi k))]) (fun k=>[⟨2,[.own 3,.c (vi x.graph.workers),.c (vi x.graph.cap),.own 6,.own 7,.own 4,.own 5]⟩,⟨0,[.c (.val v0),.c (.val v1),.c (.val v2),.c (Ap x.workers),.c (Bu x.links),.c (.val v5),.c (.val v6)]⟩,⟨1,[.c (.val (.slice none 0 0)),.c (vi 0),.c (vi 0),.c (.val (.slice none 0 0)),.c (.val (.slice none 0 0)),.c (.val (.slice none 0 0)),.c (.val (.slice none 0 0))]⟩]) (fun k=>[⟨3,Bb x.graph.nodes⟩,⟨4,Be x.tokens⟩,⟨5,C3 x.news⟩,⟨6,Ap (x.workers.take k)⟩,⟨7,Bu []⟩])
  (fun k=>k≤x.workers.length) (fun k=>x.workers.length-k) 0 (Nat.zero_le _) ⟨by first|rfl|simp [Cr,ren2,ren1,ren0],trivial⟩ Cp ⟨by first|rfl|exact (congrArg (fun l=>Cb _ _ l) (List.append_nil _)).symm|(show (_:Ab)=_;simp)|simp,by first|rfl|exact (congrArg (fun l=>Cb _ _ l) (List.append_nil _)).symm|(show (_:Ab)=_;simp)|simp,by first|rfl|exact (congrArg (fun l=>Cb _ _ l) (List.append_nil _)).symm|(show (_:Ab)=_;simp)|simp,by first|rfl|exact (congrArg (fun l=>Cb _ _ l) (List.append_nil _)).symm|(show (_:Ab)=_;simp)|simp,by first|rfl|exact (congrArg (fun l=>Cb _ _ l) (List.append_nil _)).symm|(show (_:Ab)=_;simp)|simp,trivial⟩ Cc A5 (fun k hk=>?_)
 conv=>whnf
 refine F2 (fun h'=>?_) fun h'=>?_<;>conv=>whnf
 ·have h':k<x.workers.length:=by omega
  have hw:=A4.worker_le h h'
  (repeat refine An ?_)
  first|(refine Ak 1 rfl [0,1,4,5,8,9,2,3,6,7,10,11,12,13] A5 (Ae ?_))|(refine Ak 5 rfl [0,1,2,3,4,5,6,7,8,9,10,11] A5 (Ae ?_))|(refine Ak 9 rfl [0,1,2,3,4,5,6,7,8,9,10,11] A5 (Ae ?_))
  (repeat refine An ?_)
  refine Av (Xp (x.workers.getD k default) hw) rfl (Ae ?_)
  refine Mi A0 rfl rfl rfl rfl rfl rfl rfl rfl rfl (Ae ?_)
  refine Bm A0 rfl rfl rfl rfl rfl rfl rfl rfl rfl rfl rfl (Ap (x.workers.take k++[x.workers.getD k default])) (Bh rfl) Ef (by simp only [List.length_take];omega) (Ae ?_)
  (repeat refine An ?_)
  refine At [(6,17)] (k+1) Ad Ad ⟨rfl,trivial⟩ ⟨rfl,rfl,rfl,congrArg Ap (Gw x.workers k h').symm,rfl,trivial⟩ Cp A5 Cc A5
 rw [Ee x.workers k Ad]
 refine B6 A0 false [] (fun j:Nat=>[(5,.c (vi j))]) (fun j=>[⟨2,[.own 3,.c (vi x.graph.workers),.c (vi x.graph.cap),.own 6,.own 7,.own 4,.own 5]⟩,⟨0,[.c (.val v0),.c (.val v1),.c (.val v2),.c (Ap x.workers),.c (Bu x.links),.c (.val v5),.c (.val v6)]⟩,⟨1,[.c (.val (.slice none 0 0)),.c (vi 0),.c (vi 0),.c (.val (.slice none 0 0)),.c (.val (.slice none 0 0)),.c (.val (.slice none 0 0)),.c (.val (.slice none 0 0))]⟩]) (fun j=>[⟨3,Bb x.graph.nodes⟩,⟨4,Be x.tokens⟩,⟨5,C3 x.news⟩,⟨6,Ap x.workers⟩,⟨7,Bu (x.links.take j)⟩])
  (fun j=>j≤x.links.length) (fun j=>x.links.length-j) 0 (Nat.zero_le _) ⟨by first|rfl|simp [Cr,ren2,ren1,ren0],trivial⟩ Cp ⟨by first|rfl|exact (congrArg (fun l=>Cb _ _ l) (List.append_nil _)).symm|(show (_:Ab)=_;simp)|simp,by first|rfl|exact (congrArg (fun l=>Cb _ _ l) (List.append_nil _)).symm|(show (_:Ab)=_;simp)|simp,by first|rfl|exact (congrArg (fun l=>Cb _ _ l) (List.append_nil _)).symm|(show (_:Ab)=_;simp)|simp,by first|rfl|exact (congrArg (fun l=>Cb _ _ l) (List.append_nil _)).symm|(show (_:Ab)=_;simp)|simp,by first|rfl|exact (congrArg (fun l=>Cb _ _ l) (List.append_nil _)).symm|(show (_:Ab)=_;simp)|simp,trivial⟩ Cc A5 (fun j hj=>?_)
 conv=>whnf
 refine F2 (fun h''=>?_) fun h''=>?_<;>conv=>whnf
 ·have h'':j<x.links.length:=by omega
  have hl:=A4.link_le h h''
  (repeat refine An ?_)
  first|(refine Ak 1 rfl [0,1,4,5,8,9,2,3,6,7,10,11,12,13] A5 (Ae ?_))|(refine Ak 5 rfl [0,1,2,3,4,5,6,7,8,9,10,11] A5 (Ae ?_))|(refine Ak 9 rfl [0,1,2,3,4,5,6,7,8,9,10,11] A5 (Ae ?_))
  (repeat refine An ?_)
  refine Av (L3 (x.links.getD j default) hl) rfl (Ae ?_)
  refine Mi A0 rfl rfl rfl rfl rfl rfl rfl rfl rfl (Ae ?_)
  refine Bm A0 rfl rfl rfl rfl rfl rfl rfl rfl rfl rfl rfl (Bu (x.links.take j++[x.links.getD j default])) (Bh rfl) Ef (by simp only [List.length_take];omega) (Ae ?_)
  (repeat refine An ?_)
  refine At [(7,10)] (j+1) Ad Ad ⟨rfl,trivial⟩ ⟨rfl,rfl,rfl,rfl,congrArg Bu (Gw x.links j h'').symm,trivial⟩ Cp A5 Cc A5
 ·refine Ah A0 rfl rfl ⟨⟨rfl,rfl,rfl,rfl,?_,rfl,rfl,trivial⟩,trivial⟩
  exact congrArg Bu (Ee _ _ Ad)
end Go.Proofs.YtlbmkgkmbjadcaaGreat
