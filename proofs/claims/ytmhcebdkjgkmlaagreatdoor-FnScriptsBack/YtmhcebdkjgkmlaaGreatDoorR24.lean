/- Part 24 of the proof that each of the laws FnScriptsBack returns true for every input. No conditions. -/
import Derived.Test.YtmhcebdkjgkmlaaGreatDoorR20

set_option linter.unusedSimpArgs false
set_option linter.unusedVariables false
set_option maxRecDepth 100000
namespace Go.Proofs.YtmhcebdkjgkmlaaGreatDoor
open Go.Sx
theorem B3u (x:Ba)(h:x.w≤16777216):Df 173 [.agg x.c] [.agg x.c]:=by
 have h:x.ax.length≤16777216:=h;refine Dy Tryz.func173 fun W=>?_;refine Bg A0 rfl (De x.ax) (Bw) (fun _=>Sn x.ax) A7 (Ag ?_);exact Af A0 rfl rfl ⟨⟨rfl,rfl,rfl,rfl,trivial⟩,trivial⟩
theorem S2 (x:Ax)(h:x.w≤16777216):Df 117 [.agg x.c] [.agg x.c]:=by
 have h:x.ay.length+(x.ay.map Ba.w).sum≤16777216:=h;refine Dy Tryz.func117 fun W=>?_;refine Xh 2 0 4 (fun i=>Ba.c (([]:List Ba).getD i default)) rfl rfl ?_
 refine Vq A0 false [] (fun k:Nat=>[(14,.c (vi k))]) (fun _=>[⟨0,[.c (Ay x.ay),.c (vi x.aq),.c (vi x.cap)]⟩,⟨2,[.own 3,.c (vi x.aq),.c (vi x.cap)]⟩,⟨1,[.any,.any,.any]⟩]) (fun k=>[⟨3,Ay (x.ay.take k)⟩])
  (fun k=>k≤x.ay.length) (fun k=>x.ay.length-k) 0 (Ff _) ⟨rfl,trivial⟩ Td ⟨rfl,trivial⟩ trivial Ak (fun k hk=>?_)
 conv=>whnf
 refine E3 (fun h=>?_) fun h=>?_
 ·have h:k<x.ay.length:=by omega
  have hle:=Fg Ba.w x.ay k h;refine B6 ?_;refine D0h rfl [0,1,2,3,4,5,6,7] Ak (Ag ?_);refine Hp (B3u (x.ay.getD k default) A7) ?_;refine Lg A0 rfl rfl rfl rfl (Ag ?_);refine Bg A0 rfl (Ay (x.ay.take k++[x.ay.getD k default])) (An rfl) Ij (by simp only [G2];omega) (F1 ?_);refine Co [(3,7)] (k+1) A7 A7 ⟨rfl,trivial⟩ ⟨?_,trivial⟩;exact A6 Ay (Ee x.ay k h).symm
 refine Af A0 rfl rfl ⟨⟨?_,rfl,rfl,trivial⟩,trivial⟩;exact A6 Ay (Bt _ _ A7)
theorem Oe (x:Ax)(h:x.w≤16777216):Df 77 [.agg x.c] [.agg x.c]:=by
 have h:x.ay.length+(x.ay.map Ba.w).sum≤16777216:=h;refine Dy Tryz.func77 fun W=>?_;refine Fi 3 (Ay []) rfl Dx ?_
 refine Vq A0 false [7] (fun k:Nat=>[(4,.c (vi k))]) (fun _=>[⟨0,[.c (Ay x.ay),.c (vi x.aq),.c (vi x.cap)]⟩,⟨2,[.own 3,.c (vi x.aq),.c (vi x.cap)]⟩,⟨1,[.any,.any,.any]⟩]) (fun k=>[⟨3,Ay (x.ay.take k)⟩])
  (fun k=>k≤x.ay.length) (fun k=>x.ay.length-k) 0 (Ff _) ⟨rfl,trivial⟩ Td ⟨rfl,trivial⟩ trivial Ak (fun k hk=>?_)
 conv=>whnf
 refine E3 (fun h=>?_) fun h=>?_
 ·have h:k<x.ay.length:=by omega
  have hle:=Fg Ba.w x.ay k h;have ho:(x.ay.getD k default).ax.length≤16777216:=by simp only [Ba.w] at hle;omega
  refine B6 ?_;refine Bg A0 rfl (De (x.ay.getD k default).ax) (Bw) (fun _=>Sn _) (by first|omega|(simp only [Cp];omega)) (Ag ?_);refine Lg A0 rfl rfl rfl rfl (Ag ?_);refine Bg A0 rfl (Ay (x.ay.take k++[x.ay.getD k default])) (An rfl) Ij (by simp only [G2];omega) (F1 ?_);refine Co [(3,8)] (k+1) A7 A7 ⟨rfl,trivial⟩ ⟨?_,trivial⟩;exact A6 Ay (Ee x.ay k h).symm
 refine Af A0 rfl rfl ⟨⟨?_,rfl,rfl,trivial⟩,trivial⟩;exact A6 Ay (Bt _ _ A7)
set_option maxHeartbeats 8000000 in
theorem Ev (x:A3)(h:x.w≤16777216):Df 102 [.agg x.c] [.agg x.c]:=by
 have hg:=A3.graph_le h;have h2:=h;simp only [A3.w,wS] at h2;refine B1m A0 false Tryz.func102 rfl Bk fun W us hul huv huo hp=>?_
 match us,hul with
 | [v0,v1,v2,v3,v4,v5,v6],_=>
 conv=>whnf
 refine B89 4 ?_;refine D11 A0 false (J:=Unit) [10,13,16,17] (fun _=>[(3,.box 2 0)]) (fun _=>[⟨2,[.own 3,.c (vi x.az.aq),.c (vi x.az.cap),.c (.val (.slice none 0 0)),.c (.val (.slice none 0 0)),.own 4,.own 5]⟩,⟨0,[.c (.val v0),.c (.val v1),.c (.val v2),.c (.val v3),.c (.val v4),.c (.val v5),.c (.val v6)]⟩,⟨1,[.c (.val (.slice none 0 0)),.c (vi 0),.c (vi 0),.c (.val (.slice none 0 0)),.c (.val (.slice none 0 0)),.c (.val (.slice none 0 0)),.c (.val (.slice none 0 0))]⟩]) (fun _=>[⟨3,Ay x.az.ay⟩,⟨4,B4 x.ar⟩,⟨5,C4 x.au⟩]) (fun _=>True) ?_ ?_
 ·conv=>whnf
  refine Jd rfl (E4 0 rfl (E4 3 rfl (E4 6 rfl ?_)));refine Np [2,5,8,9,10,11] [⟨1,9,.ra [v0,v1,v2]⟩,⟨4,12,.rd v5⟩,⟨7,15,.rd v6⟩] Ak ?_;refine Na (s1:=?_) (s2:=?_) A0 [2,5,8,9,10,11] 2 10 [5,8,9,10,11] [2,5,8,9,11] rfl rfl Ak Dt Bk Bk ?_ ?_ ?_ ?_;rotate_left 2;refine Ag ?_;refine P8 hp 0 0 0 rfl ?_;refine P8 hp 0 1 1 rfl ?_;refine P8 hp 0 2 2 rfl ?_;refine Hp (S2 x.az hg) ?_;exact C8
  refine Na (s1:=?_) (s2:=?_) A0 [5,8,9,10,11] 5 10 [8,9,10,11] [5,8,9,11] rfl rfl Ak Dt Bk Bk ?_ ?_ ?_ ?_;rotate_left 2;refine Ag ?_;refine Jg hp 5 rfl 12 rfl ?_;refine Bg A0 rfl (B4 x.ar) (Bw) (fun _=>Mh x.ar) A7 (Ag ?_);exact C8
  refine Na (s1:=?_) (s2:=?_) A0 [8,9,10,11] 8 10 [9,10,11] [8,9,11] rfl rfl Ak Dt Bk Bk ?_ ?_ ?_ ?_;rotate_left 2;refine Ag ?_;refine Jg hp 6 rfl 15 rfl ?_;refine Bg A0 rfl (C4 x.au) (Bw) (fun _=>H1 x.au) A7 (Ag ?_);exact C8
  refine Na (s1:=?_) (s2:=?_) A0 [9,10,11] 9 10 [10,11] [9,11] rfl rfl Ak Dt Bk Bk ?_ ?_ ?_ ?_;rotate_left 2;refine F1 ?_;exact C8
  refine Mt rfl Dt ?_;refine Mt rfl Dt ?_;refine Lt A0 Ak Dt (GW.out (I7 ?_));conv=>whnf
  exact Co [(2,9),(3,6),(4,7),(5,8)] () trivial R1 ⟨rfl,trivial⟩ ⟨rfl,rfl,rfl,trivial⟩
  refine F1 ?_;exact C8
  refine Mt rfl Dt ?_;refine Mt rfl Dt ?_;refine Lt A0 Ak Dt (GW.out (I7 ?_));conv=>whnf
  exact Co [(2,9),(3,6),(4,7),(5,8)] () trivial R1 ⟨rfl,trivial⟩ ⟨rfl,rfl,rfl,trivial⟩
  refine F1 ?_;exact C8
  refine La (s':=?_) rfl Dt ?_ ?_;rotate_left;refine Ag ?_;refine Jg hp 6 rfl 15 rfl ?_;refine Bg A0 rfl (C4 x.au) (Bw) (fun _=>H1 x.au) A7 (Ag ?_);exact C8
  refine Mt rfl Dt ?_;refine Mt rfl Dt ?_;refine Lt A0 Ak Dt (GW.out (I7 ?_));conv=>whnf
  exact Co [(2,8),(3,6),(4,7),(5,9)] () trivial R1 ⟨rfl,trivial⟩ ⟨rfl,rfl,rfl,trivial⟩
  refine F1 ?_;exact C8
  refine La (s':=?_) rfl Dt ?_ ?_;rotate_left;refine Ag ?_;refine Jg hp 5 rfl 12 rfl ?_;refine Bg A0 rfl (B4 x.ar) (Bw) (fun _=>Mh x.ar) A7 (Ag ?_);exact C8
  refine La (s':=?_) rfl Dt ?_ ?_;rotate_left;refine Ag ?_;refine Jg hp 6 rfl 15 rfl ?_;refine Bg A0 rfl (C4 x.au) (Bw) (fun _=>H1 x.au) A7 (Ag ?_);exact C8
  refine Mt rfl Dt ?_;refine Mt rfl Dt ?_;refine Lt A0 Ak Dt (GW.out (I7 ?_));conv=>whnf
  exact Co [(2,7),(3,6),(4,8),(5,9)] () trivial R1 ⟨rfl,trivial⟩ ⟨rfl,rfl,rfl,trivial⟩
  refine F1 ?_;exact C8
  refine La (s':=?_) rfl Dt ?_ ?_;rotate_left;refine Ag ?_;refine P8 hp 0 0 0 rfl ?_;refine P8 hp 0 1 1 rfl ?_;refine P8 hp 0 2 2 rfl ?_;refine Hp (S2 x.az hg) ?_;exact C8
  refine La (s':=?_) rfl Dt ?_ ?_;rotate_left;refine Ag ?_;refine Jg hp 5 rfl 12 rfl ?_;refine Bg A0 rfl (B4 x.ar) (Bw) (fun _=>Mh x.ar) A7 (Ag ?_);exact C8
  refine La (s':=?_) rfl Dt ?_ ?_;rotate_left;refine Ag ?_;refine Jg hp 6 rfl 15 rfl ?_;refine Bg A0 rfl (C4 x.au) (Bw) (fun _=>H1 x.au) A7 (Ag ?_);exact C8
  refine Mt rfl Dt ?_;refine Mt rfl Dt ?_;refine Lt A0 Ak Dt (GW.out (I7 ?_));conv=>whnf
  exact Co [(2,6),(3,7),(4,8),(5,9)] () trivial R1 ⟨rfl,trivial⟩ ⟨rfl,rfl,rfl,trivial⟩
 intro _ _;refine B2v hp 0 3 3 rfl rfl rfl ?_;refine B2v hp 0 4 4 rfl rfl rfl ?_;refine Xh 2 3 8 (fun i=>Aj.c (([]:List Aj).getD i default)) rfl rfl ?_;refine Xh 2 4 6 (fun i=>D8.c (([]:List D8).getD i default)) rfl rfl ?_;refine Ag ?_;refine Fs [] (fun k:Nat=>[(21,.c (vi k))]) (fun k=>[⟨2,[.own 3,.c (vi x.az.aq),.c (vi x.az.cap),.own 6,.own 7,.own 4,.own 5]⟩,⟨0,[.c (.val v0),.c (.val v1),.c (.val v2),.c (Ai x.aq),.c (Bo x.ak),.c (.val v5),.c (.val v6)]⟩,⟨1,[.c (.val (.slice none 0 0)),.c (vi 0),.c (vi 0),.c (.val (.slice none 0 0)),.c (.val (.slice none 0 0)),.c (.val (.slice none 0 0)),.c (.val (.slice none 0 0))]⟩]) (fun k=>[⟨3,Ay x.az.ay⟩,⟨4,B4 x.ar⟩,⟨5,C4 x.au⟩,⟨6,Ai (x.aq.take k)⟩,⟨7,Bo []⟩]) (fun k=>k≤x.aq.length) (fun k=>x.aq.length-k) fun k hk=>?_;refine E3 (fun h'=>?_) fun h'=>?_
 ·have h':k<x.aq.length:=by omega
  have hw:=A3.worker_le h h';refine B6 ?_
  first|(refine Ae 1 rfl [0,1,3,4,6,7,2,5,8,9,10,11] Ak (Ag ?_))|(refine Ae 5 rfl [0,1,2,3,4,5,6,7] Ak (Ag ?_))|(refine Ae 10 rfl [0,1,2,3,4,5,6,7] Ak (Ag ?_))
  refine B6 ?_;refine Hp (J3 (x.aq.getD k default) hw) ?_;refine Lg A0 rfl rfl rfl rfl (Ag ?_);refine Bg A0 rfl (Ai (x.aq.take k++[x.aq.getD k default])) (An rfl) Ij (by simp only [G2];omega) (F1 ?_);refine Co [(6,18)] (k+1) A7 A7 ⟨rfl,trivial⟩ ⟨rfl,rfl,rfl,A6 Ai (Ee x.aq k h').symm,rfl,trivial⟩
 rw [Bt x.aq k A7];refine Fs [] (fun j:Nat=>[(36,.c (vi j))]) (fun j=>[⟨2,[.own 3,.c (vi x.az.aq),.c (vi x.az.cap),.own 6,.own 7,.own 4,.own 5]⟩,⟨0,[.c (.val v0),.c (.val v1),.c (.val v2),.c (Ai x.aq),.c (Bo x.ak),.c (.val v5),.c (.val v6)]⟩,⟨1,[.c (.val (.slice none 0 0)),.c (vi 0),.c (vi 0),.c (.val (.slice none 0 0)),.c (.val (.slice none 0 0)),.c (.val (.slice none 0 0)),.c (.val (.slice none 0 0))]⟩]) (fun j=>[⟨3,Ay x.az.ay⟩,⟨4,B4 x.ar⟩,⟨5,C4 x.au⟩,⟨6,Ai x.aq⟩,⟨7,Bo (x.ak.take j)⟩]) (fun j=>j≤x.ak.length) (fun j=>x.ak.length-j) fun j hj=>?_;refine E3 (fun h''=>?_) fun h''=>?_
 ·have h'':j<x.ak.length:=by omega
  have hl:=A3.link_le h h'';refine B6 ?_
  first|(refine Ae 1 rfl [0,1,3,4,6,7,2,5,8,9,10,11] Ak (Ag ?_))|(refine Ae 5 rfl [0,1,2,3,4,5,6,7] Ak (Ag ?_))|(refine Ae 10 rfl [0,1,2,3,4,5,6,7] Ak (Ag ?_))
  refine B6 ?_;refine Hp (Ps (x.ak.getD j default) hl) ?_;refine Lg A0 rfl rfl rfl rfl (Ag ?_);refine Bg A0 rfl (Bo (x.ak.take j++[x.ak.getD j default])) (An rfl) Ij (by simp only [G2];omega) (F1 ?_);refine Co [(7,11)] (j+1) A7 A7 ⟨rfl,trivial⟩ ⟨rfl,rfl,rfl,rfl,A6 Bo (Ee x.ak j h'').symm,trivial⟩
 refine Af A0 rfl rfl ⟨⟨rfl,rfl,rfl,rfl,?_,rfl,rfl,trivial⟩,trivial⟩;exact A6 Bo (Bt _ _ A7)
set_option maxHeartbeats 8000000 in
theorem A3r (x:A3)(h:x.w≤16777216):Df 156 [.agg x.c] [.agg x.c]:=by
 have hg:=A3.graph_le h;have h2:=h;simp only [A3.w,wS] at h2;refine B1m A0 false Tryz.func156 rfl Bk fun W us hul huv huo hp=>?_
 match us,hul with
 | [v0,v1,v2,v3,v4,v5,v6],_=>
 conv=>whnf
 refine B89 4 ?_;refine D11 A0 false (J:=Unit) [8,9,12,13,16,17] (fun _=>[(3,.box 2 0)]) (fun _=>[⟨2,[.own 3,.c (vi x.az.aq),.c (vi x.az.cap),.c (.val (.slice none 0 0)),.c (.val (.slice none 0 0)),.own 4,.own 5]⟩,⟨0,[.c (.val v0),.c (.val v1),.c (.val v2),.c (.val v3),.c (.val v4),.c (.val v5),.c (.val v6)]⟩,⟨1,[.c (.val (.slice none 0 0)),.c (vi 0),.c (vi 0),.c (.val (.slice none 0 0)),.c (.val (.slice none 0 0)),.c (.val (.slice none 0 0)),.c (.val (.slice none 0 0))]⟩]) (fun _=>[⟨3,Ay x.az.ay⟩,⟨4,B4 x.ar⟩,⟨5,C4 x.au⟩]) (fun _=>True) ?_ ?_
 ·conv=>whnf
  refine Jd rfl (E4 0 rfl (E4 4 rfl (E4 8 rfl ?_)));refine Np [2,6,10,11,12,13] [⟨1,7,.ra [v0,v1,v2]⟩,⟨3,9,.emp 5⟩,⟨5,11,.rd v5⟩,⟨7,13,.emp 3⟩,⟨9,15,.rd v6⟩] Ak ?_;refine Na (s1:=?_) (s2:=?_) A0 [2,6,10,11,12,13] 2 12 [6,10,11,12,13] [2,6,10,11,13] rfl rfl Ak Dt Bk Bk ?_ ?_ ?_ ?_;rotate_left 2;refine Ag ?_;refine P8 hp 0 0 0 rfl ?_;refine P8 hp 0 1 1 rfl ?_;refine P8 hp 0 2 2 rfl ?_;refine Hp (Oe x.az hg) ?_;exact C8
  refine Na (s1:=?_) (s2:=?_) A0 [6,10,11,12,13] 6 12 [10,11,12,13] [6,10,11,13] rfl rfl Ak Dt Bk Bk ?_ ?_ ?_ ?_;rotate_left 2;refine Ag ?_;refine Jg hp 5 rfl 11 rfl ?_;refine Bg A0 rfl (B4 x.ar) (Bw) (fun _=>Mh x.ar) A7 (Ag ?_);exact C8
  refine Na (s1:=?_) (s2:=?_) A0 [10,11,12,13] 10 12 [11,12,13] [10,11,13] rfl rfl Ak Dt Bk Bk ?_ ?_ ?_ ?_;rotate_left 2;refine Ag ?_;refine Jg hp 6 rfl 15 rfl ?_;refine Bg A0 rfl (C4 x.au) (Bw) (fun _=>H1 x.au) A7 (Ag ?_);exact C8
  refine Na (s1:=?_) (s2:=?_) A0 [11,12,13] 11 12 [12,13] [11,13] rfl rfl Ak Dt Bk Bk ?_ ?_ ?_ ?_;rotate_left 2;refine F1 ?_;exact C8
  refine Mt rfl Dt ?_;refine Mt rfl Dt ?_;refine Lt A0 Ak Dt (GW.out (I7 ?_));conv=>whnf
  exact Co [(2,11),(3,6),(4,8),(5,10)] () trivial R1 ⟨rfl,trivial⟩ ⟨rfl,rfl,rfl,trivial⟩
  refine F1 ?_;exact C8
  refine Mt rfl Dt ?_;refine Mt rfl Dt ?_;refine Lt A0 Ak Dt (GW.out (I7 ?_));conv=>whnf
  exact Co [(2,11),(3,6),(4,8),(5,10)] () trivial R1 ⟨rfl,trivial⟩ ⟨rfl,rfl,rfl,trivial⟩
  refine F1 ?_;exact C8
  refine La (s':=?_) rfl Dt ?_ ?_;rotate_left;refine Ag ?_;refine Jg hp 6 rfl 15 rfl ?_;refine Bg A0 rfl (C4 x.au) (Bw) (fun _=>H1 x.au) A7 (Ag ?_);exact C8
  refine Mt rfl Dt ?_;refine Mt rfl Dt ?_;refine Lt A0 Ak Dt (GW.out (I7 ?_));conv=>whnf
  exact Co [(2,9),(3,6),(4,8),(5,11)] () trivial R1 ⟨rfl,trivial⟩ ⟨rfl,rfl,rfl,trivial⟩
  refine F1 ?_;exact C8
  refine La (s':=?_) rfl Dt ?_ ?_;rotate_left;refine Ag ?_;refine Jg hp 5 rfl 11 rfl ?_;refine Bg A0 rfl (B4 x.ar) (Bw) (fun _=>Mh x.ar) A7 (Ag ?_);exact C8
  refine La (s':=?_) rfl Dt ?_ ?_;rotate_left;refine Ag ?_;refine Jg hp 6 rfl 15 rfl ?_;refine Bg A0 rfl (C4 x.au) (Bw) (fun _=>H1 x.au) A7 (Ag ?_);exact C8
  refine Mt rfl Dt ?_;refine Mt rfl Dt ?_;refine Lt A0 Ak Dt (GW.out (I7 ?_));conv=>whnf
  exact Co [(2,7),(3,6),(4,9),(5,11)] () trivial R1 ⟨rfl,trivial⟩ ⟨rfl,rfl,rfl,trivial⟩
  refine F1 ?_;exact C8
  refine La (s':=?_) rfl Dt ?_ ?_;rotate_left;refine Ag ?_;refine P8 hp 0 0 0 rfl ?_;refine P8 hp 0 1 1 rfl ?_;refine P8 hp 0 2 2 rfl ?_;refine Hp (Oe x.az hg) ?_;exact C8
  refine La (s':=?_) rfl Dt ?_ ?_;rotate_left;refine Ag ?_;refine Jg hp 5 rfl 11 rfl ?_;refine Bg A0 rfl (B4 x.ar) (Bw) (fun _=>Mh x.ar) A7 (Ag ?_);exact C8
  refine La (s':=?_) rfl Dt ?_ ?_;rotate_left;refine Ag ?_;refine Jg hp 6 rfl 15 rfl ?_;refine Bg A0 rfl (C4 x.au) (Bw) (fun _=>H1 x.au) A7 (Ag ?_);exact C8
  refine Mt rfl Dt ?_;refine Mt rfl Dt ?_;refine Lt A0 Ak Dt (GW.out (I7 ?_));conv=>whnf
  exact Co [(2,6),(3,7),(4,9),(5,11)] () trivial R1 ⟨rfl,trivial⟩ ⟨rfl,rfl,rfl,trivial⟩
 intro _ _;refine B2v hp 0 3 3 rfl rfl rfl ?_;refine B2v hp 0 4 4 rfl rfl rfl ?_;refine Xh 2 3 8 (fun i=>Aj.c (([]:List Aj).getD i default)) rfl rfl ?_;refine Xh 2 4 6 (fun i=>D8.c (([]:List D8).getD i default)) rfl rfl ?_;refine Ag ?_;refine Fs [] (fun k:Nat=>[(4,.c (vi k))]) (fun k=>[⟨2,[.own 3,.c (vi x.az.aq),.c (vi x.az.cap),.own 6,.own 7,.own 4,.own 5]⟩,⟨0,[.c (.val v0),.c (.val v1),.c (.val v2),.c (Ai x.aq),.c (Bo x.ak),.c (.val v5),.c (.val v6)]⟩,⟨1,[.c (.val (.slice none 0 0)),.c (vi 0),.c (vi 0),.c (.val (.slice none 0 0)),.c (.val (.slice none 0 0)),.c (.val (.slice none 0 0)),.c (.val (.slice none 0 0))]⟩]) (fun k=>[⟨3,Ay x.az.ay⟩,⟨4,B4 x.ar⟩,⟨5,C4 x.au⟩,⟨6,Ai (x.aq.take k)⟩,⟨7,Bo []⟩]) (fun k=>k≤x.aq.length) (fun k=>x.aq.length-k) fun k hk=>?_;refine E3 (fun h'=>?_) fun h'=>?_
 ·have h':k<x.aq.length:=by omega
  have hw:=A3.worker_le h h';refine B6 ?_
  first|(refine Ae 1 rfl [0,1,4,5,8,9,2,3,6,7,10,11,12,13] Ak (Ag ?_))|(refine Ae 5 rfl [0,1,2,3,4,5,6,7,8,9,10,11] Ak (Ag ?_))|(refine Ae 9 rfl [0,1,2,3,4,5,6,7,8,9,10,11] Ak (Ag ?_))
  refine B6 ?_;refine Hp (A7g (x.aq.getD k default) hw) ?_;refine Lg A0 rfl rfl rfl rfl (Ag ?_);refine Bg A0 rfl (Ai (x.aq.take k++[x.aq.getD k default])) (An rfl) Ij (by simp only [G2];omega) (F1 ?_);refine Co [(6,17)] (k+1) A7 A7 ⟨rfl,trivial⟩ ⟨rfl,rfl,rfl,A6 Ai (Ee x.aq k h').symm,rfl,trivial⟩
 rw [Bt x.aq k A7];refine Fs [] (fun j:Nat=>[(5,.c (vi j))]) (fun j=>[⟨2,[.own 3,.c (vi x.az.aq),.c (vi x.az.cap),.own 6,.own 7,.own 4,.own 5]⟩,⟨0,[.c (.val v0),.c (.val v1),.c (.val v2),.c (Ai x.aq),.c (Bo x.ak),.c (.val v5),.c (.val v6)]⟩,⟨1,[.c (.val (.slice none 0 0)),.c (vi 0),.c (vi 0),.c (.val (.slice none 0 0)),.c (.val (.slice none 0 0)),.c (.val (.slice none 0 0)),.c (.val (.slice none 0 0))]⟩]) (fun j=>[⟨3,Ay x.az.ay⟩,⟨4,B4 x.ar⟩,⟨5,C4 x.au⟩,⟨6,Ai x.aq⟩,⟨7,Bo (x.ak.take j)⟩]) (fun j=>j≤x.ak.length) (fun j=>x.ak.length-j) fun j hj=>?_;refine E3 (fun h''=>?_) fun h''=>?_
 ·have h'':j<x.ak.length:=by omega
  have hl:=A3.link_le h h'';refine B6 ?_
  first|(refine Ae 1 rfl [0,1,4,5,8,9,2,3,6,7,10,11,12,13] Ak (Ag ?_))|(refine Ae 5 rfl [0,1,2,3,4,5,6,7,8,9,10,11] Ak (Ag ?_))|(refine Ae 9 rfl [0,1,2,3,4,5,6,7,8,9,10,11] Ak (Ag ?_))
  refine B6 ?_;refine Hp (Pz (x.ak.getD j default) hl) ?_;refine Lg A0 rfl rfl rfl rfl (Ag ?_);refine Bg A0 rfl (Bo (x.ak.take j++[x.ak.getD j default])) (An rfl) Ij (by simp only [G2];omega) (F1 ?_);refine Co [(7,10)] (j+1) A7 A7 ⟨rfl,trivial⟩ ⟨rfl,rfl,rfl,rfl,A6 Bo (Ee x.ak j h'').symm,trivial⟩
 refine Af A0 rfl rfl ⟨⟨rfl,rfl,rfl,rfl,?_,rfl,rfl,trivial⟩,trivial⟩;exact A6 Bo (Bt _ _ A7)
def A5 (c:A3) (e:Int):I9:=c.ar.getD e.toNat default
def A8 (c:A3) (j:Int):Aj:=c.aq.getD j.toNat default
def Gu (c:A3) (e:Int) (t:I9):A3:=⟨c.az,c.aq,c.ak,c.ar.set e.toNat t,c.au⟩
def Bf (c:A3) (j:Int) (w:Aj):A3:=⟨c.az,c.aq.set j.toNat w,c.ak,c.ar,c.au⟩
def Kf (w:Aj) (e:Int):Aj:=⟨w.al,w.bq,w.ap,w.cells,w.ai,w.ah.set e.toNat false,w.ao,w.bz⟩
def Jq (w:Aj) (d:Ih):Aj:=⟨w.al,w.bq,w.ap,w.cells,w.ai,w.ah,w.ao,w.bz++[d]⟩
def Qi (e:Int) (b:Bool) (k:Nat):List D9:=(List.range k).map fun (i:Nat)=>(⟨(i:Int)+1,e,b⟩:D9)
def A3y (c:A3) (l:List D9):A3:=⟨c.az,c.aq,c.ak,c.ar,c.au++l⟩
def Ll (c:A3) (e:Int) (t:I9) (w:Aj):A3:=
 if t.ah=false∧w.ah.getD e.toNat default=false∧t.sum+w.ai.getD e.toNat default=0 then
  A3y (Bf c 0 (Jq w ⟨e,t.ae||w.ao.getD e.toNat default⟩)) (Qi e (t.ae||w.ao.getD e.toNat default) (c.aq.length-1))
 else c
def Xk (c:A3) (e:Int):Prop:=B1 c∧(0≤e∧e≤3)∧Lh (A8 c 0) e=false∧L8 (A8 c (A5 c e).aj) e=true
instance (c:A3) (e:Int):Decidable (Xk c e):=by unfold Xk;infer_instance
def Dc (c:A3) (e:Int):A3×Bool:=
 if Xk c e then
  let t:=A5 c e
  let w:=A8 c t.aj
  if t.bj=false then (Bf (Gu c e ⟨true,(c.aq.length:Int)-1,0,false,w.ao.getD e.toNat default⟩) t.aj (Kf w e),true)
  else if t.aj>0 then
   if Kb (t.sum+w.ai.getD e.toNat default) then
    (Bf (Gu c e ⟨t.bj,t.aj-1,t.sum+w.ai.getD e.toNat default,t.ah||w.ah.getD e.toNat default,t.ae||w.ao.getD e.toNat default⟩) t.aj (Kf w e),true)
   else (c,false)
  else (Ll (Gu c e ⟨false,t.aj,t.sum,t.ah,t.ae⟩) e t w,true)
 else (c,false)
variable {c : A3} {e : Int}
theorem B08 (h:Xk c e)(hg:(A5 c e).bj=false):Dc c e=(Bf (Gu c e ⟨true,(c.aq.length:Int)-1,0,false,(A8 c (A5 c e).aj).ao.getD e.toNat default⟩) (A5 c e).aj (Kf (A8 c (A5 c e).aj) e),true):=by
 rw [Dc,Ah h];simp only [hg,Mo]
theorem C0m (h:Xk c e)(hg:(A5 c e).bj=true)(ha:(A5 c e).aj>0)(hs:¬ Kb ((A5 c e).sum+(A8 c (A5 c e).aj).ai.getD e.toNat default)):Dc c e=(c,false):=by
 rw [Dc,Ah h];simp only [hg,A8i,T6,Ah ha,Ab hs]
theorem Ox (h:Xk c e)(hg:(A5 c e).bj=true)(ha:(A5 c e).aj>0)(hs:Kb ((A5 c e).sum+(A8 c (A5 c e).aj).ai.getD e.toNat default)):
  Dc c e=(Bf (Gu c e ⟨true,(A5 c e).aj-1,(A5 c e).sum+(A8 c (A5 c e).aj).ai.getD e.toNat default,(A5 c e).ah||(A8 c (A5 c e).aj).ah.getD e.toNat default,(A5 c e).ae||(A8 c (A5 c e).aj).ao.getD e.toNat default⟩) (A5 c e).aj (Kf (A8 c (A5 c e).aj) e),true):=by
 rw [Dc,Ah h];simp only [hg,A8i,T6,Ah ha,Ah hs]
theorem Ua (h:¬ Xk c e):Dc c e=(c,false):=by rw [Dc,Ab h]
theorem Cv {α:Type} [Inhabited α] {es:Nat}{e:α→List Ad}{l:List α}{j:Nat}{r:List Ad}(h:r=e (l.getD j default)):Kn (.sl l.length es (Hf (fun i=>e (l.getD i default)) j r)) (Mu es e l):=by
 refine ⟨rfl,rfl,fun i _=>?_⟩;unfold Hf
 split
 ·rename_i e;subst e;rw [h];exact I5.rfl' _
 exact I5.rfl' _
theorem Hv {α:Type} [Inhabited α] {es:Nat}{e:α→List Ad}{l:List α}{j:Nat}{r:List Ad}{x:α}(hj:j<l.length)(h:r=e x):Kn (.sl l.length es (Hf (fun i=>e (l.getD i default)) j r)) (Mu es e (l.set j x)):=by
 refine ⟨by rw [K1],rfl,fun i _=>?_⟩;unfold Hf
 split
 ·rename_i q
  subst q
  show I5 r (e ((l.set i x).getD i default))
  rw [h,Sx.getD_set_self _ _ _ _ hj];exact I5.rfl' _
 rename_i q
 show I5 (e (l.getD i default)) (e ((l.set j x).getD i default))
 rw [Sx.getD_set_ne _ _ _ _ _ q];exact I5.rfl' _
abbrev rcb (x:A3) (b:Bool):List Ad:=[Ay x.az.ay,vi x.az.aq,vi x.az.cap,Ai x.aq,Bo x.ak,B4 x.ar,C4 x.au,vb b]
abbrev rc (x:A3):List Ad:=rcb x (Av x)
theorem Of (h:Xk c e)(hg:(A5 c e).bj=true)(ha:¬ (A5 c e).aj>0):Dc c e=(Ll (Gu c e ⟨false,(A5 c e).aj,(A5 c e).sum,(A5 c e).ah,(A5 c e).ae⟩) e (A5 c e) (A8 c (A5 c e).aj),true):=by
 rw [Dc,Ah h];simp only [hg,A8i,T6,Ab ha]
theorem A1p (e:Int)(b:Bool)(k:Nat):(Qi e b k).length=k:=by rw [Qi,Oy,Wc]
theorem Yu (e:Int)(b:Bool)(k:Nat):Qi e b (k+1)=Qi e b k++[⟨(k:Int)+1,e,b⟩]:=by
 rw [Qi,Za,Uu];rfl
set_option maxHeartbeats 4000000 in
theorem B53 (x:A3)(e:Int)(cap ok:Bool)(h:x.w≤16000000)(h0:0<x.aq.length):
  MtR (fun _=>True) 248 [] (rcb x ok) [.one (vi e),.one (vb cap)] (fun _:Unit=>True) (fun _=>rcb (A3y (Bf x 0 (Jq (x.aq.getD 0 default) ⟨e,cap⟩)) (Qi e cap (x.aq.length-1))) ok) (fun _=>[]):=by
 have hw:=A3.worker_le h h0;have hnl:=A3.news_le h;have hwl:=A3.workers_le h;have hdl:(x.aq.getD 0 default).bz.length≤16000000:=by simp only [Aj.w] at hw;omega
 refine zeP Tryz.func248 fun B b hH hp=>?_;refine Yt 0 3 2 rfl rfl (fun v2=>?_);refine A6h 0 3 rfl rfl (fun ho_v2=>?_);refine Jd rfl (E4 0 rfl (E4 1 rfl (E4 2 rfl (E4 3 rfl (E4 5 rfl (E4 6 rfl (E4 7 rfl (E4 8 rfl (E4 13 rfl (E4 14 rfl ?_))))))))));refine Pb 9 ?_;refine Lw (s':=?_) 10 rfl Ak ?_ ?_;rotate_left;refine Ag ?_;refine He 16 2 rfl (F1 ?_);exact C8
 refine E4 11 rfl ?_;refine Vw (α:=Value) (s':=?_) 12 rfl Ak ?_ ?_;rotate_left;refine Ag ?_;refine Ma A0 rfl (jn:=0) rfl rfl (fun v=>go A0 false ?_);conv=>whnf
 exact A2t v
 intro v;refine Pb 15 ?_;refine Np [16,17,18,19,20] [⟨4,11,.rd v2⟩] Ak ?_;refine Mt rfl Dt ?_;refine La (s':=?_) rfl Dt ?_ ?_;rotate_left;refine Ag ?_;refine Bg A0 rfl (Hy ((x.aq.getD 0 default).bz++[⟨e,cap⟩])) (An rfl) Ij A7 (Ag ?_);exact C8
 refine La (s':=?_) rfl Dt ?_ ?_;rotate_left;refine Ag ?_;refine He 11 2 rfl (F1 ?_);exact C8
 refine Mt rfl Dt ?_;refine La (s':=?_) rfl Dt ?_ ?_;rotate_left;refine Ag ?_;refine Bi (j:=0) A0 rfl (Ai (x.aq.set 0 (Jq (x.aq.getD 0 default) ⟨e,cap⟩))) (Ht h0 rfl) (Ag ?_);exact C8
 refine Lt A0 Ak Dt (GW.out (I7 ?_));conv=>whnf
 refine Yr 0 3 2 rfl rfl rfl ?_;refine Fs [7,8,9,10,11,12,13,14,15,16,17,18,19,20,21,22,23,24,25,26] (fun k:Nat=>[(6,.c (vi (k+1)))]) (fun k=>[⟨0,[.own 1,.c (vi x.az.aq),.c (vi x.az.cap),.own 2,.own 3,.own 4,.own 5,.c (vb ok)]⟩]) (fun k=>[⟨1,Ay x.az.ay⟩,⟨2,Ai (x.aq.set 0 (Jq (x.aq.getD 0 default) ⟨e,cap⟩))⟩,⟨3,Bo x.ak⟩,⟨4,B4 x.ar⟩,⟨5,C4 (x.au++Qi e cap k)⟩]) (fun k=>k≤(x.aq.length-1)) (fun k=>(x.aq.length-1)-k) fun k hk=>?_;refine E3 (fun hg=>?_) fun hg=>?_
 ·rw [K1] at hg
  refine Bg A0 rfl (C4 (x.au++Qi e cap k++[⟨k+1,e,cap⟩])) (An rfl) Ij (by rw [Dn,A1p];omega) (F1 ?_);refine Co [(0,0),(1,1),(2,2),(3,3),(4,4),(5,10)] (k+1) A7 A7 ⟨by rw [Int.natCast_add];rfl,trivial⟩ ⟨rfl,rfl,rfl,rfl,by show (_:Ad)=_;rw [Yu,←Ci],trivial⟩
 rw [K1] at hg;refine Ar ?_;obtain rfl:k=x.aq.length-1:=by omega
 exact D01 (Ke A0 () trivial rfl rfl rfl rfl I1)
end Go.Proofs.YtmhcebdkjgkmlaaGreatDoor
