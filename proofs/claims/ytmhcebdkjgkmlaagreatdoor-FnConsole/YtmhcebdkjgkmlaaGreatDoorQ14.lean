/- Part 14 of the proof that each of the laws FnConsole returns true for every input. No conditions. -/
import Derived.Test.YtmhcebdkjgkmlaaGreatDoorQ13

set_option linter.unusedSimpArgs false
set_option linter.unusedVariables false
set_option maxRecDepth 100000
namespace Go.Proofs.YtmhcebdkjgkmlaaGreatDoor
open Go.Sx
theorem B5m (x:C3)(h:x.w≤16777216):Di 173 [.agg x.c] [.agg x.c]:=by
 have h:x.ax.length≤16777216:=h;refine E7 Tryz.func173 fun W=>?_;refine B6 A0 rfl (Cn x.ax) (Bs) (fun _=>Sv x.ax) A7 (Ah ?_);exact An A0 rfl rfl ⟨⟨rfl,rfl,rfl,rfl,trivial⟩,trivial⟩
theorem S9 (x:B0)(h:x.w≤16777216):Di 117 [.agg x.c] [.agg x.c]:=by
 have h:x.ak.length+(x.ak.map C3.w).sum≤16777216:=h;refine E7 Tryz.func117 fun W=>?_;refine Xz 2 0 4 (fun i=>C3.c (([]:List C3).getD i default)) rfl rfl ?_
 refine W3 A0 false [] (fun k:Nat=>[(14,.c (vi k))]) (fun _=>[⟨0,[.c (At x.ak),.c (vi x.aq),.c (vi x.cap)]⟩,⟨2,[.own 3,.c (vi x.aq),.c (vi x.cap)]⟩,⟨1,[.any,.any,.any]⟩]) (fun k=>[⟨3,At (x.ak.take k)⟩])
  (fun k=>k≤x.ak.length) (fun k=>x.ak.length-k) 0 (Fe _) ⟨rfl,trivial⟩ V7 ⟨rfl,trivial⟩ trivial Am (fun k hk=>?_)
 conv=>whnf
 refine Dv (fun h=>?_) fun h=>?_
 ·have h:k<x.ak.length:=by omega
  have hle:=Iu C3.w x.ak k h;refine B4 ?_;refine D1k rfl [0,1,2,3,4,5,6,7] Am (Ah ?_);refine Gf (B5m (x.ak.getD k default) A7) ?_;refine Li A0 rfl rfl rfl rfl (Ah ?_);refine B6 A0 rfl (At (x.ak.take k++[x.ak.getD k default])) (Ao rfl) Hd (by simp only [F9];omega) (Em ?_);refine Cc [(3,7)] (k+1) A7 A7 ⟨rfl,trivial⟩ ⟨?_,trivial⟩;exact A6 At (Ep x.ak k h).symm
 refine An A0 rfl rfl ⟨⟨?_,rfl,rfl,trivial⟩,trivial⟩;exact A6 At (Ej _ _ A7)
theorem Sl (x:B0)(h:x.w≤16777216):Di 77 [.agg x.c] [.agg x.c]:=by
 have h:x.ak.length+(x.ak.map C3.w).sum≤16777216:=h;refine E7 Tryz.func77 fun W=>?_;refine Eu 3 (At []) rfl C0 ?_
 refine W3 A0 false [7] (fun k:Nat=>[(4,.c (vi k))]) (fun _=>[⟨0,[.c (At x.ak),.c (vi x.aq),.c (vi x.cap)]⟩,⟨2,[.own 3,.c (vi x.aq),.c (vi x.cap)]⟩,⟨1,[.any,.any,.any]⟩]) (fun k=>[⟨3,At (x.ak.take k)⟩])
  (fun k=>k≤x.ak.length) (fun k=>x.ak.length-k) 0 (Fe _) ⟨rfl,trivial⟩ V7 ⟨rfl,trivial⟩ trivial Am (fun k hk=>?_)
 conv=>whnf
 refine Dv (fun h=>?_) fun h=>?_
 ·have h:k<x.ak.length:=by omega
  have hle:=Iu C3.w x.ak k h;have ho:(x.ak.getD k default).ax.length≤16777216:=by simp only [C3.w] at hle;omega
  refine B4 ?_;refine B6 A0 rfl (Cn (x.ak.getD k default).ax) (Bs) (fun _=>Sv _) (by first|omega|(simp only [Bv];omega)) (Ah ?_);refine Li A0 rfl rfl rfl rfl (Ah ?_);refine B6 A0 rfl (At (x.ak.take k++[x.ak.getD k default])) (Ao rfl) Hd (by simp only [F9];omega) (Em ?_);refine Cc [(3,8)] (k+1) A7 A7 ⟨rfl,trivial⟩ ⟨?_,trivial⟩;exact A6 At (Ep x.ak k h).symm
 refine An A0 rfl rfl ⟨⟨?_,rfl,rfl,trivial⟩,trivial⟩;exact A6 At (Ej _ _ A7)
set_option maxHeartbeats 8000000 in
theorem Fc (x:A3)(h:x.w≤16777216):Di 102 [.agg x.c] [.agg x.c]:=by
 have hg:=A3.graph_le h;have h2:=h;simp only [A3.w,wS] at h2;refine B25 A0 false Tryz.func102 rfl Bq fun W us hul huv huo hp=>?_
 match us,hul with
 | [v0,v1,v2,v3,v4,v5,v6],_=>
 conv=>whnf
 refine C04 4 ?_;refine D24 A0 false (J:=Unit) [10,13,16,17] (fun _=>[(3,.box 2 0)]) (fun _=>[⟨2,[.own 3,.c (vi x.az.aq),.c (vi x.az.cap),.c (.val (.slice none 0 0)),.c (.val (.slice none 0 0)),.own 4,.own 5]⟩,⟨0,[.c (.val v0),.c (.val v1),.c (.val v2),.c (.val v3),.c (.val v4),.c (.val v5),.c (.val v6)]⟩,⟨1,[.c (.val (.slice none 0 0)),.c (vi 0),.c (vi 0),.c (.val (.slice none 0 0)),.c (.val (.slice none 0 0)),.c (.val (.slice none 0 0)),.c (.val (.slice none 0 0))]⟩]) (fun _=>[⟨3,At x.az.ak⟩,⟨4,Aw x.ap⟩,⟨5,Bf x.ac⟩]) (fun _=>True) ?_ ?_
 ·conv=>whnf
  refine J3 rfl (E5 0 rfl (E5 3 rfl (E5 6 rfl ?_)));refine Nu [2,5,8,9,10,11] [⟨1,9,.ra [v0,v1,v2]⟩,⟨4,12,.rd v5⟩,⟨7,15,.rd v6⟩] Am ?_;refine Nk (s1:=?_) (s2:=?_) A0 [2,5,8,9,10,11] 2 10 [5,8,9,10,11] [2,5,8,9,11] rfl rfl Am Dt Bq Bq ?_ ?_ ?_ ?_;rotate_left 2;refine Ah ?_;refine P8 hp 0 0 0 rfl ?_;refine P8 hp 0 1 1 rfl ?_;refine P8 hp 0 2 2 rfl ?_;refine Gf (S9 x.az hg) ?_;exact C2
  refine Nk (s1:=?_) (s2:=?_) A0 [5,8,9,10,11] 5 10 [8,9,10,11] [5,8,9,11] rfl rfl Am Dt Bq Bq ?_ ?_ ?_ ?_;rotate_left 2;refine Ah ?_;refine Jj hp 5 rfl 12 rfl ?_;refine B6 A0 rfl (Aw x.ap) (Bs) (fun _=>Mh x.ap) A7 (Ah ?_);exact C2
  refine Nk (s1:=?_) (s2:=?_) A0 [8,9,10,11] 8 10 [9,10,11] [8,9,11] rfl rfl Am Dt Bq Bq ?_ ?_ ?_ ?_;rotate_left 2;refine Ah ?_;refine Jj hp 6 rfl 15 rfl ?_;refine B6 A0 rfl (Bf x.ac) (Bs) (fun _=>H7 x.ac) A7 (Ah ?_);exact C2
  refine Nk (s1:=?_) (s2:=?_) A0 [9,10,11] 9 10 [10,11] [9,11] rfl rfl Am Dt Bq Bq ?_ ?_ ?_ ?_;rotate_left 2;refine Em ?_;exact C2
  refine My rfl Dt ?_;refine My rfl Dt ?_;refine Lr A0 Am Dt (GW.out (It ?_));conv=>whnf
  exact Cc [(2,9),(3,6),(4,7),(5,8)] () trivial Qx ⟨rfl,trivial⟩ ⟨rfl,rfl,rfl,trivial⟩
  refine Em ?_;exact C2
  refine My rfl Dt ?_;refine My rfl Dt ?_;refine Lr A0 Am Dt (GW.out (It ?_));conv=>whnf
  exact Cc [(2,9),(3,6),(4,7),(5,8)] () trivial Qx ⟨rfl,trivial⟩ ⟨rfl,rfl,rfl,trivial⟩
  refine Em ?_;exact C2
  refine Lg (s':=?_) rfl Dt ?_ ?_;rotate_left;refine Ah ?_;refine Jj hp 6 rfl 15 rfl ?_;refine B6 A0 rfl (Bf x.ac) (Bs) (fun _=>H7 x.ac) A7 (Ah ?_);exact C2
  refine My rfl Dt ?_;refine My rfl Dt ?_;refine Lr A0 Am Dt (GW.out (It ?_));conv=>whnf
  exact Cc [(2,8),(3,6),(4,7),(5,9)] () trivial Qx ⟨rfl,trivial⟩ ⟨rfl,rfl,rfl,trivial⟩
  refine Em ?_;exact C2
  refine Lg (s':=?_) rfl Dt ?_ ?_;rotate_left;refine Ah ?_;refine Jj hp 5 rfl 12 rfl ?_;refine B6 A0 rfl (Aw x.ap) (Bs) (fun _=>Mh x.ap) A7 (Ah ?_);exact C2
  refine Lg (s':=?_) rfl Dt ?_ ?_;rotate_left;refine Ah ?_;refine Jj hp 6 rfl 15 rfl ?_;refine B6 A0 rfl (Bf x.ac) (Bs) (fun _=>H7 x.ac) A7 (Ah ?_);exact C2
  refine My rfl Dt ?_;refine My rfl Dt ?_;refine Lr A0 Am Dt (GW.out (It ?_));conv=>whnf
  exact Cc [(2,7),(3,6),(4,8),(5,9)] () trivial Qx ⟨rfl,trivial⟩ ⟨rfl,rfl,rfl,trivial⟩
  refine Em ?_;exact C2
  refine Lg (s':=?_) rfl Dt ?_ ?_;rotate_left;refine Ah ?_;refine P8 hp 0 0 0 rfl ?_;refine P8 hp 0 1 1 rfl ?_;refine P8 hp 0 2 2 rfl ?_;refine Gf (S9 x.az hg) ?_;exact C2
  refine Lg (s':=?_) rfl Dt ?_ ?_;rotate_left;refine Ah ?_;refine Jj hp 5 rfl 12 rfl ?_;refine B6 A0 rfl (Aw x.ap) (Bs) (fun _=>Mh x.ap) A7 (Ah ?_);exact C2
  refine Lg (s':=?_) rfl Dt ?_ ?_;rotate_left;refine Ah ?_;refine Jj hp 6 rfl 15 rfl ?_;refine B6 A0 rfl (Bf x.ac) (Bs) (fun _=>H7 x.ac) A7 (Ah ?_);exact C2
  refine My rfl Dt ?_;refine My rfl Dt ?_;refine Lr A0 Am Dt (GW.out (It ?_));conv=>whnf
  exact Cc [(2,6),(3,7),(4,8),(5,9)] () trivial Qx ⟨rfl,trivial⟩ ⟨rfl,rfl,rfl,trivial⟩
 intro _ _;refine B4h hp 0 3 3 rfl rfl rfl ?_;refine B4h hp 0 4 4 rfl rfl rfl ?_;refine Xz 2 3 8 (fun i=>Ae.c (([]:List Ae).getD i default)) rfl rfl ?_;refine Xz 2 4 6 (fun i=>D5.c (([]:List D5).getD i default)) rfl rfl ?_;refine Ah ?_;refine Fx [] (fun k:Nat=>[(21,.c (vi k))]) (fun k=>[⟨2,[.own 3,.c (vi x.az.aq),.c (vi x.az.cap),.own 6,.own 7,.own 4,.own 5]⟩,⟨0,[.c (.val v0),.c (.val v1),.c (.val v2),.c (Af x.aq),.c (Ba x.ay),.c (.val v5),.c (.val v6)]⟩,⟨1,[.c (.val (.slice none 0 0)),.c (vi 0),.c (vi 0),.c (.val (.slice none 0 0)),.c (.val (.slice none 0 0)),.c (.val (.slice none 0 0)),.c (.val (.slice none 0 0))]⟩]) (fun k=>[⟨3,At x.az.ak⟩,⟨4,Aw x.ap⟩,⟨5,Bf x.ac⟩,⟨6,Af (x.aq.take k)⟩,⟨7,Ba []⟩]) (fun k=>k≤x.aq.length) (fun k=>x.aq.length-k) fun k hk=>?_;refine Dv (fun h'=>?_) fun h'=>?_
 ·have h':k<x.aq.length:=by omega
  have hw:=A3.worker_le h h';refine B4 ?_
  first|(refine Aj 1 rfl [0,1,3,4,6,7,2,5,8,9,10,11] Am (Ah ?_))|(refine Aj 5 rfl [0,1,2,3,4,5,6,7] Am (Ah ?_))|(refine Aj 10 rfl [0,1,2,3,4,5,6,7] Am (Ah ?_))
  refine B4 ?_;refine Gf (J6 (x.aq.getD k default) hw) ?_;refine Li A0 rfl rfl rfl rfl (Ah ?_);refine B6 A0 rfl (Af (x.aq.take k++[x.aq.getD k default])) (Ao rfl) Hd (by simp only [F9];omega) (Em ?_);refine Cc [(6,18)] (k+1) A7 A7 ⟨rfl,trivial⟩ ⟨rfl,rfl,rfl,A6 Af (Ep x.aq k h').symm,rfl,trivial⟩
 rw [Ej x.aq k A7];refine Fx [] (fun j:Nat=>[(36,.c (vi j))]) (fun j=>[⟨2,[.own 3,.c (vi x.az.aq),.c (vi x.az.cap),.own 6,.own 7,.own 4,.own 5]⟩,⟨0,[.c (.val v0),.c (.val v1),.c (.val v2),.c (Af x.aq),.c (Ba x.ay),.c (.val v5),.c (.val v6)]⟩,⟨1,[.c (.val (.slice none 0 0)),.c (vi 0),.c (vi 0),.c (.val (.slice none 0 0)),.c (.val (.slice none 0 0)),.c (.val (.slice none 0 0)),.c (.val (.slice none 0 0))]⟩]) (fun j=>[⟨3,At x.az.ak⟩,⟨4,Aw x.ap⟩,⟨5,Bf x.ac⟩,⟨6,Af x.aq⟩,⟨7,Ba (x.ay.take j)⟩]) (fun j=>j≤x.ay.length) (fun j=>x.ay.length-j) fun j hj=>?_;refine Dv (fun h''=>?_) fun h''=>?_
 ·have h'':j<x.ay.length:=by omega
  have hl:=A3.link_le h h'';refine B4 ?_
  first|(refine Aj 1 rfl [0,1,3,4,6,7,2,5,8,9,10,11] Am (Ah ?_))|(refine Aj 5 rfl [0,1,2,3,4,5,6,7] Am (Ah ?_))|(refine Aj 10 rfl [0,1,2,3,4,5,6,7] Am (Ah ?_))
  refine B4 ?_;refine Gf (Pt (x.ay.getD j default) hl) ?_;refine Li A0 rfl rfl rfl rfl (Ah ?_);refine B6 A0 rfl (Ba (x.ay.take j++[x.ay.getD j default])) (Ao rfl) Hd (by simp only [F9];omega) (Em ?_);refine Cc [(7,11)] (j+1) A7 A7 ⟨rfl,trivial⟩ ⟨rfl,rfl,rfl,rfl,A6 Ba (Ep x.ay j h'').symm,trivial⟩
 refine An A0 rfl rfl ⟨⟨rfl,rfl,rfl,rfl,?_,rfl,rfl,trivial⟩,trivial⟩;exact A6 Ba (Ej _ _ A7)
set_option maxHeartbeats 8000000 in
theorem A47 (x:A3)(h:x.w≤16777216):Di 156 [.agg x.c] [.agg x.c]:=by
 have hg:=A3.graph_le h;have h2:=h;simp only [A3.w,wS] at h2;refine B25 A0 false Tryz.func156 rfl Bq fun W us hul huv huo hp=>?_
 match us,hul with
 | [v0,v1,v2,v3,v4,v5,v6],_=>
 conv=>whnf
 refine C04 4 ?_;refine D24 A0 false (J:=Unit) [8,9,12,13,16,17] (fun _=>[(3,.box 2 0)]) (fun _=>[⟨2,[.own 3,.c (vi x.az.aq),.c (vi x.az.cap),.c (.val (.slice none 0 0)),.c (.val (.slice none 0 0)),.own 4,.own 5]⟩,⟨0,[.c (.val v0),.c (.val v1),.c (.val v2),.c (.val v3),.c (.val v4),.c (.val v5),.c (.val v6)]⟩,⟨1,[.c (.val (.slice none 0 0)),.c (vi 0),.c (vi 0),.c (.val (.slice none 0 0)),.c (.val (.slice none 0 0)),.c (.val (.slice none 0 0)),.c (.val (.slice none 0 0))]⟩]) (fun _=>[⟨3,At x.az.ak⟩,⟨4,Aw x.ap⟩,⟨5,Bf x.ac⟩]) (fun _=>True) ?_ ?_
 ·conv=>whnf
  refine J3 rfl (E5 0 rfl (E5 4 rfl (E5 8 rfl ?_)));refine Nu [2,6,10,11,12,13] [⟨1,7,.ra [v0,v1,v2]⟩,⟨3,9,.emp 5⟩,⟨5,11,.rd v5⟩,⟨7,13,.emp 3⟩,⟨9,15,.rd v6⟩] Am ?_;refine Nk (s1:=?_) (s2:=?_) A0 [2,6,10,11,12,13] 2 12 [6,10,11,12,13] [2,6,10,11,13] rfl rfl Am Dt Bq Bq ?_ ?_ ?_ ?_;rotate_left 2;refine Ah ?_;refine P8 hp 0 0 0 rfl ?_;refine P8 hp 0 1 1 rfl ?_;refine P8 hp 0 2 2 rfl ?_;refine Gf (Sl x.az hg) ?_;exact C2
  refine Nk (s1:=?_) (s2:=?_) A0 [6,10,11,12,13] 6 12 [10,11,12,13] [6,10,11,13] rfl rfl Am Dt Bq Bq ?_ ?_ ?_ ?_;rotate_left 2;refine Ah ?_;refine Jj hp 5 rfl 11 rfl ?_;refine B6 A0 rfl (Aw x.ap) (Bs) (fun _=>Mh x.ap) A7 (Ah ?_);exact C2
  refine Nk (s1:=?_) (s2:=?_) A0 [10,11,12,13] 10 12 [11,12,13] [10,11,13] rfl rfl Am Dt Bq Bq ?_ ?_ ?_ ?_;rotate_left 2;refine Ah ?_;refine Jj hp 6 rfl 15 rfl ?_;refine B6 A0 rfl (Bf x.ac) (Bs) (fun _=>H7 x.ac) A7 (Ah ?_);exact C2
  refine Nk (s1:=?_) (s2:=?_) A0 [11,12,13] 11 12 [12,13] [11,13] rfl rfl Am Dt Bq Bq ?_ ?_ ?_ ?_;rotate_left 2;refine Em ?_;exact C2
  refine My rfl Dt ?_;refine My rfl Dt ?_;refine Lr A0 Am Dt (GW.out (It ?_));conv=>whnf
  exact Cc [(2,11),(3,6),(4,8),(5,10)] () trivial Qx ⟨rfl,trivial⟩ ⟨rfl,rfl,rfl,trivial⟩
  refine Em ?_;exact C2
  refine My rfl Dt ?_;refine My rfl Dt ?_;refine Lr A0 Am Dt (GW.out (It ?_));conv=>whnf
  exact Cc [(2,11),(3,6),(4,8),(5,10)] () trivial Qx ⟨rfl,trivial⟩ ⟨rfl,rfl,rfl,trivial⟩
  refine Em ?_;exact C2
  refine Lg (s':=?_) rfl Dt ?_ ?_;rotate_left;refine Ah ?_;refine Jj hp 6 rfl 15 rfl ?_;refine B6 A0 rfl (Bf x.ac) (Bs) (fun _=>H7 x.ac) A7 (Ah ?_);exact C2
  refine My rfl Dt ?_;refine My rfl Dt ?_;refine Lr A0 Am Dt (GW.out (It ?_));conv=>whnf
  exact Cc [(2,9),(3,6),(4,8),(5,11)] () trivial Qx ⟨rfl,trivial⟩ ⟨rfl,rfl,rfl,trivial⟩
  refine Em ?_;exact C2
  refine Lg (s':=?_) rfl Dt ?_ ?_;rotate_left;refine Ah ?_;refine Jj hp 5 rfl 11 rfl ?_;refine B6 A0 rfl (Aw x.ap) (Bs) (fun _=>Mh x.ap) A7 (Ah ?_);exact C2
  refine Lg (s':=?_) rfl Dt ?_ ?_;rotate_left;refine Ah ?_;refine Jj hp 6 rfl 15 rfl ?_;refine B6 A0 rfl (Bf x.ac) (Bs) (fun _=>H7 x.ac) A7 (Ah ?_);exact C2
  refine My rfl Dt ?_;refine My rfl Dt ?_;refine Lr A0 Am Dt (GW.out (It ?_));conv=>whnf
  exact Cc [(2,7),(3,6),(4,9),(5,11)] () trivial Qx ⟨rfl,trivial⟩ ⟨rfl,rfl,rfl,trivial⟩
  refine Em ?_;exact C2
  refine Lg (s':=?_) rfl Dt ?_ ?_;rotate_left;refine Ah ?_;refine P8 hp 0 0 0 rfl ?_;refine P8 hp 0 1 1 rfl ?_;refine P8 hp 0 2 2 rfl ?_;refine Gf (Sl x.az hg) ?_;exact C2
  refine Lg (s':=?_) rfl Dt ?_ ?_;rotate_left;refine Ah ?_;refine Jj hp 5 rfl 11 rfl ?_;refine B6 A0 rfl (Aw x.ap) (Bs) (fun _=>Mh x.ap) A7 (Ah ?_);exact C2
  refine Lg (s':=?_) rfl Dt ?_ ?_;rotate_left;refine Ah ?_;refine Jj hp 6 rfl 15 rfl ?_;refine B6 A0 rfl (Bf x.ac) (Bs) (fun _=>H7 x.ac) A7 (Ah ?_);exact C2
  refine My rfl Dt ?_;refine My rfl Dt ?_;refine Lr A0 Am Dt (GW.out (It ?_));conv=>whnf
  exact Cc [(2,6),(3,7),(4,9),(5,11)] () trivial Qx ⟨rfl,trivial⟩ ⟨rfl,rfl,rfl,trivial⟩
 intro _ _;refine B4h hp 0 3 3 rfl rfl rfl ?_;refine B4h hp 0 4 4 rfl rfl rfl ?_;refine Xz 2 3 8 (fun i=>Ae.c (([]:List Ae).getD i default)) rfl rfl ?_;refine Xz 2 4 6 (fun i=>D5.c (([]:List D5).getD i default)) rfl rfl ?_;refine Ah ?_;refine Fx [] (fun k:Nat=>[(4,.c (vi k))]) (fun k=>[⟨2,[.own 3,.c (vi x.az.aq),.c (vi x.az.cap),.own 6,.own 7,.own 4,.own 5]⟩,⟨0,[.c (.val v0),.c (.val v1),.c (.val v2),.c (Af x.aq),.c (Ba x.ay),.c (.val v5),.c (.val v6)]⟩,⟨1,[.c (.val (.slice none 0 0)),.c (vi 0),.c (vi 0),.c (.val (.slice none 0 0)),.c (.val (.slice none 0 0)),.c (.val (.slice none 0 0)),.c (.val (.slice none 0 0))]⟩]) (fun k=>[⟨3,At x.az.ak⟩,⟨4,Aw x.ap⟩,⟨5,Bf x.ac⟩,⟨6,Af (x.aq.take k)⟩,⟨7,Ba []⟩]) (fun k=>k≤x.aq.length) (fun k=>x.aq.length-k) fun k hk=>?_;refine Dv (fun h'=>?_) fun h'=>?_
 ·have h':k<x.aq.length:=by omega
  have hw:=A3.worker_le h h';refine B4 ?_
  first|(refine Aj 1 rfl [0,1,4,5,8,9,2,3,6,7,10,11,12,13] Am (Ah ?_))|(refine Aj 5 rfl [0,1,2,3,4,5,6,7,8,9,10,11] Am (Ah ?_))|(refine Aj 9 rfl [0,1,2,3,4,5,6,7,8,9,10,11] Am (Ah ?_))
  refine B4 ?_;refine Gf (A8w (x.aq.getD k default) hw) ?_;refine Li A0 rfl rfl rfl rfl (Ah ?_);refine B6 A0 rfl (Af (x.aq.take k++[x.aq.getD k default])) (Ao rfl) Hd (by simp only [F9];omega) (Em ?_);refine Cc [(6,17)] (k+1) A7 A7 ⟨rfl,trivial⟩ ⟨rfl,rfl,rfl,A6 Af (Ep x.aq k h').symm,rfl,trivial⟩
 rw [Ej x.aq k A7];refine Fx [] (fun j:Nat=>[(5,.c (vi j))]) (fun j=>[⟨2,[.own 3,.c (vi x.az.aq),.c (vi x.az.cap),.own 6,.own 7,.own 4,.own 5]⟩,⟨0,[.c (.val v0),.c (.val v1),.c (.val v2),.c (Af x.aq),.c (Ba x.ay),.c (.val v5),.c (.val v6)]⟩,⟨1,[.c (.val (.slice none 0 0)),.c (vi 0),.c (vi 0),.c (.val (.slice none 0 0)),.c (.val (.slice none 0 0)),.c (.val (.slice none 0 0)),.c (.val (.slice none 0 0))]⟩]) (fun j=>[⟨3,At x.az.ak⟩,⟨4,Aw x.ap⟩,⟨5,Bf x.ac⟩,⟨6,Af x.aq⟩,⟨7,Ba (x.ay.take j)⟩]) (fun j=>j≤x.ay.length) (fun j=>x.ay.length-j) fun j hj=>?_;refine Dv (fun h''=>?_) fun h''=>?_
 ·have h'':j<x.ay.length:=by omega
  have hl:=A3.link_le h h'';refine B4 ?_
  first|(refine Aj 1 rfl [0,1,4,5,8,9,2,3,6,7,10,11,12,13] Am (Ah ?_))|(refine Aj 5 rfl [0,1,2,3,4,5,6,7,8,9,10,11] Am (Ah ?_))|(refine Aj 9 rfl [0,1,2,3,4,5,6,7,8,9,10,11] Am (Ah ?_))
  refine B4 ?_;refine Gf (Pz (x.ay.getD j default) hl) ?_;refine Li A0 rfl rfl rfl rfl (Ah ?_);refine B6 A0 rfl (Ba (x.ay.take j++[x.ay.getD j default])) (Ao rfl) Hd (by simp only [F9];omega) (Em ?_);refine Cc [(7,10)] (j+1) A7 A7 ⟨rfl,trivial⟩ ⟨rfl,rfl,rfl,rfl,A6 Ba (Ep x.ay j h'').symm,trivial⟩
 refine An A0 rfl rfl ⟨⟨rfl,rfl,rfl,rfl,?_,rfl,rfl,trivial⟩,trivial⟩;exact A6 Ba (Ej _ _ A7)
def N7 (w:ByteArray):Nat→Int
 | 0=>0
 |k+1=>if C8 ((k:Int)+1)=w then (k:Int)+1 else N7 w k
theorem Zf {w:ByteArray}:∀(n:Nat),N7 w n≠0→∃j,j<n∧N7 w n=(j:Int)+1∧C8 ((j:Int)+1)=w
 | 0,h=>absurd rfl h
 |n+1,h=>by
  rw [N7] at h ⊢
  by_cases c:C8 ((n:Int)+1)=w
  ·rw [Ak c]
   exact ⟨n,by omega,rfl,c⟩
  rw [Ab c] at h ⊢;obtain ⟨j,h1,h2,h3⟩:=Zf n h;exact ⟨j,by omega,h2,h3⟩
def D2a (w:ByteArray):Nat:=if w=(⟨#[105,110]⟩:ByteArray) then 0 else if w=(⟨#[97,100,100]⟩:ByteArray) then 1 else if w=(⟨#[107,101,101,112]⟩:ByteArray) then 2 else if w=(⟨#[109,111,118,101]⟩:ByteArray) then 3 else if w=(⟨#[109,105,110]⟩:ByteArray) then 4 else if w=(⟨#[110,101,119]⟩:ByteArray) then 5 else if w=(⟨#[98,97,99,107]⟩:ByteArray) then 6 else 7
theorem A4a:∀{k:Nat},k<8→D2a (C8 ((k:Int)+1))=k
 | 0,_=>by decide
 | 1,_=>by decide
 | 2,_=>by decide
 | 3,_=>by decide
 | 4,_=>by decide
 | 5,_=>by decide
 | 6,_=>by decide
 | 7,_=>by decide
 |k+8,h=>by omega
theorem A4c (w:ByteArray)(n:Nat):0≤N7 w n∧N7 w n≤n:=by
 induction n with
 |zero=>exact ⟨Tj _,Tj _⟩
 |succ n ih=>
  rw [N7]
  split<;>omega
theorem C64 {w:ByteArray}{k:Nat}(hk:k<8)(h:C8 ((k:Int)+1)=w):N7 w 8=(k:Int)+1:=by
 have hne:∀n,k<n→n≤8→N7 w n≠0:=fun n h1 h2=>by
  induction n with
  |zero=>omega
  |succ n ih=>
   rw [N7]
   by_cases c:C8 ((n:Int)+1)=w
   ·rw [Ak c];omega
   rw [Ab c]
   by_cases e:k=n
   ·exact absurd (e▸h) c
   exact ih A7 A7
 obtain ⟨j,h1,h2,h3⟩:=Zf 8 (hne 8 hk (Ds _));have e1:=A4a h1;have e2:=A4a hk;rw [h3] at e1;rw [h] at e2;rw [h2,←e1,e2]
def Rn (s:ByteArray):C3:=⟨N7 ((A5 s).getD 1 default) 8,Es (A5 s) 2,Es (A5 s) 3,Gp (A5 s) 4⟩
def Hr (s:ByteArray):Prop:=Gx s∧4≤(A5 s).length∧Jg (Rn s)∧Dz (Rn s)=D6 (A5 s)
instance (s:ByteArray):Decidable (Hr s):=by unfold Hr;infer_instance
def Gl (s:ByteArray):C3:=if Hr s then Rn s else default
def F0 (s:ByteArray):Bool:=decide (Hr s)
variable {s : ByteArray}
theorem Jo (h:¬ Hr s):Gl s=default∧F0 s=false:=⟨Ab h,Cd h⟩
theorem A4o (h:Hr s):Gl s=Rn s∧F0 s=true:=⟨Ak h,Dc h⟩
theorem A74:∀(l:List Int) (q:List ByteArray),q≠[]→Rp (D6 q) l=D6 (q++l.map I9)
 | [],q,_=>by rw [Wx,I4];rfl
 |n::l,q,h=>by
  have e:Rp (D6 q) (n::l)=Rp (D6 (q++[I9 n])) l:=by
   rw [Zc q (I9 n) h];rfl
  rw [e,A74 l (q++[I9 n]) Ey,Cr];rfl
theorem C4c (a s:ByteArray):∀(l:List Int),a++Rp s l=Rp (a++s) l:=fun l=>by
 induction l generalizing s with
 |nil=>rfl
 |cons n l ih=>
  show a++Rp (s++(⟨#[32]⟩:ByteArray)++I9 n) l=Rp (a++s++(⟨#[32]⟩:ByteArray)++I9 n) l
  rw [ih];simp only [A9u]
def C1r (x:C3):List ByteArray:=(⟨#[110,111,100,101]⟩:ByteArray)::C8 x.kind::I9 x.a::I9 x.b::x.ax.map I9
variable {x : C3}
theorem Yf (h:Jg x):Dz x=D6 (C1r x):=by
 rw [Dz,Ak (show Lj x=true from Dc h),Qk,C4c]
 have e:(⟨#[110,111,100,101,32]⟩:ByteArray)++(C8 x.kind++(⟨#[32]⟩:ByteArray)++I9 x.a++(⟨#[32]⟩:ByteArray)++I9 x.b)=D6 [(⟨#[110,111,100,101]⟩:ByteArray),C8 x.kind,I9 x.a,I9 x.b]:=by
  apply Tg
  apply A0n.1
  simp [D6,A37,Lib.join_one,Wz]
 rw [e,A74 _ _ Ey];rfl
theorem B6w (h:Jg x):Dz x≠(⟨#[]⟩:ByteArray):=by
 intro e;rw [Dz,Ak (show Lj x=true from Dc h)] at e
 have:=A6 ByteArray.size e
 simp only [Gr,bsz,Gq,Fb,H3] at this;omega
theorem B32 (h:¬ Jg x):Dz x=(⟨#[]⟩:ByteArray):=by
 rw [Dz,Ab (by rw [Lj,Cd h];decide)]
theorem A4b (k:Int):noB (C8 k):=by
 by_cases h:1≤k∧k≤8
 ·have:k=1∨k=2∨k=3∨k=4∨k=5∨k=6∨k=7∨k=8:=by omega
  rcases this with rfl|rfl|rfl|rfl|rfl|rfl|rfl|rfl<;>(show (32:UInt8)∉_;decide)
 rw [C8,Ab h];show (32:UInt8)∉_;decide
variable {p : List ByteArray}
theorem Ro {w:Nat}{n:Int}(h:n∈Gp p w):0≤n∧n≤1000000000:=by
 obtain ⟨b,_,rfl⟩:=Fm.1 h;exact B2b b
theorem B0j (h:Hr s):Ql (A5 s) 2=true:=by
 obtain ⟨h1,h2,h3,h4⟩:=h;rw [Yf h3] at h4;have r1:=Cj (A5 s) 2;have r2:=Cj (A5 s) 3;have hp:A5 s≠[]:=fun e=>by rw [e] at h2;exact absurd h2 Bq
 have e:=T1 (by simp [C1r]) hp (fun x hx=>by
  rcases Ch.1 hx with rfl|hx
  ·show (32:UInt8)∉_;decide
  rcases Ch.1 hx with rfl|hx
  ·exact A4b _
  rcases Ch.1 hx with rfl|hx
  ·exact Ke r1.1
  rcases Ch.1 hx with rfl|hx
  ·exact Ke r2.1
  obtain ⟨n,hn,rfl⟩:=Fm.1 hx
  exact Ke (Ro hn).1) (T3 s) h4
 rw [←e];simp only [C1r,Ql,X1,A0q,Wy,Ci];refine ⟨Nc r1,Nc r2,Jc.2 fun x hx=>?_⟩;obtain ⟨n,hn,rfl⟩:=Fm.1 hx;exact Nc (Ro hn)
theorem C37 {w:Nat}:∀n∈Gp p w,Gv .i64 n:=fun n hn=>by
 have:=Ro hn
 show _∧_
 omega
theorem Px (s:ByteArray)(w:Nat):(Gp (A5 s) w).length≤12:=by
 have:=Hf s
 rw [Hs];omega
theorem B2c (s:ByteArray)(k:Int)(hk:0≤k∧k≤8):(⟨k,Es (A5 s) 2,Es (A5 s) 3,Gp (A5 s) 4⟩:C3).ok:=by
 have r1:=Cj (A5 s) 2;have r2:=Cj (A5 s) 3;have h4:=Px s 4;refine ⟨?_,?_,?_,?_,C37⟩
 ·show _∧_;dsimp only;omega
 ·show _∧_;dsimp only;omega
 ·show _∧_;dsimp only;omega
 show (Gp (A5 s) 4).length≤maxLen;rw [maxLen];omega
theorem Uc {k:Nat}(hk:k<8)(hkn:C8 ((k:Int)+1)=(A5 s).getD 1 default):Rn s=⟨(k:Int)+1,Es (A5 s) 2,Es (A5 s) 3,Gp (A5 s) 4⟩:=by
 rw [Rn,C64 hk hkn]
theorem B0i (h:Hr s):∃j:Nat,j<8∧C8 ((j:Int)+1)=(A5 s).getD 1 default:=by
 have h1:=h.2.2.1.1
 obtain ⟨j,hj,_,hn⟩:=Zf (w:=(A5 s).getD 1 default) 8 (fun e=>by
  have h1:1≤N7 ((A5 s).getD 1 default) 8:=h1.1
  omega)
 exact ⟨j,hj,hn⟩
theorem A2v {w:ByteArray}{k:Nat}(h:∀j:Nat,j<k→C8 ((j:Int)+1)≠w)(hk:C8 ((k:Int)+1)≠w):∀j:Nat,j<k+1→C8 ((j:Int)+1)≠w:=fun j hj=>by
 by_cases e:j=k
 ·rw [e];exact hk
 exact h j A7
theorem B4o (s:ByteArray)(hs:s.size≤1048576):Di 148 [.one (vs s)] [.agg (Gl s).c,.one (vb (F0 s))]:=by
 have hp:=G8 s;have hl:=Hf s;refine E7 Tryz.func148 fun W=>?_
 repeat' (first|(refine Ho ?_;conv=>whnf)|(refine Hp ?_;conv=>whnf)|(refine ⟨fun h=>?_,fun h=>?_⟩<;>conv=>whnf)|(refine Aq (Rv s hs) rfl (Ah ?_))|(refine Aq (Ru (A5 s) 2 hp hl Bq) rfl (It ?_);conv=>whnf)|(refine Aq (Ru (A5 s) 3 hp hl Bq) rfl (It ?_);conv=>whnf)|(refine Cp ?_;conv=>whnf)|(refine Aj 8 rfl [0,2,3,4,1,5] Am (Ah ?_))|(refine Aj 13 rfl [0,1,2,3,4,5,6,7,8] Am (Ah ?_))|fail)
 ·obtain ⟨hv,hb⟩:=Jo (s:=s) (fun c=>by rw [Mi c.1] at h;exact absurd h Bq)
  rw [hv,hb];exact An A0 rfl rfl ⟨⟨rfl,rfl,rfl,.inr ⟨rfl,rfl,_,_,rfl⟩,trivial⟩,rfl,trivial⟩
 ·obtain ⟨hv,hb⟩:=Jo (s:=s) (fun c=>by have:=Bn h;have:=c.2.1;omega)
  rw [hv,hb];exact An A0 rfl rfl ⟨⟨rfl,rfl,rfl,.inr ⟨rfl,rfl,_,_,rfl⟩,trivial⟩,rfl,trivial⟩
 rename_i g1
 have hP:Gx s:=Bn (show Gk s=true by simpa using g1)
 have h4:4≤(A5 s).length:=by have:=Cv h;omega
 refine Fx [] (fun k:Nat=>[(7,.c (vi ((k:Int)+1)))]) (fun k=>[⟨0,[.c (vi 0),.c (vi 0),.c (vi 0),.v (.slice none 0 0)]⟩,⟨1,[.c (vi (N7 ((A5 s).getD 1 default) k)),.c (vi (Es (A5 s) 2)),.c (vi (Es (A5 s) 3)),.v (.slice none 0 0)]⟩]) (fun k=>[]) (fun k=>k≤8) (fun k=>8-k) fun k hk=>?_;refine C1 (fun hk=>?_) fun hk=>?_
 ·have hk:k<8:=by have:=Bn hk;omega
  have hr:=A4c ((A5 s).getD 1 default) k
  repeat' (first|(refine Ho ?_;conv=>whnf)|(refine Hp ?_;conv=>whnf)|(refine ⟨fun h=>?_,fun h=>?_⟩<;>conv=>whnf)|(refine Aq (A14 ((k:Int)+1)) rfl (It ?_);conv=>whnf)|(refine Cp ?_;conv=>whnf)|(refine Aj 8 rfl [0,2,3,4,1,5] Am (Ah ?_))|(refine Aj 13 rfl [0,1,2,3,4,5,6,7,8] Am (Ah ?_))|fail)
  ·have e:N7 ((A5 s).getD 1 default) (k+1)=(k:Int)+1:=by rw [N7,Ak (show C8 ((k:Int)+1)=(A5 s).getD 1 default from Kl h)]
   refine A7t [] (k+1) A7 A7 ⟨rfl,trivial⟩ trivial (by rw [e];repeat' (first|exact trivial|exact rfl|refine ⟨?_,?_⟩)) Am ab8 Am
  have e:N7 ((A5 s).getD 1 default) (k+1)=N7 ((A5 s).getD 1 default) k:=by rw [N7,Ab (fun d=>by have d:C8 ((k:Int)+1)=(A5 s).getD (Int.toNat 1) default:=d;rw [d,Fj] at h;exact absurd h Bq)]
  refine A7t [] (k+1) A7 A7 ⟨rfl,trivial⟩ trivial (by rw [e];repeat' (first|exact trivial|exact rfl|refine ⟨?_,?_⟩)) Am ab8 Am
 have hk:k=8:=by have:=Cv hk;omega
 rw [hk];refine Xz 1 3 1 (fun i=>(fun n=>[vi n]) (([]:List Int).getD i default)) rfl rfl ?_;have hnl:(Gp (A5 s) 4).length=(A5 s).length-4:=Hs _ _;have hr:=A4c ((A5 s).getD 1 default) 8;refine Fx [] (fun k:Nat=>[(8,.c (vi ((k:Int)+4)))]) (fun k=>[⟨0,[.c (vi 0),.c (vi 0),.c (vi 0),.v (.slice none 0 0)]⟩,⟨1,[.c (vi (N7 ((A5 s).getD 1 default) 8)),.c (vi (Es (A5 s) 2)),.c (vi (Es (A5 s) 3)),.own 2]⟩]) (fun k=>[⟨2,Cn ((Gp (A5 s) 4).take k)⟩]) (fun k=>k≤(Gp (A5 s) 4).length) (fun k=>(Gp (A5 s) 4).length-k) fun k hk=>?_;refine C1 (fun h'=>?_) fun h'=>?_
 ·have h':k<(Gp (A5 s) 4).length:=by have:=Bn h';omega
  have hr:=Cj (A5 s) (k+4)
  have hg:Es (A5 s) (k+4)=(Gp (A5 s) 4).getD k default:=by
   rw [Es,Ak A7,Gp];simp only [B42,Fa,Tf];rw [A0l 4 k,Dl (show k+4<(A5 s).length by omega)]
   rfl
  repeat' (first|(refine Ho ?_;conv=>whnf)|(refine Hp ?_;conv=>whnf)|(refine ⟨fun h=>?_,fun h=>?_⟩<;>conv=>whnf)|(refine Aq (Ru (A5 s) (k+4) hp hl A7) rfl (It ?_);conv=>whnf)|(refine Cp ?_;conv=>whnf)|(refine Aj 8 rfl [0,2,3,4,1,5] Am (Ah ?_))|(refine Aj 13 rfl [0,1,2,3,4,5,6,7,8] Am (Ah ?_))|fail)
  rw [hg];refine B6 A0 rfl (Cn ((Gp (A5 s) 4).take k++[(Gp (A5 s) 4).getD k default])) (Ao rfl) Hd Pn (Em ?_);refine Cc [(2,4)] (k+1) A7 A7 ⟨rfl,trivial⟩ ⟨A6 Cn (Ep _ _ h').symm,trivial⟩
 have h':k=(Gp (A5 s) 4).length:=by have:=Cv h';omega
 have ox:(Rn s).ok:=B2c s _ hr;have hx:(Rn s).w≤1048576:=by have:=Px s 4;show (Gp (A5 s) 4).length≤1048576;omega
 rw [h',H4]
 repeat' (first|(refine Ho ?_;conv=>whnf)|(refine Hp ?_;conv=>whnf)|(refine ⟨fun h=>?_,fun h=>?_⟩<;>conv=>whnf)|(refine Aq (A16 (Rn s) ox hx) rfl (It ?_);conv=>whnf)|(refine Aq (A8z (A5 s) hp hl) rfl (It ?_);conv=>whnf)|(refine Cp ?_;conv=>whnf)|(refine Aj 8 rfl [0,2,3,4,1,5] Am (Ah ?_))|(refine Aj 13 rfl [0,1,2,3,4,5,6,7,8] Am (Ah ?_))|fail)
 ·obtain ⟨hv,hb⟩:=Jo (s:=s) (fun c=>B6w c.2.2.1 (Kl h))
  rw [hv,hb];exact An A0 rfl rfl ⟨⟨rfl,rfl,rfl,.inr ⟨rfl,rfl,_,_,rfl⟩,trivial⟩,rfl,trivial⟩
 ·obtain ⟨hv,hb⟩:=Jo (s:=s) (fun c=>by rw [c.2.2.2,Fj] at h;exact absurd h Bq)
  rw [hv,hb];exact An A0 rfl rfl ⟨⟨rfl,rfl,rfl,.inr ⟨rfl,rfl,_,_,rfl⟩,trivial⟩,rfl,trivial⟩
 rename_i g3
 have hN:Jg (Rn s):=by
  by_cases c:Jg (Rn s)
  ·exact c
  exfalso
  rw [B32 c,Fj] at g3;exact absurd g3 Bq
 have hj:Dz (Rn s)=D6 (A5 s):=Kl (by simpa using h);obtain ⟨hv,hb⟩:=A4o (s:=s) ⟨hP,h4,hN,hj⟩;rw [hv,hb];exact An A0 rfl rfl ⟨⟨rfl,rfl,rfl,rfl,trivial⟩,rfl,trivial⟩
end Go.Proofs.YtmhcebdkjgkmlaaGreatDoor
