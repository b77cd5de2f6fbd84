/- Part 26 of the proof that each of the laws FnTight returns true for every input. No conditions. -/
import Derived.Test.YtonodkjaoalfjaaP25
import Derived.Test.YtonodkjaoalfjaaP8
import Derived.Test.YtonodkjaoalfjaaP10
import Derived.Test.YtonodkjaoalfjaaP23
import Derived.Test.YtonodkjaoalfjaaP24

set_option linter.unusedSimpArgs false
set_option linter.unusedVariables false
set_option maxRecDepth 100000
namespace Go.Proofs.Ytonodkjaoalfjaa
open Go.Sx
def InP (r:Ac):Prop:=Gt r∧r.op=0∧r.stamp.turn=0
theorem Nz {g:An}{l:List Ac}(h:¬ Rs g l):Ej g l=(L4,false):=if_neg h
theorem N3 {g:An}{l:List Ac}(h:Rs g l):Ej g l=(⟨g,D6 g.workers l g.workers.toNat,List.replicate (g.workers.toNat * g.workers.toNat) (Gm g.cap),List.replicate 4 default,[]⟩,true):=if_pos h
theorem St (n:Int)(l:List Ac)(k:Nat):D6 n l (k+1)=D6 n l k++[J9 (Ka n l k 4)]:=by
 rw [D6,List.range_succ,List.map_append]
 rfl
theorem Ql (n:Int)(l:List Ac)(k:Nat):(D6 n l k).length=k:=by rw [D6,List.length_map,List.length_range]
set_option maxHeartbeats 8000000 in
theorem Rb (g:An)(l:List Ac)(hg:g.w≤16777216)(hl:l.length≤16777216):Bp Try.prog 7 [.agg g.c,.one (A8 l)] [.agg (Ej g l).1.c,.one (vb (Ej g l).2)]:=by
 refine Bm A0 false Try.func7 rfl Cb fun W=>?_
 conv=>whnf
 refine B7 (Is g Ag) rfl (Af ?_)
 refine ⟨fun h1=>?_,fun h1=>?_⟩<;>conv=>whnf
 ·have h1:Jq g=false:=by simpa using h1
  repeat refine Bg ?_
  rw [Nz (fun p=>absurd p.1 (of_decide_eq_false h1))]
  refine B1 A0 rfl rfl ?_
  exact C1
 have h1:Fh g:=of_decide_eq_true (show Jq g=true by simpa using h1)
 repeat refine Bg ?_
 refine ⟨fun h2=>?_,fun h2=>?_⟩<;>conv=>whnf
 ·have h2:¬ l.length≤20:=by have:=of_decide_eq_true h2;omega
  repeat refine Bg ?_
  rw [Nz (fun p=>h2 p.2.1)]
  refine B1 A0 rfl rfl ?_
  exact C1
 have h2:l.length≤20:=by have:=of_decide_eq_false h2;omega
 repeat refine Bg ?_
 have hwk:=h1.2.1
 obtain ⟨n,hn⟩:∃n:Nat,g.workers=n:=⟨g.workers.toNat,by omega⟩
 refine Cc A0 false [] (fun k:Nat=>[(6,.c (vi k))]) (fun k=>[⟨0,[.c (Bt g.nodes),.c (vi g.workers),.c (vi g.cap)]⟩,⟨1,[.c (.val (.slice none 0 0)),.c (vi 0),.c (vi 0),.c (.val (.slice none 0 0)),.c (.val (.slice none 0 0)),.c (.val (.slice none 0 0)),.c (.val (.slice none 0 0))]⟩]) (fun k=>[])
  (fun k=>k≤l.length∧∀i,i<k→InP (l.getD i default)) (fun k=>l.length-k) 0 ⟨Nat.zero_le _,by first|rfl|assumption|simp⟩ ⟨by first|rfl|simp [Dc,ren2,ren1,ren0],trivial⟩ D8 trivial Dg A6 (fun k hk=>?_)
 obtain ⟨hk,he⟩:=hk
 conv=>whnf
 conv=>whnf
 refine G2 (fun h3=>?_) fun h3=>?_<;>conv=>whnf
 ·have h3:k<l.length:=by omega
  (repeat refine Ak ?_)
  refine B7 (Ft (l.getD k default)) rfl (Af ?_)
  repeat refine Bg ?_
  refine ⟨fun h4=>?_,fun h4=>?_⟩<;>conv=>whnf
  ·have h4:Gp (l.getD k default)=false:=by simpa using h4
   repeat refine Bg ?_
   rw [Nz (fun p=>absurd (p.2.2 _ (B9 h3)).1 (of_decide_eq_false h4))]
   refine B1 A0 rfl rfl ?_
   exact C1
  have h4:Gt (l.getD k default):=of_decide_eq_true (show Gp (l.getD k default)=true by simpa using h4)
  repeat refine Bg ?_
  (repeat refine Ak ?_)
  refine ⟨fun h5=>have h5:=bne_iff_ne.1 h5;?_,fun h5=>have h5:=bne_eq_false_iff_eq.1 h5;?_⟩<;>conv=>whnf
  ·have h5:(l.getD k default).op≠0:=h5
   repeat refine Bg ?_
   rw [Nz (fun p=>h5 (p.2.2 _ (B9 h3)).2.1)]
   refine B1 A0 rfl rfl ?_
   exact C1
  have h5:(l.getD k default).op=0:=h5
  repeat refine Bg ?_
  (repeat refine Ak ?_)
  refine ⟨fun h6=>have h6:=bne_iff_ne.1 h6;?_,fun h6=>have h6:=bne_eq_false_iff_eq.1 h6;?_⟩<;>conv=>whnf
  ·have h6:(l.getD k default).stamp.turn≠0:=h6
   repeat refine Bg ?_
   rw [Nz (fun p=>h6 (p.2.2 _ (B9 h3)).2.2)]
   refine B1 A0 rfl rfl ?_
   exact C1
  have h6:(l.getD k default).stamp.turn=0:=h6
  repeat refine Bg ?_
  (repeat refine Ak ?_)
  refine B8 [] (k+1) ⟨by omega,fun i hi=>(Nat.lt_succ_iff_lt_or_eq.1 hi).elim (fun h7=>he i h7) (fun h7=>by subst h7;exact ⟨h4,h5,h6⟩)⟩ Ag ⟨rfl,trivial⟩ trivial D8 A6 Dg A6
 have hN:Rs g l:=⟨h1,h2,fun r hr=>by
  obtain ⟨i,hi,rfl⟩:=List.getElem_of_mem hr
  have:=he i Ag
  rw [show l.getD i default=l[i] by simp [List.getD,hi]] at this
  exact this⟩
 rw [N3 hN]
 refine A52 3 ?_
 refine A68 A0 false (J:=Unit) [49,50,51,52] (fun _=>[(7,.box 2 0)]) (fun _=>[⟨2,[.own 3,.c (vi g.workers),.c (vi g.cap),.c (.val (.slice none 0 0)),.c (.val (.slice none 0 0)),.own 4,.c (.val (.slice none 0 0))]⟩,⟨0,[.c (Bt g.nodes),.c (vi g.workers),.c (vi g.cap)]⟩,⟨1,[.c (.val (.slice none 0 0)),.c (vi 0),.c (vi 0),.c (.val (.slice none 0 0)),.c (.val (.slice none 0 0)),.c (.val (.slice none 0 0)),.c (.val (.slice none 0 0))]⟩]) (fun _=>[⟨3,Bt g.nodes⟩,⟨4,Cl (List.replicate 4 default)⟩]) (fun _=>True) ?_ (fun _ _=>?_)
 ·conv=>whnf
  refine Y7 rfl ?_
  refine A4 [0,2,4] A6 ⟨?_,?_,?_,trivial⟩
  focus
   refine go A0 false ?_
   conv=>whnf
   refine A5 ?_
   refine A4 [1,2,4] A6 ⟨?_,?_,?_,trivial⟩
   focus
    refine go A0 false ?_
    conv=>whnf
    refine Dk (Ch g hg) rfl (Af ?_)
    refine A5 ?_
    refine A4 [2,4] A6 ⟨?_,?_,trivial⟩
    focus
     refine go A0 false ?_
     conv=>whnf
     (repeat refine Ak ?_)
     refine A5 ?_
     refine A4 [3,4] A6 ⟨?_,?_,trivial⟩
     focus
      refine go A0 false ?_
      conv=>whnf
      refine A5 ?_
      refine A4 [4] A6 ⟨?_,trivial⟩
      refine go A0 false ?_
      conv=>whnf
      refine A5 ?_
      refine A4 [5] A6 ⟨?_,trivial⟩
      refine go A0 false ?_
      conv=>whnf
      refine A5 ?_
      refine Ba A6 (Af ?_)
     rotate_left 1
     focus
      refine go A0 false ?_
      conv=>whnf
      refine A5 ?_
      refine A4 [3] A6 ⟨?_,trivial⟩
      refine go A0 false ?_
      conv=>whnf
      refine A5 ?_
      refine A4 [5] A6 ⟨?_,trivial⟩
      refine go A0 false ?_
      conv=>whnf
      refine A5 ?_
      refine Ba A6 (Af ?_)
    rotate_left 2
    focus
     refine go A0 false ?_
     conv=>whnf
     refine A5 ?_
     refine A4 [2] A6 ⟨?_,trivial⟩
     refine go A0 false ?_
     conv=>whnf
     (repeat refine Ak ?_)
     refine A5 ?_
     refine A4 [3] A6 ⟨?_,trivial⟩
     refine go A0 false ?_
     conv=>whnf
     refine A5 ?_
     refine A4 [5] A6 ⟨?_,trivial⟩
     refine go A0 false ?_
     conv=>whnf
     refine A5 ?_
     refine Ba A6 (Af ?_)
   rotate_left 3
   focus
    refine go A0 false ?_
    conv=>whnf
    (repeat refine Ak ?_)
    refine A5 ?_
    refine A4 [1,4] A6 ⟨?_,?_,trivial⟩
    focus
     refine go A0 false ?_
     conv=>whnf
     refine Dk (Ch g hg) rfl (Af ?_)
     refine A5 ?_
     refine A4 [3,4] A6 ⟨?_,?_,trivial⟩
     focus
      refine go A0 false ?_
      conv=>whnf
      refine A5 ?_
      refine A4 [4] A6 ⟨?_,trivial⟩
      refine go A0 false ?_
      conv=>whnf
      refine A5 ?_
      refine A4 [5] A6 ⟨?_,trivial⟩
      refine go A0 false ?_
      conv=>whnf
      refine A5 ?_
      refine Ba A6 (Af ?_)
     rotate_left 1
     focus
      refine go A0 false ?_
      conv=>whnf
      refine A5 ?_
      refine A4 [3] A6 ⟨?_,trivial⟩
      refine go A0 false ?_
      conv=>whnf
      refine A5 ?_
      refine A4 [5] A6 ⟨?_,trivial⟩
      refine go A0 false ?_
      conv=>whnf
      refine A5 ?_
      refine Ba A6 (Af ?_)
    rotate_left 2
    focus
     refine go A0 false ?_
     conv=>whnf
     refine A5 ?_
     refine A4 [1] A6 ⟨?_,trivial⟩
     refine go A0 false ?_
     conv=>whnf
     refine Dk (Ch g hg) rfl (Af ?_)
     refine A5 ?_
     refine A4 [3] A6 ⟨?_,trivial⟩
     refine go A0 false ?_
     conv=>whnf
     refine A5 ?_
     refine A4 [5] A6 ⟨?_,trivial⟩
     refine go A0 false ?_
     conv=>whnf
     refine A5 ?_
     refine Ba A6 (Af ?_)
   rotate_left 3
   focus
    refine go A0 false ?_
    conv=>whnf
    refine A5 ?_
    refine A4 [1,2] A6 ⟨?_,?_,trivial⟩
    focus
     refine go A0 false ?_
     conv=>whnf
     refine Dk (Ch g hg) rfl (Af ?_)
     refine A5 ?_
     refine A4 [2] A6 ⟨?_,trivial⟩
     refine go A0 false ?_
     conv=>whnf
     (repeat refine Ak ?_)
     refine A5 ?_
     refine A4 [3] A6 ⟨?_,trivial⟩
     refine go A0 false ?_
     conv=>whnf
     refine A5 ?_
     refine A4 [5] A6 ⟨?_,trivial⟩
     refine go A0 false ?_
     conv=>whnf
     refine A5 ?_
     refine Ba A6 (Af ?_)
    rotate_left 1
    focus
     refine go A0 false ?_
     conv=>whnf
     (repeat refine Ak ?_)
     refine A5 ?_
     refine A4 [1] A6 ⟨?_,trivial⟩
     refine go A0 false ?_
     conv=>whnf
     refine Dk (Ch g hg) rfl (Af ?_)
     refine A5 ?_
     refine A4 [3] A6 ⟨?_,trivial⟩
     refine go A0 false ?_
     conv=>whnf
     refine A5 ?_
     refine A4 [5] A6 ⟨?_,trivial⟩
     refine go A0 false ?_
     conv=>whnf
     refine A5 ?_
     refine Ba A6 (Af ?_)
  rotate_left 8
  focus
   refine go A0 false ?_
   conv=>whnf
   (repeat refine Ak ?_)
   refine A5 ?_
   refine A4 [0,4] A6 ⟨?_,?_,trivial⟩
   focus
    refine go A0 false ?_
    conv=>whnf
    refine A5 ?_
    refine A4 [1,4] A6 ⟨?_,?_,trivial⟩
    focus
     refine go A0 false ?_
     conv=>whnf
     refine Dk (Ch g hg) rfl (Af ?_)
     refine A5 ?_
     refine A4 [3,4] A6 ⟨?_,?_,trivial⟩
     focus
      refine go A0 false ?_
      conv=>whnf
      refine A5 ?_
      refine A4 [4] A6 ⟨?_,trivial⟩
      refine go A0 false ?_
      conv=>whnf
      refine A5 ?_
      refine A4 [5] A6 ⟨?_,trivial⟩
      refine go A0 false ?_
      conv=>whnf
      refine A5 ?_
      refine Ba A6 (Af ?_)
     rotate_left 1
     focus
      refine go A0 false ?_
      conv=>whnf
      refine A5 ?_
      refine A4 [3] A6 ⟨?_,trivial⟩
      refine go A0 false ?_
      conv=>whnf
      refine A5 ?_
      refine A4 [5] A6 ⟨?_,trivial⟩
      refine go A0 false ?_
      conv=>whnf
      refine A5 ?_
      refine Ba A6 (Af ?_)
    rotate_left 2
    focus
     refine go A0 false ?_
     conv=>whnf
     refine A5 ?_
     refine A4 [1] A6 ⟨?_,trivial⟩
     refine go A0 false ?_
     conv=>whnf
     refine Dk (Ch g hg) rfl (Af ?_)
     refine A5 ?_
     refine A4 [3] A6 ⟨?_,trivial⟩
     refine go A0 false ?_
     conv=>whnf
     refine A5 ?_
     refine A4 [5] A6 ⟨?_,trivial⟩
     refine go A0 false ?_
     conv=>whnf
     refine A5 ?_
     refine Ba A6 (Af ?_)
   rotate_left 3
   focus
    refine go A0 false ?_
    conv=>whnf
    refine A5 ?_
    refine A4 [0] A6 ⟨?_,trivial⟩
    refine go A0 false ?_
    conv=>whnf
    refine A5 ?_
    refine A4 [1] A6 ⟨?_,trivial⟩
    refine go A0 false ?_
    conv=>whnf
    refine Dk (Ch g hg) rfl (Af ?_)
    refine A5 ?_
    refine A4 [3] A6 ⟨?_,trivial⟩
    refine go A0 false ?_
    conv=>whnf
    refine A5 ?_
    refine A4 [5] A6 ⟨?_,trivial⟩
    refine go A0 false ?_
    conv=>whnf
    refine A5 ?_
    refine Ba A6 (Af ?_)
  rotate_left 4
  focus
   refine go A0 false ?_
   conv=>whnf
   refine A5 ?_
   refine A4 [0,2] A6 ⟨?_,?_,trivial⟩
   focus
    refine go A0 false ?_
    conv=>whnf
    refine A5 ?_
    refine A4 [1,2] A6 ⟨?_,?_,trivial⟩
    focus
     refine go A0 false ?_
     conv=>whnf
     refine Dk (Ch g hg) rfl (Af ?_)
     refine A5 ?_
     refine A4 [2] A6 ⟨?_,trivial⟩
     refine go A0 false ?_
     conv=>whnf
     (repeat refine Ak ?_)
     refine A5 ?_
     refine A4 [3] A6 ⟨?_,trivial⟩
     refine go A0 false ?_
     conv=>whnf
     refine A5 ?_
     refine A4 [5] A6 ⟨?_,trivial⟩
     refine go A0 false ?_
     conv=>whnf
     refine A5 ?_
     refine Ba A6 (Af ?_)
    rotate_left 1
    focus
     refine go A0 false ?_
     conv=>whnf
     (repeat refine Ak ?_)
     refine A5 ?_
     refine A4 [1] A6 ⟨?_,trivial⟩
     refine go A0 false ?_
     conv=>whnf
     refine Dk (Ch g hg) rfl (Af ?_)
     refine A5 ?_
     refine A4 [3] A6 ⟨?_,trivial⟩
     refine go A0 false ?_
     conv=>whnf
     refine A5 ?_
     refine A4 [5] A6 ⟨?_,trivial⟩
     refine go A0 false ?_
     conv=>whnf
     refine A5 ?_
     refine Ba A6 (Af ?_)
   rotate_left 2
   focus
    refine go A0 false ?_
    conv=>whnf
    (repeat refine Ak ?_)
    refine A5 ?_
    refine A4 [0] A6 ⟨?_,trivial⟩
    refine go A0 false ?_
    conv=>whnf
    refine A5 ?_
    refine A4 [1] A6 ⟨?_,trivial⟩
    refine go A0 false ?_
    conv=>whnf
    refine Dk (Ch g hg) rfl (Af ?_)
    refine A5 ?_
    refine A4 [3] A6 ⟨?_,trivial⟩
    refine go A0 false ?_
    conv=>whnf
    refine A5 ?_
    refine A4 [5] A6 ⟨?_,trivial⟩
    refine go A0 false ?_
    conv=>whnf
    refine A5 ?_
    refine Ba A6 (Af ?_)
  all_goals first|exact B8 [(2,5),(3,6),(4,7)] (()) (trivial) (by exact Nat.zero_lt_one) ⟨rfl,trivial⟩ ⟨rfl,Ht,trivial⟩ D8 A6 Dg A6|exact B8 [(2,5),(3,7),(4,6)] (()) (trivial) (by exact Nat.zero_lt_one) ⟨rfl,trivial⟩ ⟨rfl,Ht,trivial⟩ D8 A6 Dg A6|exact B8 [(2,6),(3,5),(4,7)] (()) (trivial) (by exact Nat.zero_lt_one) ⟨rfl,trivial⟩ ⟨rfl,Ht,trivial⟩ D8 A6 Dg A6|exact B8 [(2,6),(3,7),(4,5)] (()) (trivial) (by exact Nat.zero_lt_one) ⟨rfl,trivial⟩ ⟨rfl,Ht,trivial⟩ D8 A6 Dg A6|exact B8 [(2,7),(3,5),(4,6)] (()) (trivial) (by exact Nat.zero_lt_one) ⟨rfl,trivial⟩ ⟨rfl,Ht,trivial⟩ D8 A6 Dg A6|exact B8 [(2,7),(3,6),(4,5)] (()) (trivial) (by exact Nat.zero_lt_one) ⟨rfl,trivial⟩ ⟨rfl,Ht,trivial⟩ D8 A6 Dg A6
 clear he
 refine A49 2 3 8 (fun i=>Ad.c (([]:List Ad).getD i default)) rfl rfl ?_
 refine A49 2 4 6 (fun i=>C0.c (([]:List C0).getD i default)) rfl rfl ?_
 refine Du 6 (D7 (List.replicate (0 * n) (Gm g.cap))) rfl (by rw [Nat.zero_mul];exact Da) ?_
 refine Cc A0 false [9,53,54,55,56,57,58,59,60,61,62,63,64,65,66,67,68,69,70,71,72,73,74,75,76,77,78,79,80,81,82,83] (fun k:Nat=>[(8,.c (vi k))]) (fun k=>[⟨2,[.own 3,.c (vi g.workers),.c (vi g.cap),.own 5,.own 6,.own 4,.c (.val (.slice none 0 0))]⟩,⟨0,[.c (Bt g.nodes),.c (vi g.workers),.c (vi g.cap)]⟩,⟨1,[.c (.val (.slice none 0 0)),.c (vi 0),.c (vi 0),.c (.val (.slice none 0 0)),.c (.val (.slice none 0 0)),.c (.val (.slice none 0 0)),.c (.val (.slice none 0 0))]⟩]) (fun k=>[⟨3,Bt g.nodes⟩,⟨4,Cl (List.replicate 4 default)⟩,⟨5,Ap (D6 g.workers l k)⟩,⟨6,D7 (List.replicate (k * n) (Gm g.cap))⟩])
  (fun k=>k≤n) (fun k=>n-k) 0 (Nat.zero_le _) ⟨by first|rfl|simp [Dc,ren2,ren1,ren0],trivial⟩ D8 ⟨by first|rfl|exact (congrArg (fun l=>Dz _ _ l) (List.append_nil _)).symm|(show (_:A7)=_;simp)|simp,by first|rfl|exact (congrArg (fun l=>Dz _ _ l) (List.append_nil _)).symm|(show (_:A7)=_;simp)|simp,by first|rfl|exact (congrArg (fun l=>Dz _ _ l) (List.append_nil _)).symm|(show (_:A7)=_;simp)|simp,by first|rfl|exact (congrArg (fun l=>Dz _ _ l) (List.append_nil _)).symm|(show (_:A7)=_;simp)|simp,trivial⟩ Dg A6 (fun k hk=>?_)
 conv=>whnf
 conv=>whnf
 refine G2 (fun hlt=>?_) fun hlt=>?_<;>conv=>whnf
 ·have hlt:k<n:=by omega
  have hkl:=Ql g.workers l k
  have hol:=Qt g.workers l k 4
  first|(refine At 8 rfl [0,1,2,3,4,5] A6 (Af ?_))|(refine At 12 rfl [0,1,2,3,4,5,6,7,8,9,10] A6 (Af ?_))|(refine At 16 rfl [0,1,2,3,4,5,6,7,8] A6 (Af ?_))
  refine Dk (A5v g l k h2 Ag) rfl (Af ?_)
  refine Dk (S7 (Ka g.workers l k 4) Ag) rfl (Af ?_)
  refine Lw A0 rfl rfl rfl rfl rfl rfl rfl rfl rfl (Af ?_)
  refine B4 A0 rfl rfl rfl rfl rfl rfl rfl rfl rfl rfl rfl (Ap (D6 g.workers l k++[J9 (Ka g.workers l k 4)])) (B5 rfl) Rt Ag (Af ?_)
  rw [←St]
  refine Cc A0 false [69,70,71,72,73,74,75,76,77,78,79,80,81,82] (fun j:Nat=>[(9,.c (vi j))]) (fun j=>[⟨2,[.own 3,.c (vi g.workers),.c (vi g.cap),.own 17,.own 6,.own 4,.c (.val (.slice none 0 0))]⟩,⟨0,[.c (Bt g.nodes),.c (vi g.workers),.c (vi g.cap)]⟩,⟨1,[.c (.val (.slice none 0 0)),.c (vi 0),.c (vi 0),.c (.val (.slice none 0 0)),.c (.val (.slice none 0 0)),.c (.val (.slice none 0 0)),.c (.val (.slice none 0 0))]⟩]) (fun j=>[⟨3,Bt g.nodes⟩,⟨4,Cl (List.replicate 4 default)⟩,⟨17,Ap (D6 g.workers l (k+1))⟩,⟨6,D7 (List.replicate (k * n+j) (Gm g.cap))⟩])
   (fun j=>j≤n) (fun j=>n-j) 0 (Nat.zero_le _) ⟨by first|rfl|simp [Dc,ren2,ren1,ren0],trivial⟩ D8 ⟨by first|rfl|exact (congrArg (fun l=>Dz _ _ l) (List.append_nil _)).symm|(show (_:A7)=_;simp)|simp,by first|rfl|exact (congrArg (fun l=>Dz _ _ l) (List.append_nil _)).symm|(show (_:A7)=_;simp)|simp,by first|rfl|exact (congrArg (fun l=>Dz _ _ l) (List.append_nil _)).symm|(show (_:A7)=_;simp)|simp,by first|rfl|exact (congrArg (fun l=>Dz _ _ l) (List.append_nil _)).symm|(show (_:A7)=_;simp)|simp,trivial⟩ Dg A6 (fun j hj=>?_)
  conv=>whnf
  conv=>whnf
  refine G2 (fun hlt2=>?_) fun hlt2=>?_<;>conv=>whnf
  ·have hlt2:j<n:=by omega
   have hkn:k * n≤16:=Nat.le_trans (Nat.mul_le_mul (show k≤4 by omega) (show n≤4 by omega)) Cb
   first|(refine At 8 rfl [0,1,2,3,4,5] A6 (Af ?_))|(refine At 12 rfl [0,1,2,3,4,5,6,7,8,9,10] A6 (Af ?_))|(refine At 16 rfl [0,1,2,3,4,5,6,7,8] A6 (Af ?_))
   refine Dk (W0 g.cap) rfl (Af ?_)
   refine Lw A0 rfl rfl rfl rfl rfl rfl rfl rfl rfl (Af ?_)
   refine B4 A0 rfl rfl rfl rfl rfl rfl rfl rfl rfl rfl rfl (D7 (List.replicate (k * n+j) (Gm g.cap)++[Gm g.cap])) (B5 rfl) Rt (by (rw [List.length_replicate];omega)) (Af ?_)
   (repeat refine Ak ?_)
   refine B8 [(6,20)] (j+1) Ag Ag ⟨rfl,trivial⟩ ⟨rfl,rfl,rfl,congrArg D7 (by rw [show k * n+(j+1)=(k * n+j)+1 by omega,List.replicate_succ']),trivial⟩ D8 A6 Dg A6
  ·obtain rfl:j=n:=by omega
   (repeat refine Ak ?_)
   refine B8 [(5,17)] (k+1) Ag Ag ⟨rfl,trivial⟩ ⟨rfl,rfl,rfl,congrArg (fun m=>D7 (List.replicate m (Gm g.cap))) (by rw [Nat.succ_mul]),trivial⟩ D8 A6 Dg A6
 ·obtain rfl:k=n:=by omega
  rw [show g.workers.toNat=k by omega]
  (repeat refine Ak ?_)
  refine B1 A0 rfl rfl ?_
  exact C1
theorem B1a (B:Nat):∀(l:List Nat),(∀x∈l,x≤B)→l.sum≤B * l.length
 | [],_=>Nat.zero_le _
 |x::l,h=>by
  have h1:=B1a B l fun y hy=>h y (List.mem_cons_of_mem _ hy)
  have h2:=h x (List.mem_cons_self ..)
  rw [List.sum_cons,List.length_cons,Nat.mul_succ]
  omega
theorem B3o:∀(l:List Ac),(∀r∈l,r.op=0)→pw2 l=6 * l.length
 | [],_=>rfl
 |r::l,h=>by
  have h1:=B3o l fun q hq=>h q (List.mem_cons_of_mem _ hq)
  have h2:qw r.op=5:=by rw [h r (List.mem_cons_self ..)];rfl
  unfold pw2 at *
  rw [List.map_cons,List.sum_cons,h1,h2,List.length_cons]
  omega
theorem B3f (n:Int)(l:List Ac)(w:Nat):(A6t n l w).length≤4 * l.length:=by
 have h:∀k:Nat,((List.range k).flatMap fun (e:Nat)=>(G7 l e).filter fun r=>De r.key n==w).length≤k * l.length:=by
  intro k
  induction k with
  |zero=>exact Nat.le_of_eq (Nat.zero_mul _).symm
  |succ k ih=>
   rw [Hm,List.length_append,Nat.succ_mul]
   have h1:=List.length_filter_le (fun r:Ac=>De r.key n==w) (G7 l k)
   have h2:(G7 l k).length≤l.length:=List.length_filter_le _ _
   omega
 exact h 4
theorem B4m {g:An}{a b:Int}{ins:List Ac}(hN:Rs g ins)(hI:A4h ins):A8k g a b ins (Ej g ins).1:=by
 have hwk:=B0q hN
 refine ⟨by unfold Ej;rw [if_pos hN],fun i hi r hr=>?_,fun i hi r hr=>?_,fun i hi r hr=>?_,fun j hj r hr=>?_⟩
 ·rw [hwk i hi] at hr;cases hr
 ·rw [hwk i hi] at hr;cases hr
 ·rw [hwk i hi] at hr
  obtain ⟨h1,h2⟩:=A9m hr
  obtain ⟨o1,o2,_⟩:=hI.2 r h1
  exact ⟨⟨r,h1,0,0,rfl,o2,by omega,.inl ⟨.inl o1,rfl,rfl,rfl⟩⟩,h2⟩
 ·rw [A91 hN _ (B9 (d:=default) hj)] at hr
  cases hr
theorem B4n {g:An}{a b:Int}{ins:List Ac}(hN:Rs g ins)(hI:A4h ins):pot (A4d a b ins) (Ej g ins).1≤2500:=by
 have hwk:=B0q hN
 have hlen:=B06 hN
 have hn:=hN.1.2.1
 have h1:((Ej g ins).1.workers.map A8e).sum≤120 * ((Ej g ins).1.workers.map A8e).length:=B1a 120 _ fun x hx=>by
  obtain ⟨y,hy,rfl⟩:=List.mem_map.1 hx
  obtain ⟨i,hi,rfl⟩:=B0e hy
  show A8e (wk (Ej g ins).1 i)≤120
  rw [hwk i hi]
  have h2:=B3f g.workers ins i
  have h3:=B3o (A6t g.workers ins i) fun r hr=>(hI.2 r (A9m hr).1).1
  have:=hI.1
  show pw1 []+pw2 []+pw2 (A6t g.workers ins i)≤120
  have e1:pw1 []=0:=rfl
  have e2:pw2 []=0:=rfl
  omega
 have h4:((Ej g ins).1.links.map A82).sum=0:=A84 _ fun x hx=>by
  obtain ⟨y,hy,rfl⟩:=List.mem_map.1 hx
  rw [A91 hN y hy]
  rfl
 have h5:A8m (Ej g ins).1 (A4d a b ins)≤28 * ins.length:=by
  rw [←B1l a b ins]
  exact List.length_filter_le _ _
 have:=hI.1
 rw [List.length_map] at h1
 unfold pot
 omega
theorem B3a {g:An}{ins:List Ac}(hN:Rs g ins):A9d (Ej g ins).1:=by
 unfold Ej
 rw [if_pos hN]
 intro x hx
 cases hx
theorem B4w {g:An}{ins:List Ac}{pk:List Bl}(N:Nat)(hN':2900≤N)(hS:A1g g.nodes)(hN:Rs g ins)(hI:A4h ins)(hp:pk.length≤80)(h1:g.cap=1∨g.workers=1):
  A60 80 (Ce (Ej g ins).1 pk).1∧(A46 N (Ce (Ej g ins).1 pk).1).2<2900∧(∃k',A60 k' (A46 N (Ce (Ej g ins).1 pk).1).1)∧A8o (A46 N (Ce (Ej g ins).1 pk).1).1∧(A46 N (Ce (Ej g ins).1 pk).1).1.graph=g:=by
 obtain ⟨a,b,hF⟩:=B5i hS
 have hR0:=B4o hN
 obtain ⟨hD,hP⟩:=A83 (a:=a) (b:=b) hF hI pk ((Ej g ins).1,[]) hR0 Ag (B4m hN hI)
 have hR:A60 80 (Ce (Ej g ins).1 pk).1:=(hR0.runs (l:=pk) Ag).more Ag
 have hgr:(Ce (Ej g ins).1 pk).1.graph=g:=by
  refine (B0r pk ((Ej g ins).1,[])).trans ?_
  unfold Ej
  rw [if_pos hN]
 have hT:A9d (Ce (Ej g ins).1 pk).1:=A9w pk ((Ej g ins).1,[]) (B3a hN)
 have hpt:=B4n (a:=a) (b:=b) hN hI
 have hP:pot (A4d a b ins) (Ce (Ej g ins).1 pk).1≤pot (A4d a b ins) (Ej g ins).1:=hP
 have hD:A8k g a b ins (Ce (Ej g ins).1 pk).1:=hD
 obtain ⟨e1,e2,e3,e4⟩:=B3t N hN' hF hI hR Ag hD hT Ag (by rw [hgr];exact h1)
 exact ⟨hR,e1,e2,e3,e4.trans hgr⟩
end Go.Proofs.Ytonodkjaoalfjaa
