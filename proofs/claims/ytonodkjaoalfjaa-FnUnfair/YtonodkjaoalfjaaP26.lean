/- Part 26 of the proof that each of the laws FnUnfair returns true for every input. No conditions. -/
import Derived.Test.YtonodkjaoalfjaaP25
import Derived.Test.YtonodkjaoalfjaaP8
import Derived.Test.YtonodkjaoalfjaaP10
import Derived.Test.YtonodkjaoalfjaaP12
import Derived.Test.YtonodkjaoalfjaaP17
import Derived.Test.YtonodkjaoalfjaaP24
import Derived.Test.YtonodkjaoalfjaaP22
import Derived.Test.YtonodkjaoalfjaaP14
import Derived.Test.YtonodkjaoalfjaaP6
import Derived.Test.YtonodkjaoalfjaaP3
import Derived.Test.YtonodkjaoalfjaaP15
import Derived.Test.YtonodkjaoalfjaaP20

set_option linter.unusedSimpArgs false
set_option linter.unusedVariables false
set_option maxRecDepth 100000
namespace Go.Proofs.Ytonodkjaoalfjaa
open Go.Sx
def InP (r:Ac):Prop:=Gt r∧r.op=0∧r.stamp.turn=0
theorem Nz {g:An}{l:List Ac}(h:¬ Rs g l):Ej g l=(L4,false):=if_neg h
theorem N3 {g:An}{l:List Ac}(h:Rs g l):Ej g l=(⟨g,D6 g.workers l g.workers.toNat,List.replicate (g.workers.toNat * g.workers.toNat) (Gm g.cap),List.replicate 4 default,[]⟩,true):=if_pos h
theorem St (n:Int)(l:List Ac)(k:Nat):D6 n l (k+1)=D6 n l k++[J9 (Ka n l k 4)]:=by
 rw [D6,List.range_succ,List.map_append]
 rfl
theorem Ql (n:Int)(l:List Ac)(k:Nat):(D6 n l k).length=k:=by rw [D6,List.length_map,List.length_range]
set_option maxHeartbeats 8000000 in
theorem Rb (g:An)(l:List Ac)(hg:g.w≤16777216)(hl:l.length≤16777216):Bp Try.prog 7 [.agg g.c,.one (A8 l)] [.agg (Ej g l).1.c,.one (vb (Ej g l).2)]:=by
 refine Bm A0 false Try.func7 rfl Cb fun W=>?_
 conv=>whnf
 refine B7 (Is g Ag) rfl (Af ?_)
 refine ⟨fun h1=>?_,fun h1=>?_⟩<;>conv=>whnf
 ·have h1:Jq g=false:=by simpa using h1
  repeat refine Bg ?_
  rw [Nz (fun p=>absurd p.1 (of_decide_eq_false h1))]
  refine B1 A0 rfl rfl ?_
  exact C1
 have h1:Fh g:=of_decide_eq_true (show Jq g=true by simpa using h1)
 repeat refine Bg ?_
 refine ⟨fun h2=>?_,fun h2=>?_⟩<;>conv=>whnf
 ·have h2:¬ l.length≤20:=by have:=of_decide_eq_true h2;omega
  repeat refine Bg ?_
  rw [Nz (fun p=>h2 p.2.1)]
  refine B1 A0 rfl rfl ?_
  exact C1
 have h2:l.length≤20:=by have:=of_decide_eq_false h2;omega
 repeat refine Bg ?_
 have hwk:=h1.2.1
 obtain ⟨n,hn⟩:∃n:Nat,g.workers=n:=⟨g.workers.toNat,by omega⟩
 refine Cc A0 false [] (fun k:Nat=>[(6,.c (vi k))]) (fun k=>[⟨0,[.c (Bt g.nodes),.c (vi g.workers),.c (vi g.cap)]⟩,⟨1,[.c (.val (.slice none 0 0)),.c (vi 0),.c (vi 0),.c (.val (.slice none 0 0)),.c (.val (.slice none 0 0)),.c (.val (.slice none 0 0)),.c (.val (.slice none 0 0))]⟩]) (fun k=>[])
  (fun k=>k≤l.length∧∀i,i<k→InP (l.getD i default)) (fun k=>l.length-k) 0 ⟨Nat.zero_le _,by first|rfl|assumption|simp⟩ ⟨by first|rfl|simp [Dc,ren2,ren1,ren0],trivial⟩ D8 trivial Dg A6 (fun k hk=>?_)
 obtain ⟨hk,he⟩:=hk
 conv=>whnf
 conv=>whnf
 refine G2 (fun h3=>?_) fun h3=>?_<;>conv=>whnf
 ·have h3:k<l.length:=by omega
  (repeat refine Ak ?_)
  refine B7 (Ft (l.getD k default)) rfl (Af ?_)
  repeat refine Bg ?_
  refine ⟨fun h4=>?_,fun h4=>?_⟩<;>conv=>whnf
  ·have h4:Gp (l.getD k default)=false:=by simpa using h4
   repeat refine Bg ?_
   rw [Nz (fun p=>absurd (p.2.2 _ (B9 h3)).1 (of_decide_eq_false h4))]
   refine B1 A0 rfl rfl ?_
   exact C1
  have h4:Gt (l.getD k default):=of_decide_eq_true (show Gp (l.getD k default)=true by simpa using h4)
  repeat refine Bg ?_
  (repeat refine Ak ?_)
  refine ⟨fun h5=>have h5:=bne_iff_ne.1 h5;?_,fun h5=>have h5:=bne_eq_false_iff_eq.1 h5;?_⟩<;>conv=>whnf
  ·have h5:(l.getD k default).op≠0:=h5
   repeat refine Bg ?_
   rw [Nz (fun p=>h5 (p.2.2 _ (B9 h3)).2.1)]
   refine B1 A0 rfl rfl ?_
   exact C1
  have h5:(l.getD k default).op=0:=h5
  repeat refine Bg ?_
  (repeat refine Ak ?_)
  refine ⟨fun h6=>have h6:=bne_iff_ne.1 h6;?_,fun h6=>have h6:=bne_eq_false_iff_eq.1 h6;?_⟩<;>conv=>whnf
  ·have h6:(l.getD k default).stamp.turn≠0:=h6
   repeat refine Bg ?_
   rw [Nz (fun p=>h6 (p.2.2 _ (B9 h3)).2.2)]
   refine B1 A0 rfl rfl ?_
   exact C1
  have h6:(l.getD k default).stamp.turn=0:=h6
  repeat refine Bg ?_
  (repeat refine Ak ?_)
  refine B8 [] (k+1) ⟨by omega,fun i hi=>(Nat.lt_succ_iff_lt_or_eq.1 hi).elim (fun h7=>he i h7) (fun h7=>by subst h7;exact ⟨h4,h5,h6⟩)⟩ Ag ⟨rfl,trivial⟩ trivial D8 A6 Dg A6
 have hN:Rs g l:=⟨h1,h2,fun r hr=>by
  obtain ⟨i,hi,rfl⟩:=List.getElem_of_mem hr
  have:=he i Ag
  rw [show l.getD i default=l[i] by simp [List.getD,hi]] at this
  exact this⟩
 rw [N3 hN]
 refine A52 3 ?_
 refine A68 A0 false (J:=Unit) [49,50,51,52] (fun _=>[(7,.box 2 0)]) (fun _=>[⟨2,[.own 3,.c (vi g.workers),.c (vi g.cap),.c (.val (.slice none 0 0)),.c (.val (.slice none 0 0)),.own 4,.c (.val (.slice none 0 0))]⟩,⟨0,[.c (Bt g.nodes),.c (vi g.workers),.c (vi g.cap)]⟩,⟨1,[.c (.val (.slice none 0 0)),.c (vi 0),.c (vi 0),.c (.val (.slice none 0 0)),.c (.val (.slice none 0 0)),.c (.val (.slice none 0 0)),.c (.val (.slice none 0 0))]⟩]) (fun _=>[⟨3,Bt g.nodes⟩,⟨4,Cl (List.replicate 4 default)⟩]) (fun _=>True) ?_ (fun _ _=>?_)
 ·conv=>whnf
  refine Y7 rfl ?_
  refine A4 [0,2,4] A6 ⟨?_,?_,?_,trivial⟩
  focus
   refine go A0 false ?_
   conv=>whnf
   refine A5 ?_
   refine A4 [1,2,4] A6 ⟨?_,?_,?_,trivial⟩
   focus
    refine go A0 false ?_
    conv=>whnf
    refine Dk (Ch g hg) rfl (Af ?_)
    refine A5 ?_
    refine A4 [2,4] A6 ⟨?_,?_,trivial⟩
    focus
     refine go A0 false ?_
     conv=>whnf
     (repeat refine Ak ?_)
     refine A5 ?_
     refine A4 [3,4] A6 ⟨?_,?_,trivial⟩
     focus
      refine go A0 false ?_
      conv=>whnf
      refine A5 ?_
      refine A4 [4] A6 ⟨?_,trivial⟩
      refine go A0 false ?_
      conv=>whnf
      refine A5 ?_
      refine A4 [5] A6 ⟨?_,trivial⟩
      refine go A0 false ?_
      conv=>whnf
      refine A5 ?_
      refine Ba A6 (Af ?_)
     rotate_left 1
     focus
      refine go A0 false ?_
      conv=>whnf
      refine A5 ?_
      refine A4 [3] A6 ⟨?_,trivial⟩
      refine go A0 false ?_
      conv=>whnf
      refine A5 ?_
      refine A4 [5] A6 ⟨?_,trivial⟩
      refine go A0 false ?_
      conv=>whnf
      refine A5 ?_
      refine Ba A6 (Af ?_)
    rotate_left 2
    focus
     refine go A0 false ?_
     conv=>whnf
     refine A5 ?_
     refine A4 [2] A6 ⟨?_,trivial⟩
     refine go A0 false ?_
     conv=>whnf
     (repeat refine Ak ?_)
     refine A5 ?_
     refine A4 [3] A6 ⟨?_,trivial⟩
     refine go A0 false ?_
     conv=>whnf
     refine A5 ?_
     refine A4 [5] A6 ⟨?_,trivial⟩
     refine go A0 false ?_
     conv=>whnf
     refine A5 ?_
     refine Ba A6 (Af ?_)
   rotate_left 3
   focus
    refine go A0 false ?_
    conv=>whnf
    (repeat refine Ak ?_)
    refine A5 ?_
    refine A4 [1,4] A6 ⟨?_,?_,trivial⟩
    focus
     refine go A0 false ?_
     conv=>whnf
     refine Dk (Ch g hg) rfl (Af ?_)
     refine A5 ?_
     refine A4 [3,4] A6 ⟨?_,?_,trivial⟩
     focus
      refine go A0 false ?_
      conv=>whnf
      refine A5 ?_
      refine A4 [4] A6 ⟨?_,trivial⟩
      refine go A0 false ?_
      conv=>whnf
      refine A5 ?_
      refine A4 [5] A6 ⟨?_,trivial⟩
      refine go A0 false ?_
      conv=>whnf
      refine A5 ?_
      refine Ba A6 (Af ?_)
     rotate_left 1
     focus
      refine go A0 false ?_
      conv=>whnf
      refine A5 ?_
      refine A4 [3] A6 ⟨?_,trivial⟩
      refine go A0 false ?_
      conv=>whnf
      refine A5 ?_
      refine A4 [5] A6 ⟨?_,trivial⟩
      refine go A0 false ?_
      conv=>whnf
      refine A5 ?_
      refine Ba A6 (Af ?_)
    rotate_left 2
    focus
     refine go A0 false ?_
     conv=>whnf
     refine A5 ?_
     refine A4 [1] A6 ⟨?_,trivial⟩
     refine go A0 false ?_
     conv=>whnf
     refine Dk (Ch g hg) rfl (Af ?_)
     refine A5 ?_
     refine A4 [3] A6 ⟨?_,trivial⟩
     refine go A0 false ?_
     conv=>whnf
     refine A5 ?_
     refine A4 [5] A6 ⟨?_,trivial⟩
     refine go A0 false ?_
     conv=>whnf
     refine A5 ?_
     refine Ba A6 (Af ?_)
   rotate_left 3
   focus
    refine go A0 false ?_
    conv=>whnf
    refine A5 ?_
    refine A4 [1,2] A6 ⟨?_,?_,trivial⟩
    focus
     refine go A0 false ?_
     conv=>whnf
     refine Dk (Ch g hg) rfl (Af ?_)
     refine A5 ?_
     refine A4 [2] A6 ⟨?_,trivial⟩
     refine go A0 false ?_
     conv=>whnf
     (repeat refine Ak ?_)
     refine A5 ?_
     refine A4 [3] A6 ⟨?_,trivial⟩
     refine go A0 false ?_
     conv=>whnf
     refine A5 ?_
     refine A4 [5] A6 ⟨?_,trivial⟩
     refine go A0 false ?_
     conv=>whnf
     refine A5 ?_
     refine Ba A6 (Af ?_)
    rotate_left 1
    focus
     refine go A0 false ?_
     conv=>whnf
     (repeat refine Ak ?_)
     refine A5 ?_
     refine A4 [1] A6 ⟨?_,trivial⟩
     refine go A0 false ?_
     conv=>whnf
     refine Dk (Ch g hg) rfl (Af ?_)
     refine A5 ?_
     refine A4 [3] A6 ⟨?_,trivial⟩
     refine go A0 false ?_
     conv=>whnf
     refine A5 ?_
     refine A4 [5] A6 ⟨?_,trivial⟩
     refine go A0 false ?_
     conv=>whnf
     refine A5 ?_
     refine Ba A6 (Af ?_)
  rotate_left 8
  focus
   refine go A0 false ?_
   conv=>whnf
   (repeat refine Ak ?_)
   refine A5 ?_
   refine A4 [0,4] A6 ⟨?_,?_,trivial⟩
   focus
    refine go A0 false ?_
    conv=>whnf
    refine A5 ?_
    refine A4 [1,4] A6 ⟨?_,?_,trivial⟩
    focus
     refine go A0 false ?_
     conv=>whnf
     refine Dk (Ch g hg) rfl (Af ?_)
     refine A5 ?_
     refine A4 [3,4] A6 ⟨?_,?_,trivial⟩
     focus
      refine go A0 false ?_
      conv=>whnf
      refine A5 ?_
      refine A4 [4] A6 ⟨?_,trivial⟩
      refine go A0 false ?_
      conv=>whnf
      refine A5 ?_
      refine A4 [5] A6 ⟨?_,trivial⟩
      refine go A0 false ?_
      conv=>whnf
      refine A5 ?_
      refine Ba A6 (Af ?_)
     rotate_left 1
     focus
      refine go A0 false ?_
      conv=>whnf
      refine A5 ?_
      refine A4 [3] A6 ⟨?_,trivial⟩
      refine go A0 false ?_
      conv=>whnf
      refine A5 ?_
      refine A4 [5] A6 ⟨?_,trivial⟩
      refine go A0 false ?_
      conv=>whnf
      refine A5 ?_
      refine Ba A6 (Af ?_)
    rotate_left 2
    focus
     refine go A0 false ?_
     conv=>whnf
     refine A5 ?_
     refine A4 [1] A6 ⟨?_,trivial⟩
     refine go A0 false ?_
     conv=>whnf
     refine Dk (Ch g hg) rfl (Af ?_)
     refine A5 ?_
     refine A4 [3] A6 ⟨?_,trivial⟩
     refine go A0 false ?_
     conv=>whnf
     refine A5 ?_
     refine A4 [5] A6 ⟨?_,trivial⟩
     refine go A0 false ?_
     conv=>whnf
     refine A5 ?_
     refine Ba A6 (Af ?_)
   rotate_left 3
   focus
    refine go A0 false ?_
    conv=>whnf
    refine A5 ?_
    refine A4 [0] A6 ⟨?_,trivial⟩
    refine go A0 false ?_
    conv=>whnf
    refine A5 ?_
    refine A4 [1] A6 ⟨?_,trivial⟩
    refine go A0 false ?_
    conv=>whnf
    refine Dk (Ch g hg) rfl (Af ?_)
    refine A5 ?_
    refine A4 [3] A6 ⟨?_,trivial⟩
    refine go A0 false ?_
    conv=>whnf
    refine A5 ?_
    refine A4 [5] A6 ⟨?_,trivial⟩
    refine go A0 false ?_
    conv=>whnf
    refine A5 ?_
    refine Ba A6 (Af ?_)
  rotate_left 4
  focus
   refine go A0 false ?_
   conv=>whnf
   refine A5 ?_
   refine A4 [0,2] A6 ⟨?_,?_,trivial⟩
   focus
    refine go A0 false ?_
    conv=>whnf
    refine A5 ?_
    refine A4 [1,2] A6 ⟨?_,?_,trivial⟩
    focus
     refine go A0 false ?_
     conv=>whnf
     refine Dk (Ch g hg) rfl (Af ?_)
     refine A5 ?_
     refine A4 [2] A6 ⟨?_,trivial⟩
     refine go A0 false ?_
     conv=>whnf
     (repeat refine Ak ?_)
     refine A5 ?_
     refine A4 [3] A6 ⟨?_,trivial⟩
     refine go A0 false ?_
     conv=>whnf
     refine A5 ?_
     refine A4 [5] A6 ⟨?_,trivial⟩
     refine go A0 false ?_
     conv=>whnf
     refine A5 ?_
     refine Ba A6 (Af ?_)
    rotate_left 1
    focus
     refine go A0 false ?_
     conv=>whnf
     (repeat refine Ak ?_)
     refine A5 ?_
     refine A4 [1] A6 ⟨?_,trivial⟩
     refine go A0 false ?_
     conv=>whnf
     refine Dk (Ch g hg) rfl (Af ?_)
     refine A5 ?_
     refine A4 [3] A6 ⟨?_,trivial⟩
     refine go A0 false ?_
     conv=>whnf
     refine A5 ?_
     refine A4 [5] A6 ⟨?_,trivial⟩
     refine go A0 false ?_
     conv=>whnf
     refine A5 ?_
     refine Ba A6 (Af ?_)
   rotate_left 2
   focus
    refine go A0 false ?_
    conv=>whnf
    (repeat refine Ak ?_)
    refine A5 ?_
    refine A4 [0] A6 ⟨?_,trivial⟩
    refine go A0 false ?_
    conv=>whnf
    refine A5 ?_
    refine A4 [1] A6 ⟨?_,trivial⟩
    refine go A0 false ?_
    conv=>whnf
    refine Dk (Ch g hg) rfl (Af ?_)
    refine A5 ?_
    refine A4 [3] A6 ⟨?_,trivial⟩
    refine go A0 false ?_
    conv=>whnf
    refine A5 ?_
    refine A4 [5] A6 ⟨?_,trivial⟩
    refine go A0 false ?_
    conv=>whnf
    refine A5 ?_
    refine Ba A6 (Af ?_)
  all_goals first|exact B8 [(2,5),(3,6),(4,7)] (()) (trivial) (by exact Nat.zero_lt_one) ⟨rfl,trivial⟩ ⟨rfl,Ht,trivial⟩ D8 A6 Dg A6|exact B8 [(2,5),(3,7),(4,6)] (()) (trivial) (by exact Nat.zero_lt_one) ⟨rfl,trivial⟩ ⟨rfl,Ht,trivial⟩ D8 A6 Dg A6|exact B8 [(2,6),(3,5),(4,7)] (()) (trivial) (by exact Nat.zero_lt_one) ⟨rfl,trivial⟩ ⟨rfl,Ht,trivial⟩ D8 A6 Dg A6|exact B8 [(2,6),(3,7),(4,5)] (()) (trivial) (by exact Nat.zero_lt_one) ⟨rfl,trivial⟩ ⟨rfl,Ht,trivial⟩ D8 A6 Dg A6|exact B8 [(2,7),(3,5),(4,6)] (()) (trivial) (by exact Nat.zero_lt_one) ⟨rfl,trivial⟩ ⟨rfl,Ht,trivial⟩ D8 A6 Dg A6|exact B8 [(2,7),(3,6),(4,5)] (()) (trivial) (by exact Nat.zero_lt_one) ⟨rfl,trivial⟩ ⟨rfl,Ht,trivial⟩ D8 A6 Dg A6
 clear he
 refine A49 2 3 8 (fun i=>Ad.c (([]:List Ad).getD i default)) rfl rfl ?_
 refine A49 2 4 6 (fun i=>C0.c (([]:List C0).getD i default)) rfl rfl ?_
 refine Du 6 (D7 (List.replicate (0 * n) (Gm g.cap))) rfl (by rw [Nat.zero_mul];exact Da) ?_
 refine Cc A0 false [9,53,54,55,56,57,58,59,60,61,62,63,64,65,66,67,68,69,70,71,72,73,74,75,76,77,78,79,80,81,82,83] (fun k:Nat=>[(8,.c (vi k))]) (fun k=>[⟨2,[.own 3,.c (vi g.workers),.c (vi g.cap),.own 5,.own 6,.own 4,.c (.val (.slice none 0 0))]⟩,⟨0,[.c (Bt g.nodes),.c (vi g.workers),.c (vi g.cap)]⟩,⟨1,[.c (.val (.slice none 0 0)),.c (vi 0),.c (vi 0),.c (.val (.slice none 0 0)),.c (.val (.slice none 0 0)),.c (.val (.slice none 0 0)),.c (.val (.slice none 0 0))]⟩]) (fun k=>[⟨3,Bt g.nodes⟩,⟨4,Cl (List.replicate 4 default)⟩,⟨5,Ap (D6 g.workers l k)⟩,⟨6,D7 (List.replicate (k * n) (Gm g.cap))⟩])
  (fun k=>k≤n) (fun k=>n-k) 0 (Nat.zero_le _) ⟨by first|rfl|simp [Dc,ren2,ren1,ren0],trivial⟩ D8 ⟨by first|rfl|exact (congrArg (fun l=>Dz _ _ l) (List.append_nil _)).symm|(show (_:A7)=_;simp)|simp,by first|rfl|exact (congrArg (fun l=>Dz _ _ l) (List.append_nil _)).symm|(show (_:A7)=_;simp)|simp,by first|rfl|exact (congrArg (fun l=>Dz _ _ l) (List.append_nil _)).symm|(show (_:A7)=_;simp)|simp,by first|rfl|exact (congrArg (fun l=>Dz _ _ l) (List.append_nil _)).symm|(show (_:A7)=_;simp)|simp,trivial⟩ Dg A6 (fun k hk=>?_)
 conv=>whnf
 conv=>whnf
 refine G2 (fun hlt=>?_) fun hlt=>?_<;>conv=>whnf
 ·have hlt:k<n:=by omega
  have hkl:=Ql g.workers l k
  have hol:=Qt g.workers l k 4
  first|(refine At 8 rfl [0,1,2,3,4,5] A6 (Af ?_))|(refine At 12 rfl [0,1,2,3,4,5,6,7,8,9,10] A6 (Af ?_))|(refine At 16 rfl [0,1,2,3,4,5,6,7,8] A6 (Af ?_))
  refine Dk (A5v g l k h2 Ag) rfl (Af ?_)
  refine Dk (S7 (Ka g.workers l k 4) Ag) rfl (Af ?_)
  refine Lw A0 rfl rfl rfl rfl rfl rfl rfl rfl rfl (Af ?_)
  refine B4 A0 rfl rfl rfl rfl rfl rfl rfl rfl rfl rfl rfl (Ap (D6 g.workers l k++[J9 (Ka g.workers l k 4)])) (B5 rfl) Ia Ag (Af ?_)
  rw [←St]
  refine Cc A0 false [69,70,71,72,73,74,75,76,77,78,79,80,81,82] (fun j:Nat=>[(9,.c (vi j))]) (fun j=>[⟨2,[.own 3,.c (vi g.workers),.c (vi g.cap),.own 17,.own 6,.own 4,.c (.val (.slice none 0 0))]⟩,⟨0,[.c (Bt g.nodes),.c (vi g.workers),.c (vi g.cap)]⟩,⟨1,[.c (.val (.slice none 0 0)),.c (vi 0),.c (vi 0),.c (.val (.slice none 0 0)),.c (.val (.slice none 0 0)),.c (.val (.slice none 0 0)),.c (.val (.slice none 0 0))]⟩]) (fun j=>[⟨3,Bt g.nodes⟩,⟨4,Cl (List.replicate 4 default)⟩,⟨17,Ap (D6 g.workers l (k+1))⟩,⟨6,D7 (List.replicate (k * n+j) (Gm g.cap))⟩])
   (fun j=>j≤n) (fun j=>n-j) 0 (Nat.zero_le _) ⟨by first|rfl|simp [Dc,ren2,ren1,ren0],trivial⟩ D8 ⟨by first|rfl|exact (congrArg (fun l=>Dz _ _ l) (List.append_nil _)).symm|(show (_:A7)=_;simp)|simp,by first|rfl|exact (congrArg (fun l=>Dz _ _ l) (List.append_nil _)).symm|(show (_:A7)=_;simp)|simp,by first|rfl|exact (congrArg (fun l=>Dz _ _ l) (List.append_nil _)).symm|(show (_:A7)=_;simp)|simp,by first|rfl|exact (congrArg (fun l=>Dz _ _ l) (List.append_nil _)).symm|(show (_:A7)=_;simp)|simp,trivial⟩ Dg A6 (fun j hj=>?_)
  conv=>whnf
  conv=>whnf
  refine G2 (fun hlt2=>?_) fun hlt2=>?_<;>conv=>whnf
  ·have hlt2:j<n:=by omega
   have hkn:k * n≤16:=Nat.le_trans (Nat.mul_le_mul (show k≤4 by omega) (show n≤4 by omega)) Cb
   first|(refine At 8 rfl [0,1,2,3,4,5] A6 (Af ?_))|(refine At 12 rfl [0,1,2,3,4,5,6,7,8,9,10] A6 (Af ?_))|(refine At 16 rfl [0,1,2,3,4,5,6,7,8] A6 (Af ?_))
   refine Dk (W0 g.cap) rfl (Af ?_)
   refine Lw A0 rfl rfl rfl rfl rfl rfl rfl rfl rfl (Af ?_)
   refine B4 A0 rfl rfl rfl rfl rfl rfl rfl rfl rfl rfl rfl (D7 (List.replicate (k * n+j) (Gm g.cap)++[Gm g.cap])) (B5 rfl) Ia (by (rw [List.length_replicate];omega)) (Af ?_)
   (repeat refine Ak ?_)
   refine B8 [(6,20)] (j+1) Ag Ag ⟨rfl,trivial⟩ ⟨rfl,rfl,rfl,congrArg D7 (by rw [show k * n+(j+1)=(k * n+j)+1 by omega,List.replicate_succ']),trivial⟩ D8 A6 Dg A6
  ·obtain rfl:j=n:=by omega
   (repeat refine Ak ?_)
   refine B8 [(5,17)] (k+1) Ag Ag ⟨rfl,trivial⟩ ⟨rfl,rfl,rfl,congrArg (fun m=>D7 (List.replicate m (Gm g.cap))) (by rw [Nat.succ_mul]),trivial⟩ D8 A6 Dg A6
 ·obtain rfl:k=n:=by omega
  rw [show g.workers.toNat=k by omega]
  (repeat refine Ak ?_)
  refine B1 A0 rfl rfl ?_
  exact C1
def pN (x:A3):Nat:=(Dn x.graph.workers 0 4).toNat
theorem A3b (x:A3):pN x≤4:=by have:=G1 x.graph.workers 0 4 Cb;unfold pN;omega
def rr (n m:Nat):List Bl:=(List.range m).flatMap fun _=>Ru n
theorem Z2 (n k:Nat):rr n (k+1)=rr n k++Ru n:=Hm _ _
theorem A3k (n k:Nat)(hn:n≤4):(rr n k).length≤52 * k:=by
 induction k with
 |zero=>exact Nat.le_refl _
 |succ k ih=>rw [Z2,List.length_append];have:=Go.Sx.Pv n hn;omega
theorem Qh (x:A3)(r:Int):Bp Try.prog 9 [.agg x.c,.one (vi r)] [.one (C4 (rr (pN x) (Dn r 0 40).toNat))]:=by
 have hb:=G1 r 0 40 Cb
 obtain ⟨n,hn⟩:∃n:Nat,Dn r 0 40=n:=⟨(Dn r 0 40).toNat,by omega⟩
 rw [hn]
 refine Bm A0 false Try.func9 rfl Cb fun W=>?_
 conv=>whnf
 refine A6p 5 3 (fun i=>Bl.c (([]:List Bl).getD i default)) rfl ?_
 refine Cc A0 false [] (fun k:Nat=>[(6,.c (vi k))]) (fun k=>[⟨0,[.c (Bt x.graph.nodes),.c (vi x.graph.workers),.c (vi x.graph.cap),.c (Ap x.workers),.c (D7 x.links),.c (Cl x.tokens),.c (D0 x.news)]⟩]) (fun k=>[⟨1,C4 (rr (pN x) k)⟩])
  (fun k=>k≤n) (fun k=>n-k) 0 (Nat.zero_le _) ⟨by first|rfl|simp [Dc,ren2,ren1,ren0],trivial⟩ D8 ⟨by first|rfl|exact (congrArg (fun l=>Dz _ _ l) (List.append_nil _)).symm|(show (_:A7)=_;simp)|simp,trivial⟩ Dg A6 (fun k hk=>?_)
 conv=>whnf
 refine B7 (Om r 0 40) rfl (Af ?_)
 rw [hn]
 refine G2 (fun h=>?_) fun h=>?_<;>conv=>whnf
 ·have h:k<n:=by omega
  have hl:=A3k (pN x) k (A3b x)
  have ha:=Go.Sx.Pv (pN x) (A3b x)
  (repeat refine Ak ?_)
  refine Dk (show Bp Try.prog 32 [.agg x.c] [.one (C4 (Ru (pN x)))] from Ts x) rfl (Af ?_)
  refine B4 A0 rfl rfl rfl rfl rfl rfl rfl rfl rfl rfl rfl (C4 (rr (pN x) k++Ru (pN x))) (Ph 3 Bl.c (rr (pN x) k) (Ru (pN x))) Ia Ag (Af ?_)
  (repeat refine Ak ?_)
  refine B8 [(1,3)] (k+1) Ag Ag ⟨rfl,trivial⟩ ⟨congrArg C4 (Z2 (pN x) k).symm,trivial⟩ D8 A6 Dg A6
 ·refine B1 A0 rfl rfl ⟨?_,trivial⟩
  exact congrArg (fun k=>C4 (rr (pN x) k)) (show k=(n:Int).toNat by omega)
theorem A47 {g:An}{ins:List Ac}(hg:Po g)(hi:A4h ins):Rs g ins:=by
 refine ⟨A2g hg,by have:=hi.1;omega,fun r hr=>?_⟩
 obtain ⟨h1,h2,h3,h4,h5⟩:=hi.2 r hr
 exact ⟨⟨by omega,h3,by omega,by omega,by omega⟩,h1,h2⟩
theorem A7i {g:An}{ins:List Ac}(hN:Rs g ins)(e w:Int):UI (Ej g ins).1.workers.length w e (Ej g ins).1:=by
 rw [N3 hN]
 have ht:Ab ⟨g,D6 g.workers ins g.workers.toNat,List.replicate (g.workers.toNat * g.workers.toNat) (Gm g.cap),List.replicate 4 default,[]⟩ e=default:=by
  unfold Ab
  simp only [List.getD,List.getElem?_replicate]
  split<;>rfl
 refine ⟨rfl,?_,fun q=>?_,fun _=>?_,fun x hx=>?_⟩
 ·unfold En A9 D6
  have hw:0<g.workers.toNat:=by have:=hN.1.2.1;omega
  have hr:(List.range g.workers.toNat)[0]? =some 0:=by rw [List.getElem?_range hw]
  simp only [List.getD,Int.toNat_zero,List.getElem?_map,hr,Option.map_some,Option.getD_some,List.any_nil]
 ·rw [ht] at q;cases q
 ·rw [ht];rfl
 ·cases hx
theorem A0z (c:A3)(l:List Bl):(Ce c l).1.workers.length=c.workers.length:=by
 have st:∀(d:A3) (p:Bl),(Ao d p).1.workers.length=d.workers.length:=fun d p=>by
  unfold Ao
  split
  ·unfold Df;split<;>simp [Av]
  split
  ·unfold Ct;split<;>simp [Av]
  split
  ·unfold Br;(repeat' split)<;>simp [Av,Bo]
  split
  ·unfold Ck;split<;>simp [Av,Bo]
  split
  ·unfold Cq;split<;>rfl
  split
  ·unfold C2 H2;dsimp only;(repeat' split)<;>simp [Av,Cs,Mj]
  split
  ·unfold D9;(repeat' split)<;>simp [Av,Ip]
  ·rfl
 have:∀(l:List Bl) (s:A3×List Bool),(l.foldl F2 s).1.workers.length=s.1.workers.length:=by
  intro l
  induction l with
  |nil=>intro s;rfl
  |cons p l ih=>intro s;exact (ih (F2 s p)).trans (st s.1 p)
 exact this l (c,[])
theorem Wc (n:Nat)(w:Int):0<(Dj (rr n 12) w).length:=by
 have hm:(⟨6,0,0⟩:Bl)∈rr n 12:=List.mem_flatMap.2 ⟨0,by decide,List.mem_append_right _ Cb⟩
 exact List.length_pos_of_mem (List.mem_filter.2 ⟨hm,rfl⟩)
theorem Wb (xs:List Bl)(w:Int):(Dj xs w).length≤xs.length:=List.length_filter_le _ _
theorem A6m (a:Option Addr)(n cp:Nat):Bp Try.prog 5 [.one (.val (.slice a n cp))] [.one (vb (decide ((n:Int)>1_048_576)))]:=by
 refine Bm A0 false Try.func5 rfl Cb fun W=>?_
 conv=>whnf
 exact B1 A0 rfl rfl ⟨by rfl,trivial⟩
theorem Vv (a b:List Ac)(ha:a.length≤16777216)(hb:b.length≤16777216):Bp Try.prog 13 [.one (A8 a),.one (A8 b)] [.one (vb (decide (a=b)))]:=by
 refine Bm A0 false Try.func13 rfl Cb fun W=>?_
 conv=>whnf
 refine ⟨fun hn=>have hn:=bne_iff_ne.1 hn;?_,fun hn=>have hn:=bne_eq_false_iff_eq.1 hn;?_⟩<;>conv=>whnf
 ·exact B1 A0 rfl rfl ⟨congrArg vb (decide_eq_false fun e=>hn (by rw [e])),trivial⟩
 refine Cc A0 false [] (fun k:Nat=>[(5,.c (vi k))]) (fun k=>[]) (fun k=>[])
  (fun k=>k≤a.length∧a.take k=b.take k) (fun k=>a.length-k) 0 ⟨Nat.zero_le _,by first|rfl|assumption|simp⟩ ⟨by first|rfl|simp [Dc,ren2,ren1,ren0],trivial⟩ trivial trivial Dg A6 (fun k hk=>?_)
 obtain ⟨hk,he⟩:=hk
 conv=>whnf
 refine G2 (fun h=>?_) fun h=>?_<;>conv=>whnf
 ·have h:k<a.length:=by omega
  have hs:=Uj a b k he h Ag
  (repeat refine Ak ?_)
  first|(refine At 6 rfl [0,1,2,3,4,5,6,7,8] A6 (Af ?_))
  (repeat refine Ak ?_)
  refine ⟨fun hc=>?_,fun hc=>?_⟩<;>conv=>whnf
  ·have hc:(!decide (a.getD k default=b.getD k default))=true:=by rw [←Ac.eqv];exact hc
   exact B1 A0 rfl rfl ⟨congrArg vb (decide_eq_false fun e=>by subst e;simp at hc),trivial⟩
  ·have hc:(!decide (a.getD k default=b.getD k default))=false:=by rw [←Ac.eqv];exact hc
   (repeat refine Ak ?_)
   refine B8 [] (k+1) ⟨by omega,hs.2 (by simpa using hc)⟩ Ag ⟨rfl,trivial⟩ trivial trivial A6 Dg A6
 ·exact B1 A0 rfl rfl ⟨congrArg vb (decide_eq_true (by rw [←Gr a k Ag,he,Gr b k Ag])),trivial⟩
end Go.Proofs.Ytonodkjaoalfjaa
