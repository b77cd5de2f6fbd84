/- Part 39 of the proof that each of the laws FnExactRunScriptOf, FnExactSpreadResult returns true for every input. No conditions. -/
import Derived.Test.YtlbmkgkmbjadcaaGreatP38
import Derived.Test.YtlbmkgkmbjadcaaGreatP12
import Derived.Test.YtlbmkgkmbjadcaaGreatP15

set_option linter.unusedSimpArgs false
set_option linter.unusedVariables false
set_option maxRecDepth 100000
namespace Go.Proofs.YtlbmkgkmbjadcaaGreat
open Go.Sx
def InP (r:A3):Prop:=Gx r∧r.op=0∧r.stamp.turn=0
theorem Jb {g:Ar}{l:List A3}(h:¬ V9 g l):B4 g l=(Ir,false):=if_neg h
theorem Pz {g:Ar}{l:List A3}(h:V9 g l):B4 g l=(⟨g,Dx g.workers l g.workers.toNat,List.replicate (g.workers.toNat * g.workers.toNat) (Fp g.cap),List.replicate 4 default,[]⟩,true):=if_pos h
theorem Ta (n:Int)(l:List A3)(k:Nat):Dx n l (k+1)=Dx n l k++[Jz (Lq n l k 4)]:=by
 rw [Dx,List.range_succ,List.map_append]
 rfl
theorem S7 (n:Int)(l:List A3)(k:Nat):(Dx n l k).length=k:=by rw [Dx,List.length_map,List.length_range]
set_option maxHeartbeats 8000000 in
theorem Po (g:Ar)(l:List A3)(hg:g.w≤16777216)(hl:l.length≤16777216):Aq Tryz.prog 36 [.agg g.c,.one (A9 l)] [.agg (B4 g l).1.c,.one (vb (B4 g l).2)]:=by
 refine Aj A0 false Tryz.func36 rfl Bs fun W=>?_
 conv=>whnf
 refine Ai (Mh g Ad) rfl (Ae ?_)
 refine ⟨fun h1=>?_,fun h1=>?_⟩<;>conv=>whnf
 ·have h1:Fi g=false:=by simpa using h1
  repeat refine B9 ?_
  rw [Jb (fun p=>absurd p.1 (of_decide_eq_false h1))]
  refine Ah A0 rfl rfl ?_
  exact C1
 have h1:H1 g:=of_decide_eq_true (show Fi g=true by simpa using h1)
 repeat refine B9 ?_
 refine ⟨fun h2=>?_,fun h2=>?_⟩<;>conv=>whnf
 ·have h2:¬ l.length≤20:=by have:=of_decide_eq_true h2;omega
  repeat refine B9 ?_
  rw [Jb (fun p=>h2 p.2.1)]
  refine Ah A0 rfl rfl ?_
  exact C1
 have h2:l.length≤20:=by have:=of_decide_eq_false h2;omega
 repeat refine B9 ?_
 have hwk:=h1.2.1
 obtain ⟨n,hn⟩:∃n:Nat,g.workers=n:=⟨g.workers.toNat,by omega⟩
 refine B6 A0 false [] (fun k:Nat=>[(6,.c (vi k))]) (fun k=>[⟨0,[.c (Bb g.nodes),.c (vi g.workers),.c (vi g.cap)]⟩,⟨1,[.c (.val (.slice none 0 0)),.c (vi 0),.c (vi 0),.c (.val (.slice none 0 0)),.c (.val (.slice none 0 0)),.c (.val (.slice none 0 0)),.c (.val (.slice none 0 0))]⟩]) (fun k=>[])
  (fun k=>k≤l.length∧∀i,i<k→InP (l.getD i default)) (fun k=>l.length-k) 0 ⟨Nat.zero_le _,by first|rfl|assumption|simp⟩ ⟨by first|rfl|simp [Cr,ren2,ren1,ren0],trivial⟩ Cp trivial Cc A5 (fun k hk=>?_)
 obtain ⟨hk,he⟩:=hk
 conv=>whnf
 conv=>whnf
 refine F2 (fun h3=>?_) fun h3=>?_<;>conv=>whnf
 ·have h3:k<l.length:=by omega
  (repeat refine An ?_)
  refine Ai (Hy (l.getD k default)) rfl (Ae ?_)
  repeat refine B9 ?_
  refine ⟨fun h4=>?_,fun h4=>?_⟩<;>conv=>whnf
  ·have h4:F8 (l.getD k default)=false:=by simpa using h4
   repeat refine B9 ?_
   rw [Jb (fun p=>absurd (p.2.2 _ (B2 h3)).1 (of_decide_eq_false h4))]
   refine Ah A0 rfl rfl ?_
   exact C1
  have h4:Gx (l.getD k default):=of_decide_eq_true (show F8 (l.getD k default)=true by simpa using h4)
  repeat refine B9 ?_
  (repeat refine An ?_)
  refine ⟨fun h5=>have h5:=bne_iff_ne.1 h5;?_,fun h5=>have h5:=bne_eq_false_iff_eq.1 h5;?_⟩<;>conv=>whnf
  ·have h5:(l.getD k default).op≠0:=h5
   repeat refine B9 ?_
   rw [Jb (fun p=>h5 (p.2.2 _ (B2 h3)).2.1)]
   refine Ah A0 rfl rfl ?_
   exact C1
  have h5:(l.getD k default).op=0:=h5
  repeat refine B9 ?_
  (repeat refine An ?_)
  refine ⟨fun h6=>have h6:=bne_iff_ne.1 h6;?_,fun h6=>have h6:=bne_eq_false_iff_eq.1 h6;?_⟩<;>conv=>whnf
  ·have h6:(l.getD k default).stamp.turn≠0:=h6
   repeat refine B9 ?_
   rw [Jb (fun p=>h6 (p.2.2 _ (B2 h3)).2.2)]
   refine Ah A0 rfl rfl ?_
   exact C1
  have h6:(l.getD k default).stamp.turn=0:=h6
  repeat refine B9 ?_
  (repeat refine An ?_)
  refine At [] (k+1) ⟨by omega,fun i hi=>(Nat.lt_succ_iff_lt_or_eq.1 hi).elim (fun h7=>he i h7) (fun h7=>by subst h7;exact ⟨h4,h5,h6⟩)⟩ Ad ⟨rfl,trivial⟩ trivial Cp A5 Cc A5
 have hN:V9 g l:=⟨h1,h2,fun r hr=>by
  obtain ⟨i,hi,rfl⟩:=List.getElem_of_mem hr
  have:=he i Ad
  rw [show l.getD i default=l[i] by simp [List.getD,hi]] at this
  exact this⟩
 rw [Pz hN]
 refine A65 3 ?_
 refine B38 A0 false (J:=Unit) [49,50,51,52] (fun _=>[(7,.box 2 0)]) (fun _=>[⟨2,[.own 3,.c (vi g.workers),.c (vi g.cap),.c (.val (.slice none 0 0)),.c (.val (.slice none 0 0)),.own 4,.c (.val (.slice none 0 0))]⟩,⟨0,[.c (Bb g.nodes),.c (vi g.workers),.c (vi g.cap)]⟩,⟨1,[.c (.val (.slice none 0 0)),.c (vi 0),.c (vi 0),.c (.val (.slice none 0 0)),.c (.val (.slice none 0 0)),.c (.val (.slice none 0 0)),.c (.val (.slice none 0 0))]⟩]) (fun _=>[⟨3,Bb g.nodes⟩,⟨4,Be (List.replicate 4 default)⟩]) (fun _=>True) ?_ (fun _ _=>?_)
 ·conv=>whnf
  refine A7a rfl ?_
  refine A7 [0,2,4] A5 ⟨?_,?_,?_,trivial⟩
  focus
   refine go A0 false ?_
   conv=>whnf
   refine A8 ?_
   refine A7 [1,2,4] A5 ⟨?_,?_,?_,trivial⟩
   focus
    refine go A0 false ?_
    conv=>whnf
    refine Av (Di g hg) rfl (Ae ?_)
    refine A8 ?_
    refine A7 [2,4] A5 ⟨?_,?_,trivial⟩
    focus
     refine go A0 false ?_
     conv=>whnf
     (repeat refine An ?_)
     refine A8 ?_
     refine A7 [3,4] A5 ⟨?_,?_,trivial⟩
     focus
      refine go A0 false ?_
      conv=>whnf
      refine A8 ?_
      refine A7 [4] A5 ⟨?_,trivial⟩
      refine go A0 false ?_
      conv=>whnf
      refine A8 ?_
      refine A7 [5] A5 ⟨?_,trivial⟩
      refine go A0 false ?_
      conv=>whnf
      refine A8 ?_
      refine Bl A5 (Ae ?_)
     rotate_left 1
     focus
      refine go A0 false ?_
      conv=>whnf
      refine A8 ?_
      refine A7 [3] A5 ⟨?_,trivial⟩
      refine go A0 false ?_
      conv=>whnf
      refine A8 ?_
      refine A7 [5] A5 ⟨?_,trivial⟩
      refine go A0 false ?_
      conv=>whnf
      refine A8 ?_
      refine Bl A5 (Ae ?_)
    rotate_left 2
    focus
     refine go A0 false ?_
     conv=>whnf
     refine A8 ?_
     refine A7 [2] A5 ⟨?_,trivial⟩
     refine go A0 false ?_
     conv=>whnf
     (repeat refine An ?_)
     refine A8 ?_
     refine A7 [3] A5 ⟨?_,trivial⟩
     refine go A0 false ?_
     conv=>whnf
     refine A8 ?_
     refine A7 [5] A5 ⟨?_,trivial⟩
     refine go A0 false ?_
     conv=>whnf
     refine A8 ?_
     refine Bl A5 (Ae ?_)
   rotate_left 3
   focus
    refine go A0 false ?_
    conv=>whnf
    (repeat refine An ?_)
    refine A8 ?_
    refine A7 [1,4] A5 ⟨?_,?_,trivial⟩
    focus
     refine go A0 false ?_
     conv=>whnf
     refine Av (Di g hg) rfl (Ae ?_)
     refine A8 ?_
     refine A7 [3,4] A5 ⟨?_,?_,trivial⟩
     focus
      refine go A0 false ?_
      conv=>whnf
      refine A8 ?_
      refine A7 [4] A5 ⟨?_,trivial⟩
      refine go A0 false ?_
      conv=>whnf
      refine A8 ?_
      refine A7 [5] A5 ⟨?_,trivial⟩
      refine go A0 false ?_
      conv=>whnf
      refine A8 ?_
      refine Bl A5 (Ae ?_)
     rotate_left 1
     focus
      refine go A0 false ?_
      conv=>whnf
      refine A8 ?_
      refine A7 [3] A5 ⟨?_,trivial⟩
      refine go A0 false ?_
      conv=>whnf
      refine A8 ?_
      refine A7 [5] A5 ⟨?_,trivial⟩
      refine go A0 false ?_
      conv=>whnf
      refine A8 ?_
      refine Bl A5 (Ae ?_)
    rotate_left 2
    focus
     refine go A0 false ?_
     conv=>whnf
     refine A8 ?_
     refine A7 [1] A5 ⟨?_,trivial⟩
     refine go A0 false ?_
     conv=>whnf
     refine Av (Di g hg) rfl (Ae ?_)
     refine A8 ?_
     refine A7 [3] A5 ⟨?_,trivial⟩
     refine go A0 false ?_
     conv=>whnf
     refine A8 ?_
     refine A7 [5] A5 ⟨?_,trivial⟩
     refine go A0 false ?_
     conv=>whnf
     refine A8 ?_
     refine Bl A5 (Ae ?_)
   rotate_left 3
   focus
    refine go A0 false ?_
    conv=>whnf
    refine A8 ?_
    refine A7 [1,2] A5 ⟨?_,?_,trivial⟩
    focus
     refine go A0 false ?_
     conv=>whnf
     refine Av (Di g hg) rfl (Ae ?_)
     refine A8 ?_
     refine A7 [2] A5 ⟨?_,trivial⟩
     refine go A0 false ?_
     conv=>whnf
     (repeat refine An ?_)
     refine A8 ?_
     refine A7 [3] A5 ⟨?_,trivial⟩
     refine go A0 false ?_
     conv=>whnf
     refine A8 ?_
     refine A7 [5] A5 ⟨?_,trivial⟩
     refine go A0 false ?_
     conv=>whnf
     refine A8 ?_
     refine Bl A5 (Ae ?_)
    rotate_left 1
    focus
     refine go A0 false ?_
     conv=>whnf
     (repeat refine An ?_)
     refine A8 ?_
     refine A7 [1] A5 ⟨?_,trivial⟩
     refine go A0 false ?_
     conv=>whnf
     refine Av (Di g hg) rfl (Ae ?_)
     refine A8 ?_
     refine A7 [3] A5 ⟨?_,trivial⟩
     refine go A0 false ?_
     conv=>whnf
     refine A8 ?_
     refine A7 [5] A5 ⟨?_,trivial⟩
     refine go A0 false ?_
     conv=>whnf
     refine A8 ?_
     refine Bl A5 (Ae ?_)
  rotate_left 8
  focus
   refine go A0 false ?_
   conv=>whnf
   (repeat refine An ?_)
   refine A8 ?_
   refine A7 [0,4] A5 ⟨?_,?_,trivial⟩
   focus
    refine go A0 false ?_
    conv=>whnf
    refine A8 ?_
    refine A7 [1,4] A5 ⟨?_,?_,trivial⟩
    focus
     refine go A0 false ?_
     conv=>whnf
     refine Av (Di g hg) rfl (Ae ?_)
     refine A8 ?_
     refine A7 [3,4] A5 ⟨?_,?_,trivial⟩
     focus
      refine go A0 false ?_
      conv=>whnf
      refine A8 ?_
      refine A7 [4] A5 ⟨?_,trivial⟩
      refine go A0 false ?_
      conv=>whnf
      refine A8 ?_
      refine A7 [5] A5 ⟨?_,trivial⟩
      refine go A0 false ?_
      conv=>whnf
      refine A8 ?_
      refine Bl A5 (Ae ?_)
     rotate_left 1
     focus
      refine go A0 false ?_
      conv=>whnf
      refine A8 ?_
      refine A7 [3] A5 ⟨?_,trivial⟩
      refine go A0 false ?_
      conv=>whnf
      refine A8 ?_
      refine A7 [5] A5 ⟨?_,trivial⟩
      refine go A0 false ?_
      conv=>whnf
      refine A8 ?_
      refine Bl A5 (Ae ?_)
    rotate_left 2
    focus
     refine go A0 false ?_
     conv=>whnf
     refine A8 ?_
     refine A7 [1] A5 ⟨?_,trivial⟩
     refine go A0 false ?_
     conv=>whnf
     refine Av (Di g hg) rfl (Ae ?_)
     refine A8 ?_
     refine A7 [3] A5 ⟨?_,trivial⟩
     refine go A0 false ?_
     conv=>whnf
     refine A8 ?_
     refine A7 [5] A5 ⟨?_,trivial⟩
     refine go A0 false ?_
     conv=>whnf
     refine A8 ?_
     refine Bl A5 (Ae ?_)
   rotate_left 3
   focus
    refine go A0 false ?_
    conv=>whnf
    refine A8 ?_
    refine A7 [0] A5 ⟨?_,trivial⟩
    refine go A0 false ?_
    conv=>whnf
    refine A8 ?_
    refine A7 [1] A5 ⟨?_,trivial⟩
    refine go A0 false ?_
    conv=>whnf
    refine Av (Di g hg) rfl (Ae ?_)
    refine A8 ?_
    refine A7 [3] A5 ⟨?_,trivial⟩
    refine go A0 false ?_
    conv=>whnf
    refine A8 ?_
    refine A7 [5] A5 ⟨?_,trivial⟩
    refine go A0 false ?_
    conv=>whnf
    refine A8 ?_
    refine Bl A5 (Ae ?_)
  rotate_left 4
  focus
   refine go A0 false ?_
   conv=>whnf
   refine A8 ?_
   refine A7 [0,2] A5 ⟨?_,?_,trivial⟩
   focus
    refine go A0 false ?_
    conv=>whnf
    refine A8 ?_
    refine A7 [1,2] A5 ⟨?_,?_,trivial⟩
    focus
     refine go A0 false ?_
     conv=>whnf
     refine Av (Di g hg) rfl (Ae ?_)
     refine A8 ?_
     refine A7 [2] A5 ⟨?_,trivial⟩
     refine go A0 false ?_
     conv=>whnf
     (repeat refine An ?_)
     refine A8 ?_
     refine A7 [3] A5 ⟨?_,trivial⟩
     refine go A0 false ?_
     conv=>whnf
     refine A8 ?_
     refine A7 [5] A5 ⟨?_,trivial⟩
     refine go A0 false ?_
     conv=>whnf
     refine A8 ?_
     refine Bl A5 (Ae ?_)
    rotate_left 1
    focus
     refine go A0 false ?_
     conv=>whnf
     (repeat refine An ?_)
     refine A8 ?_
     refine A7 [1] A5 ⟨?_,trivial⟩
     refine go A0 false ?_
     conv=>whnf
     refine Av (Di g hg) rfl (Ae ?_)
     refine A8 ?_
     refine A7 [3] A5 ⟨?_,trivial⟩
     refine go A0 false ?_
     conv=>whnf
     refine A8 ?_
     refine A7 [5] A5 ⟨?_,trivial⟩
     refine go A0 false ?_
     conv=>whnf
     refine A8 ?_
     refine Bl A5 (Ae ?_)
   rotate_left 2
   focus
    refine go A0 false ?_
    conv=>whnf
    (repeat refine An ?_)
    refine A8 ?_
    refine A7 [0] A5 ⟨?_,trivial⟩
    refine go A0 false ?_
    conv=>whnf
    refine A8 ?_
    refine A7 [1] A5 ⟨?_,trivial⟩
    refine go A0 false ?_
    conv=>whnf
    refine Av (Di g hg) rfl (Ae ?_)
    refine A8 ?_
    refine A7 [3] A5 ⟨?_,trivial⟩
    refine go A0 false ?_
    conv=>whnf
    refine A8 ?_
    refine A7 [5] A5 ⟨?_,trivial⟩
    refine go A0 false ?_
    conv=>whnf
    refine A8 ?_
    refine Bl A5 (Ae ?_)
  all_goals first|exact At [(2,5),(3,6),(4,7)] (()) (trivial) Lv ⟨rfl,trivial⟩ ⟨rfl,G5,trivial⟩ Cp A5 Cc A5|exact At [(2,5),(3,7),(4,6)] (()) (trivial) Lv ⟨rfl,trivial⟩ ⟨rfl,G5,trivial⟩ Cp A5 Cc A5|exact At [(2,6),(3,5),(4,7)] (()) (trivial) Lv ⟨rfl,trivial⟩ ⟨rfl,G5,trivial⟩ Cp A5 Cc A5|exact At [(2,6),(3,7),(4,5)] (()) (trivial) Lv ⟨rfl,trivial⟩ ⟨rfl,G5,trivial⟩ Cp A5 Cc A5|exact At [(2,7),(3,5),(4,6)] (()) (trivial) Lv ⟨rfl,trivial⟩ ⟨rfl,G5,trivial⟩ Cp A5 Cc A5|exact At [(2,7),(3,6),(4,5)] (()) (trivial) Lv ⟨rfl,trivial⟩ ⟨rfl,G5,trivial⟩ Cp A5 Cc A5
 clear he
 refine A1c 2 3 8 (fun i=>A6.c (([]:List A6).getD i default)) rfl rfl ?_
 refine A1c 2 4 6 (fun i=>As.c (([]:List As).getD i default)) rfl rfl ?_
 refine Gk 6 (Bu (List.replicate (0 * n) (Fp g.cap))) rfl (by rw [Nat.zero_mul];exact Do) ?_
 refine B6 A0 false [9,53,54,55,56,57,58,59,60,61,62,63,64,65,66,67,68,69,70,71,72,73,74,75,76,77,78,79,80,81,82,83] (fun k:Nat=>[(8,.c (vi k))]) (fun k=>[⟨2,[.own 3,.c (vi g.workers),.c (vi g.cap),.own 5,.own 6,.own 4,.c (.val (.slice none 0 0))]⟩,⟨0,[.c (Bb g.nodes),.c (vi g.workers),.c (vi g.cap)]⟩,⟨1,[.c (.val (.slice none 0 0)),.c (vi 0),.c (vi 0),.c (.val (.slice none 0 0)),.c (.val (.slice none 0 0)),.c (.val (.slice none 0 0)),.c (.val (.slice none 0 0))]⟩]) (fun k=>[⟨3,Bb g.nodes⟩,⟨4,Be (List.replicate 4 default)⟩,⟨5,Ap (Dx g.workers l k)⟩,⟨6,Bu (List.replicate (k * n) (Fp g.cap))⟩])
  (fun k=>k≤n) (fun k=>n-k) 0 (Nat.zero_le _) ⟨by first|rfl|simp [Cr,ren2,ren1,ren0],trivial⟩ Cp ⟨by first|rfl|exact (congrArg (fun l=>Cb _ _ l) (List.append_nil _)).symm|(show (_:Ab)=_;simp)|simp,by first|rfl|exact (congrArg (fun l=>Cb _ _ l) (List.append_nil _)).symm|(show (_:Ab)=_;simp)|simp,by first|rfl|exact (congrArg (fun l=>Cb _ _ l) (List.append_nil _)).symm|(show (_:Ab)=_;simp)|simp,by first|rfl|exact (congrArg (fun l=>Cb _ _ l) (List.append_nil _)).symm|(show (_:Ab)=_;simp)|simp,trivial⟩ Cc A5 (fun k hk=>?_)
 conv=>whnf
 conv=>whnf
 refine F2 (fun hlt=>?_) fun hlt=>?_<;>conv=>whnf
 ·have hlt:k<n:=by omega
  have hkl:=S7 g.workers l k
  have hol:=Pa g.workers l k 4
  first|(refine Ak 8 rfl [0,1,2,3,4,5] A5 (Ae ?_))|(refine Ak 12 rfl [0,1,2,3,4,5,6,7,8,9,10] A5 (Ae ?_))|(refine Ak 16 rfl [0,1,2,3,4,5,6,7,8] A5 (Ae ?_))
  refine Av (B5f g l k h2 Ad) rfl (Ae ?_)
  refine Av (Yo (Lq g.workers l k 4) Ad) rfl (Ae ?_)
  refine Mi A0 rfl rfl rfl rfl rfl rfl rfl rfl rfl (Ae ?_)
  refine Bm A0 rfl rfl rfl rfl rfl rfl rfl rfl rfl rfl rfl (Ap (Dx g.workers l k++[Jz (Lq g.workers l k 4)])) (Bh rfl) Ef Ad (Ae ?_)
  rw [←Ta]
  refine B6 A0 false [69,70,71,72,73,74,75,76,77,78,79,80,81,82] (fun j:Nat=>[(9,.c (vi j))]) (fun j=>[⟨2,[.own 3,.c (vi g.workers),.c (vi g.cap),.own 17,.own 6,.own 4,.c (.val (.slice none 0 0))]⟩,⟨0,[.c (Bb g.nodes),.c (vi g.workers),.c (vi g.cap)]⟩,⟨1,[.c (.val (.slice none 0 0)),.c (vi 0),.c (vi 0),.c (.val (.slice none 0 0)),.c (.val (.slice none 0 0)),.c (.val (.slice none 0 0)),.c (.val (.slice none 0 0))]⟩]) (fun j=>[⟨3,Bb g.nodes⟩,⟨4,Be (List.replicate 4 default)⟩,⟨17,Ap (Dx g.workers l (k+1))⟩,⟨6,Bu (List.replicate (k * n+j) (Fp g.cap))⟩])
   (fun j=>j≤n) (fun j=>n-j) 0 (Nat.zero_le _) ⟨by first|rfl|simp [Cr,ren2,ren1,ren0],trivial⟩ Cp ⟨by first|rfl|exact (congrArg (fun l=>Cb _ _ l) (List.append_nil _)).symm|(show (_:Ab)=_;simp)|simp,by first|rfl|exact (congrArg (fun l=>Cb _ _ l) (List.append_nil _)).symm|(show (_:Ab)=_;simp)|simp,by first|rfl|exact (congrArg (fun l=>Cb _ _ l) (List.append_nil _)).symm|(show (_:Ab)=_;simp)|simp,by first|rfl|exact (congrArg (fun l=>Cb _ _ l) (List.append_nil _)).symm|(show (_:Ab)=_;simp)|simp,trivial⟩ Cc A5 (fun j hj=>?_)
  conv=>whnf
  conv=>whnf
  refine F2 (fun hlt2=>?_) fun hlt2=>?_<;>conv=>whnf
  ·have hlt2:j<n:=by omega
   have hkn:k * n≤16:=Nat.le_trans (Nat.mul_le_mul (show k≤4 by omega) (show n≤4 by omega)) Bs
   first|(refine Ak 8 rfl [0,1,2,3,4,5] A5 (Ae ?_))|(refine Ak 12 rfl [0,1,2,3,4,5,6,7,8,9,10] A5 (Ae ?_))|(refine Ak 16 rfl [0,1,2,3,4,5,6,7,8] A5 (Ae ?_))
   refine Av (A4h g.cap) rfl (Ae ?_)
   refine Mi A0 rfl rfl rfl rfl rfl rfl rfl rfl rfl (Ae ?_)
   refine Bm A0 rfl rfl rfl rfl rfl rfl rfl rfl rfl rfl rfl (Bu (List.replicate (k * n+j) (Fp g.cap)++[Fp g.cap])) (Bh rfl) Ef (by (rw [List.length_replicate];omega)) (Ae ?_)
   (repeat refine An ?_)
   refine At [(6,20)] (j+1) Ad Ad ⟨rfl,trivial⟩ ⟨rfl,rfl,rfl,congrArg Bu (by rw [show k * n+(j+1)=(k * n+j)+1 by omega,List.replicate_succ']),trivial⟩ Cp A5 Cc A5
  ·obtain rfl:j=n:=by omega
   (repeat refine An ?_)
   refine At [(5,17)] (k+1) Ad Ad ⟨rfl,trivial⟩ ⟨rfl,rfl,rfl,congrArg (fun m=>Bu (List.replicate m (Fp g.cap))) (by rw [Nat.succ_mul]),trivial⟩ Cp A5 Cc A5
 ·obtain rfl:k=n:=by omega
  rw [show g.workers.toNat=k by omega]
  (repeat refine An ?_)
  refine Ah A0 rfl rfl ?_
  exact C1
set_option maxHeartbeats 8000000 in
theorem P2 (g:Ar)(l:List A3)(hg:g.w≤16777216)(hl:l.length≤16777216):Aq Tryz.prog 40 [.agg g.c,.one (A9 l)] [.agg (B4 g l).1.c,.one (vb (B4 g l).2)]:=by
 refine Aj A0 false Tryz.func40 rfl Bs fun W=>?_
 conv=>whnf
 refine Ai (Ip g Ad) rfl (Ae ?_)
 refine ⟨fun h1=>?_,fun h1=>?_⟩<;>conv=>whnf
 ·have h1:Fi g=false:=by simpa using h1
  repeat refine B9 ?_
  rw [Jb (fun p=>absurd p.1 (of_decide_eq_false h1))]
  refine Ah A0 rfl rfl ?_
  exact C1
 have h1:H1 g:=of_decide_eq_true (show Fi g=true by simpa using h1)
 repeat refine B9 ?_
 refine ⟨fun h2=>?_,fun h2=>?_⟩<;>conv=>whnf
 ·have h2:¬ l.length≤20:=by have:=of_decide_eq_true h2;omega
  repeat refine B9 ?_
  rw [Jb (fun p=>h2 p.2.1)]
  refine Ah A0 rfl rfl ?_
  exact C1
 have h2:l.length≤20:=by have:=of_decide_eq_false h2;omega
 repeat refine B9 ?_
 have hwk:=h1.2.1
 obtain ⟨n,hn⟩:∃n:Nat,g.workers=n:=⟨g.workers.toNat,by omega⟩
 refine B6 A0 false [] (fun k:Nat=>[(26,.c (vi k))]) (fun k=>[⟨0,[.c (Bb g.nodes),.c (vi g.workers),.c (vi g.cap)]⟩,⟨1,[.c (.val (.slice none 0 0)),.c (vi 0),.c (vi 0),.c (.val (.slice none 0 0)),.c (.val (.slice none 0 0)),.c (.val (.slice none 0 0)),.c (.val (.slice none 0 0))]⟩]) (fun k=>[])
  (fun k=>k≤l.length∧∀i,i<k→InP (l.getD i default)) (fun k=>l.length-k) 0 ⟨Nat.zero_le _,by first|rfl|assumption|simp⟩ ⟨by first|rfl|simp [Cr,ren2,ren1,ren0],trivial⟩ Cp trivial Cc A5 (fun k hk=>?_)
 obtain ⟨hk,he⟩:=hk
 conv=>whnf
 conv=>whnf
 refine F2 (fun h3=>?_) fun h3=>?_<;>conv=>whnf
 ·have h3:k<l.length:=by omega
  (repeat refine An ?_)
  refine Ai (Ht (l.getD k default)) rfl (Ae ?_)
  repeat refine B9 ?_
  refine ⟨fun h4=>?_,fun h4=>?_⟩<;>conv=>whnf
  ·have h4:F8 (l.getD k default)=false:=by simpa using h4
   repeat refine B9 ?_
   rw [Jb (fun p=>absurd (p.2.2 _ (B2 h3)).1 (of_decide_eq_false h4))]
   refine Ah A0 rfl rfl ?_
   exact C1
  have h4:Gx (l.getD k default):=of_decide_eq_true (show F8 (l.getD k default)=true by simpa using h4)
  repeat refine B9 ?_
  (repeat refine An ?_)
  refine ⟨fun h5=>have h5:=bne_iff_ne.1 h5;?_,fun h5=>have h5:=bne_eq_false_iff_eq.1 h5;?_⟩<;>conv=>whnf
  ·have h5:(l.getD k default).op≠0:=h5
   repeat refine B9 ?_
   rw [Jb (fun p=>h5 (p.2.2 _ (B2 h3)).2.1)]
   refine Ah A0 rfl rfl ?_
   exact C1
  have h5:(l.getD k default).op=0:=h5
  repeat refine B9 ?_
  (repeat refine An ?_)
  refine ⟨fun h6=>have h6:=bne_iff_ne.1 h6;?_,fun h6=>have h6:=bne_eq_false_iff_eq.1 h6;?_⟩<;>conv=>whnf
  ·have h6:(l.getD k default).stamp.turn≠0:=h6
   repeat refine B9 ?_
   rw [Jb (fun p=>h6 (p.2.2 _ (B2 h3)).2.2)]
   refine Ah A0 rfl rfl ?_
   exact C1
  have h6:(l.getD k default).stamp.turn=0:=h6
  repeat refine B9 ?_
  (repeat refine An ?_)
  refine At [] (k+1) ⟨by omega,fun i hi=>(Nat.lt_succ_iff_lt_or_eq.1 hi).elim (fun h7=>he i h7) (fun h7=>by subst h7;exact ⟨h4,h5,h6⟩)⟩ Ad ⟨rfl,trivial⟩ trivial Cp A5 Cc A5
 have hN:V9 g l:=⟨h1,h2,fun r hr=>by
  obtain ⟨i,hi,rfl⟩:=List.getElem_of_mem hr
  have:=he i Ad
  rw [show l.getD i default=l[i] by simp [List.getD,hi]] at this
  exact this⟩
 rw [Pz hN]
 refine A65 3 ?_
 refine B38 A0 false (J:=Unit) [46,47,48,49] (fun _=>[(8,.box 2 0)]) (fun _=>[⟨2,[.own 3,.c (vi g.workers),.c (vi g.cap),.c (.val (.slice none 0 0)),.c (.val (.slice none 0 0)),.own 4,.c (.val (.slice none 0 0))]⟩,⟨0,[.c (Bb g.nodes),.c (vi g.workers),.c (vi g.cap)]⟩,⟨1,[.c (.val (.slice none 0 0)),.c (vi 0),.c (vi 0),.c (.val (.slice none 0 0)),.c (.val (.slice none 0 0)),.c (.val (.slice none 0 0)),.c (.val (.slice none 0 0))]⟩]) (fun _=>[⟨3,Bb g.nodes⟩,⟨4,Be (List.replicate 4 default)⟩]) (fun _=>True) ?_ (fun _ _=>?_)
 ·conv=>whnf
  refine A7a rfl ?_
  refine A7 [0,2,4] A5 ⟨?_,?_,?_,trivial⟩
  focus
   refine go A0 false ?_
   conv=>whnf
   refine A8 ?_
   refine A7 [1,2,4] A5 ⟨?_,?_,?_,trivial⟩
   focus
    refine go A0 false ?_
    conv=>whnf
    refine Av (Dg g hg) rfl (Ae ?_)
    refine A8 ?_
    refine A7 [2,4] A5 ⟨?_,?_,trivial⟩
    focus
     refine go A0 false ?_
     conv=>whnf
     (repeat refine An ?_)
     refine A8 ?_
     refine A7 [3,4] A5 ⟨?_,?_,trivial⟩
     focus
      refine go A0 false ?_
      conv=>whnf
      refine A8 ?_
      refine A7 [4] A5 ⟨?_,trivial⟩
      refine go A0 false ?_
      conv=>whnf
      refine A8 ?_
      refine A7 [5] A5 ⟨?_,trivial⟩
      refine go A0 false ?_
      conv=>whnf
      refine A8 ?_
      refine Bl A5 (Ae ?_)
     rotate_left 1
     focus
      refine go A0 false ?_
      conv=>whnf
      refine A8 ?_
      refine A7 [3] A5 ⟨?_,trivial⟩
      refine go A0 false ?_
      conv=>whnf
      refine A8 ?_
      refine A7 [5] A5 ⟨?_,trivial⟩
      refine go A0 false ?_
      conv=>whnf
      refine A8 ?_
      refine Bl A5 (Ae ?_)
    rotate_left 2
    focus
     refine go A0 false ?_
     conv=>whnf
     refine A8 ?_
     refine A7 [2] A5 ⟨?_,trivial⟩
     refine go A0 false ?_
     conv=>whnf
     (repeat refine An ?_)
     refine A8 ?_
     refine A7 [3] A5 ⟨?_,trivial⟩
     refine go A0 false ?_
     conv=>whnf
     refine A8 ?_
     refine A7 [5] A5 ⟨?_,trivial⟩
     refine go A0 false ?_
     conv=>whnf
     refine A8 ?_
     refine Bl A5 (Ae ?_)
   rotate_left 3
   focus
    refine go A0 false ?_
    conv=>whnf
    (repeat refine An ?_)
    refine A8 ?_
    refine A7 [1,4] A5 ⟨?_,?_,trivial⟩
    focus
     refine go A0 false ?_
     conv=>whnf
     refine Av (Dg g hg) rfl (Ae ?_)
     refine A8 ?_
     refine A7 [3,4] A5 ⟨?_,?_,trivial⟩
     focus
      refine go A0 false ?_
      conv=>whnf
      refine A8 ?_
      refine A7 [4] A5 ⟨?_,trivial⟩
      refine go A0 false ?_
      conv=>whnf
      refine A8 ?_
      refine A7 [5] A5 ⟨?_,trivial⟩
      refine go A0 false ?_
      conv=>whnf
      refine A8 ?_
      refine Bl A5 (Ae ?_)
     rotate_left 1
     focus
      refine go A0 false ?_
      conv=>whnf
      refine A8 ?_
      refine A7 [3] A5 ⟨?_,trivial⟩
      refine go A0 false ?_
      conv=>whnf
      refine A8 ?_
      refine A7 [5] A5 ⟨?_,trivial⟩
      refine go A0 false ?_
      conv=>whnf
      refine A8 ?_
      refine Bl A5 (Ae ?_)
    rotate_left 2
    focus
     refine go A0 false ?_
     conv=>whnf
     refine A8 ?_
     refine A7 [1] A5 ⟨?_,trivial⟩
     refine go A0 false ?_
     conv=>whnf
     refine Av (Dg g hg) rfl (Ae ?_)
     refine A8 ?_
     refine A7 [3] A5 ⟨?_,trivial⟩
     refine go A0 false ?_
     conv=>whnf
     refine A8 ?_
     refine A7 [5] A5 ⟨?_,trivial⟩
     refine go A0 false ?_
     conv=>whnf
     refine A8 ?_
     refine Bl A5 (Ae ?_)
   rotate_left 3
   focus
    refine go A0 false ?_
    conv=>whnf
    refine A8 ?_
    refine A7 [1,2] A5 ⟨?_,?_,trivial⟩
    focus
     refine go A0 false ?_
     conv=>whnf
     refine Av (Dg g hg) rfl (Ae ?_)
     refine A8 ?_
     refine A7 [2] A5 ⟨?_,trivial⟩
     refine go A0 false ?_
     conv=>whnf
     (repeat refine An ?_)
     refine A8 ?_
     refine A7 [3] A5 ⟨?_,trivial⟩
     refine go A0 false ?_
     conv=>whnf
     refine A8 ?_
     refine A7 [5] A5 ⟨?_,trivial⟩
     refine go A0 false ?_
     conv=>whnf
     refine A8 ?_
     refine Bl A5 (Ae ?_)
    rotate_left 1
    focus
     refine go A0 false ?_
     conv=>whnf
     (repeat refine An ?_)
     refine A8 ?_
     refine A7 [1] A5 ⟨?_,trivial⟩
     refine go A0 false ?_
     conv=>whnf
     refine Av (Dg g hg) rfl (Ae ?_)
     refine A8 ?_
     refine A7 [3] A5 ⟨?_,trivial⟩
     refine go A0 false ?_
     conv=>whnf
     refine A8 ?_
     refine A7 [5] A5 ⟨?_,trivial⟩
     refine go A0 false ?_
     conv=>whnf
     refine A8 ?_
     refine Bl A5 (Ae ?_)
  rotate_left 8
  focus
   refine go A0 false ?_
   conv=>whnf
   (repeat refine An ?_)
   refine A8 ?_
   refine A7 [0,4] A5 ⟨?_,?_,trivial⟩
   focus
    refine go A0 false ?_
    conv=>whnf
    refine A8 ?_
    refine A7 [1,4] A5 ⟨?_,?_,trivial⟩
    focus
     refine go A0 false ?_
     conv=>whnf
     refine Av (Dg g hg) rfl (Ae ?_)
     refine A8 ?_
     refine A7 [3,4] A5 ⟨?_,?_,trivial⟩
     focus
      refine go A0 false ?_
      conv=>whnf
      refine A8 ?_
      refine A7 [4] A5 ⟨?_,trivial⟩
      refine go A0 false ?_
      conv=>whnf
      refine A8 ?_
      refine A7 [5] A5 ⟨?_,trivial⟩
      refine go A0 false ?_
      conv=>whnf
      refine A8 ?_
      refine Bl A5 (Ae ?_)
     rotate_left 1
     focus
      refine go A0 false ?_
      conv=>whnf
      refine A8 ?_
      refine A7 [3] A5 ⟨?_,trivial⟩
      refine go A0 false ?_
      conv=>whnf
      refine A8 ?_
      refine A7 [5] A5 ⟨?_,trivial⟩
      refine go A0 false ?_
      conv=>whnf
      refine A8 ?_
      refine Bl A5 (Ae ?_)
    rotate_left 2
    focus
     refine go A0 false ?_
     conv=>whnf
     refine A8 ?_
     refine A7 [1] A5 ⟨?_,trivial⟩
     refine go A0 false ?_
     conv=>whnf
     refine Av (Dg g hg) rfl (Ae ?_)
     refine A8 ?_
     refine A7 [3] A5 ⟨?_,trivial⟩
     refine go A0 false ?_
     conv=>whnf
     refine A8 ?_
     refine A7 [5] A5 ⟨?_,trivial⟩
     refine go A0 false ?_
     conv=>whnf
     refine A8 ?_
     refine Bl A5 (Ae ?_)
   rotate_left 3
   focus
    refine go A0 false ?_
    conv=>whnf
    refine A8 ?_
    refine A7 [0] A5 ⟨?_,trivial⟩
    refine go A0 false ?_
    conv=>whnf
    refine A8 ?_
    refine A7 [1] A5 ⟨?_,trivial⟩
    refine go A0 false ?_
    conv=>whnf
    refine Av (Dg g hg) rfl (Ae ?_)
    refine A8 ?_
    refine A7 [3] A5 ⟨?_,trivial⟩
    refine go A0 false ?_
    conv=>whnf
    refine A8 ?_
    refine A7 [5] A5 ⟨?_,trivial⟩
    refine go A0 false ?_
    conv=>whnf
    refine A8 ?_
    refine Bl A5 (Ae ?_)
  rotate_left 4
  focus
   refine go A0 false ?_
   conv=>whnf
   refine A8 ?_
   refine A7 [0,2] A5 ⟨?_,?_,trivial⟩
   focus
    refine go A0 false ?_
    conv=>whnf
    refine A8 ?_
    refine A7 [1,2] A5 ⟨?_,?_,trivial⟩
    focus
     refine go A0 false ?_
     conv=>whnf
     refine Av (Dg g hg) rfl (Ae ?_)
     refine A8 ?_
     refine A7 [2] A5 ⟨?_,trivial⟩
     refine go A0 false ?_
     conv=>whnf
     (repeat refine An ?_)
     refine A8 ?_
     refine A7 [3] A5 ⟨?_,trivial⟩
     refine go A0 false ?_
     conv=>whnf
     refine A8 ?_
     refine A7 [5] A5 ⟨?_,trivial⟩
     refine go A0 false ?_
     conv=>whnf
     refine A8 ?_
     refine Bl A5 (Ae ?_)
    rotate_left 1
    focus
     refine go A0 false ?_
     conv=>whnf
     (repeat refine An ?_)
     refine A8 ?_
     refine A7 [1] A5 ⟨?_,trivial⟩
     refine go A0 false ?_
     conv=>whnf
     refine Av (Dg g hg) rfl (Ae ?_)
     refine A8 ?_
     refine A7 [3] A5 ⟨?_,trivial⟩
     refine go A0 false ?_
     conv=>whnf
     refine A8 ?_
     refine A7 [5] A5 ⟨?_,trivial⟩
     refine go A0 false ?_
     conv=>whnf
     refine A8 ?_
     refine Bl A5 (Ae ?_)
   rotate_left 2
   focus
    refine go A0 false ?_
    conv=>whnf
    (repeat refine An ?_)
    refine A8 ?_
    refine A7 [0] A5 ⟨?_,trivial⟩
    refine go A0 false ?_
    conv=>whnf
    refine A8 ?_
    refine A7 [1] A5 ⟨?_,trivial⟩
    refine go A0 false ?_
    conv=>whnf
    refine Av (Dg g hg) rfl (Ae ?_)
    refine A8 ?_
    refine A7 [3] A5 ⟨?_,trivial⟩
    refine go A0 false ?_
    conv=>whnf
    refine A8 ?_
    refine A7 [5] A5 ⟨?_,trivial⟩
    refine go A0 false ?_
    conv=>whnf
    refine A8 ?_
    refine Bl A5 (Ae ?_)
  all_goals first|exact At [(2,5),(3,6),(4,7)] (()) (trivial) Lv ⟨rfl,trivial⟩ ⟨rfl,G5,trivial⟩ Cp A5 Cc A5|exact At [(2,5),(3,7),(4,6)] (()) (trivial) Lv ⟨rfl,trivial⟩ ⟨rfl,G5,trivial⟩ Cp A5 Cc A5|exact At [(2,6),(3,5),(4,7)] (()) (trivial) Lv ⟨rfl,trivial⟩ ⟨rfl,G5,trivial⟩ Cp A5 Cc A5|exact At [(2,6),(3,7),(4,5)] (()) (trivial) Lv ⟨rfl,trivial⟩ ⟨rfl,G5,trivial⟩ Cp A5 Cc A5|exact At [(2,7),(3,5),(4,6)] (()) (trivial) Lv ⟨rfl,trivial⟩ ⟨rfl,G5,trivial⟩ Cp A5 Cc A5|exact At [(2,7),(3,6),(4,5)] (()) (trivial) Lv ⟨rfl,trivial⟩ ⟨rfl,G5,trivial⟩ Cp A5 Cc A5
 clear he
 refine A1c 2 3 8 (fun i=>A6.c (([]:List A6).getD i default)) rfl rfl ?_
 refine A1c 2 4 6 (fun i=>As.c (([]:List As).getD i default)) rfl rfl ?_
 refine Gk 6 (Bu (List.replicate (0 * n) (Fp g.cap))) rfl (by rw [Nat.zero_mul];exact Do) ?_
 refine B6 A0 false [10,11,12,13,14,50,51,52,53,54,55,56,57,58,59,60,61,62,63,64,65,66,67,68,69,70,71,72,73,74,75,76,77,78,79,80,81,82,83,84,85,86,87,88,89,90,91,92,93,94,95,96,97,98,99,100] (fun k:Nat=>[(9,.c (vi k))]) (fun k=>[⟨2,[.own 3,.c (vi g.workers),.c (vi g.cap),.own 5,.own 6,.own 4,.c (.val (.slice none 0 0))]⟩,⟨0,[.c (Bb g.nodes),.c (vi g.workers),.c (vi g.cap)]⟩,⟨1,[.c (.val (.slice none 0 0)),.c (vi 0),.c (vi 0),.c (.val (.slice none 0 0)),.c (.val (.slice none 0 0)),.c (.val (.slice none 0 0)),.c (.val (.slice none 0 0))]⟩]) (fun k=>[⟨3,Bb g.nodes⟩,⟨4,Be (List.replicate 4 default)⟩,⟨5,Ap (Dx g.workers l k)⟩,⟨6,Bu (List.replicate (k * n) (Fp g.cap))⟩])
  (fun k=>k≤n) (fun k=>n-k) 0 (Nat.zero_le _) ⟨by first|rfl|simp [Cr,ren2,ren1,ren0],trivial⟩ Cp ⟨by first|rfl|exact (congrArg (fun l=>Cb _ _ l) (List.append_nil _)).symm|(show (_:Ab)=_;simp)|simp,by first|rfl|exact (congrArg (fun l=>Cb _ _ l) (List.append_nil _)).symm|(show (_:Ab)=_;simp)|simp,by first|rfl|exact (congrArg (fun l=>Cb _ _ l) (List.append_nil _)).symm|(show (_:Ab)=_;simp)|simp,by first|rfl|exact (congrArg (fun l=>Cb _ _ l) (List.append_nil _)).symm|(show (_:Ab)=_;simp)|simp,trivial⟩ Cc A5 (fun k hk=>?_)
 conv=>whnf
 conv=>whnf
 refine F2 (fun hlt=>?_) fun hlt=>?_<;>conv=>whnf
 ·have hlt:k<n:=by omega
  have hkl:=S7 g.workers l k
  have hol:=Pa g.workers l k 4
  refine Wv 10 5 (fun i=>A3.c (([]:List A3).getD i default)) rfl ?_
  refine B6 A0 false [] (fun e:Nat=>[(11,.c (vi e))]) (fun e=>[⟨2,[.own 3,.c (vi g.workers),.c (vi g.cap),.own 5,.own 6,.own 4,.c (.val (.slice none 0 0))]⟩,⟨0,[.c (Bb g.nodes),.c (vi g.workers),.c (vi g.cap)]⟩,⟨1,[.c (.val (.slice none 0 0)),.c (vi 0),.c (vi 0),.c (.val (.slice none 0 0)),.c (.val (.slice none 0 0)),.c (.val (.slice none 0 0)),.c (.val (.slice none 0 0))]⟩]) (fun e=>[⟨3,Bb g.nodes⟩,⟨4,Be (List.replicate 4 default)⟩,⟨5,Ap (Dx g.workers l k)⟩,⟨6,Bu (List.replicate (k * n) (Fp g.cap))⟩,⟨7,A9 (Lq g.workers l k e)⟩])
   (fun e=>e≤4) (fun e=>4-e) 0 (Nat.zero_le _) ⟨by first|rfl|simp [Cr,ren2,ren1,ren0],trivial⟩ Cp ⟨by first|rfl|exact (congrArg (fun l=>Cb _ _ l) (List.append_nil _)).symm|(show (_:Ab)=_;simp)|simp,by first|rfl|exact (congrArg (fun l=>Cb _ _ l) (List.append_nil _)).symm|(show (_:Ab)=_;simp)|simp,by first|rfl|exact (congrArg (fun l=>Cb _ _ l) (List.append_nil _)).symm|(show (_:Ab)=_;simp)|simp,by first|rfl|exact (congrArg (fun l=>Cb _ _ l) (List.append_nil _)).symm|(show (_:Ab)=_;simp)|simp,by first|rfl|exact (congrArg (fun l=>Cb _ _ l) (List.append_nil _)).symm|(show (_:Ab)=_;simp)|simp,trivial⟩ Cc A5 (fun e he=>?_)
  conv=>whnf
  conv=>whnf
  refine ⟨fun hE=>?_,fun hE=>?_⟩<;>conv=>whnf
  ·have hE:e<4:=by have:=of_decide_eq_true hE;omega
   have hk1:=Pa g.workers l k e
   have hk2:e * l.length≤80:=Nat.le_trans (Nat.mul_le_mul (show e≤4 by omega) h2) Bs
   have hel:=Jv l e
   refine Av (P4 l e Ad) rfl (Ae ?_)
   refine B6 A0 false [] (fun j:Nat=>[(64,.c (vi j))]) (fun j=>[⟨2,[.own 3,.c (vi g.workers),.c (vi g.cap),.own 5,.own 6,.own 4,.c (.val (.slice none 0 0))]⟩,⟨0,[.c (Bb g.nodes),.c (vi g.workers),.c (vi g.cap)]⟩,⟨1,[.c (.val (.slice none 0 0)),.c (vi 0),.c (vi 0),.c (.val (.slice none 0 0)),.c (.val (.slice none 0 0)),.c (.val (.slice none 0 0)),.c (.val (.slice none 0 0))]⟩]) (fun j=>[⟨3,Bb g.nodes⟩,⟨4,Be (List.replicate 4 default)⟩,⟨5,Ap (Dx g.workers l k)⟩,⟨6,Bu (List.replicate (k * n) (Fp g.cap))⟩,⟨8,A9 (Ei l e)⟩,⟨7,A9 (Lq g.workers l k e++((Ei l e).take j).filter (fun r=>E3 r.key g.workers==k))⟩])
    (fun j=>j≤(Ei l e).length) (fun j=>(Ei l e).length-j) 0 (Nat.zero_le _) ⟨by first|rfl|simp [Cr,ren2,ren1,ren0],trivial⟩ Cp ⟨by first|rfl|exact (congrArg (fun l=>Cb _ _ l) (List.append_nil _)).symm|(show (_:Ab)=_;simp)|simp,by first|rfl|exact (congrArg (fun l=>Cb _ _ l) (List.append_nil _)).symm|(show (_:Ab)=_;simp)|simp,by first|rfl|exact (congrArg (fun l=>Cb _ _ l) (List.append_nil _)).symm|(show (_:Ab)=_;simp)|simp,by first|rfl|exact (congrArg (fun l=>Cb _ _ l) (List.append_nil _)).symm|(show (_:Ab)=_;simp)|simp,by first|rfl|exact (congrArg (fun l=>Cb _ _ l) (List.append_nil _)).symm|(show (_:Ab)=_;simp)|simp,by first|rfl|exact (congrArg (fun l=>Cb _ _ l) (List.append_nil _)).symm|(show (_:Ab)=_;simp)|simp,trivial⟩ Cc A5 (fun j hj=>?_)
   conv=>whnf
   conv=>whnf
   refine F2 (fun hj2=>?_) fun hj2=>?_<;>conv=>whnf
   ·have hj2:j<(Ei l e).length:=by omega
    have hs:=Dv (fun r=>E3 r.key g.workers==(k:Int)) (Ei l e) j hj2
    have hb:=Dn (fun r=>E3 r.key g.workers==(k:Int)) (Ei l e) j
    (repeat refine An ?_)
    refine Ai (U4 ((Ei l e).getD j default).key g.workers Ad) rfl (Ae ?_)
    refine ⟨fun h4=>?_,fun h4=>?_⟩<;>conv=>whnf
    ·(repeat refine An ?_)
     refine Bm A0 rfl rfl rfl rfl rfl rfl rfl rfl rfl rfl rfl (A9 (Lq g.workers l k e++((Ei l e).take j).filter (fun r=>E3 r.key g.workers==k)++[(Ei l e).getD j default])) (Bh rfl) Ef (by (rw [List.length_append];omega)) (Ae ?_)
     (repeat refine An ?_)
     refine At [(7,11)] (j+1) Ad Ad ⟨rfl,trivial⟩ ⟨rfl,rfl,rfl,rfl,rfl,congrArg A9 (by rw [hs,if_pos h4,List.append_assoc]),trivial⟩ Cp A5 Cc A5
    ·(repeat refine An ?_)
     refine At [] (j+1) Ad Ad ⟨rfl,trivial⟩ ⟨rfl,rfl,rfl,rfl,rfl,congrArg A9 (by rw [hs,if_neg (by rw [h4];decide),List.append_nil]),trivial⟩ Cp A5 Cc A5
   ·(repeat refine An ?_)
    refine At [] (e+1) Ad Ad ⟨rfl,trivial⟩ ⟨rfl,rfl,rfl,rfl,congrArg A9 (by rw [Td,List.take_of_length_le Ad]),trivial⟩ Cp A5 Cc A5
  ·have hE:¬ e<4:=by have:=of_decide_eq_false hE;omega
   obtain rfl:e=4:=by omega
   first|(refine Ak 9 rfl [0,1,2,3,4,5] A5 (Ae ?_))|(refine Ak 23 rfl [0,1,2,3,4,5,6,7] A5 (Ae ?_))|(refine Ak 27 rfl [0,1,2,3,4,5,6,7,8] A5 (Ae ?_))
   refine Av (Yi (Lq g.workers l k 4) Ad) rfl (Ae ?_)
   refine Mi A0 rfl rfl rfl rfl rfl rfl rfl rfl rfl (Ae ?_)
   refine Bm A0 rfl rfl rfl rfl rfl rfl rfl rfl rfl rfl rfl (Ap (Dx g.workers l k++[Jz (Lq g.workers l k 4)])) (Bh rfl) Ef Ad (Ae ?_)
   rw [←Ta]
   refine B6 A0 false [] (fun j:Nat=>[(14,.c (vi j))]) (fun j=>[⟨2,[.own 3,.c (vi g.workers),.c (vi g.cap),.own 17,.own 6,.own 4,.c (.val (.slice none 0 0))]⟩,⟨0,[.c (Bb g.nodes),.c (vi g.workers),.c (vi g.cap)]⟩,⟨1,[.c (.val (.slice none 0 0)),.c (vi 0),.c (vi 0),.c (.val (.slice none 0 0)),.c (.val (.slice none 0 0)),.c (.val (.slice none 0 0)),.c (.val (.slice none 0 0))]⟩]) (fun j=>[⟨3,Bb g.nodes⟩,⟨4,Be (List.replicate 4 default)⟩,⟨17,Ap (Dx g.workers l (k+1))⟩,⟨6,Bu (List.replicate (k * n+j) (Fp g.cap))⟩])
    (fun j=>j≤n) (fun j=>n-j) 0 (Nat.zero_le _) ⟨by first|rfl|simp [Cr,ren2,ren1,ren0],trivial⟩ Cp ⟨by first|rfl|exact (congrArg (fun l=>Cb _ _ l) (List.append_nil _)).symm|(show (_:Ab)=_;simp)|simp,by first|rfl|exact (congrArg (fun l=>Cb _ _ l) (List.append_nil _)).symm|(show (_:Ab)=_;simp)|simp,by first|rfl|exact (congrArg (fun l=>Cb _ _ l) (List.append_nil _)).symm|(show (_:Ab)=_;simp)|simp,by first|rfl|exact (congrArg (fun l=>Cb _ _ l) (List.append_nil _)).symm|(show (_:Ab)=_;simp)|simp,trivial⟩ Cc A5 (fun j hj=>?_)
   conv=>whnf
   conv=>whnf
   refine F2 (fun hlt2=>?_) fun hlt2=>?_<;>conv=>whnf
   ·have hlt2:j<n:=by omega
    have hkn:k * n≤16:=Nat.le_trans (Nat.mul_le_mul (show k≤4 by omega) (show n≤4 by omega)) Bs
    first|(refine Ak 9 rfl [0,1,2,3,4,5] A5 (Ae ?_))|(refine Ak 23 rfl [0,1,2,3,4,5,6,7] A5 (Ae ?_))|(refine Ak 27 rfl [0,1,2,3,4,5,6,7,8] A5 (Ae ?_))
    refine Av (A3a g.cap) rfl (Ae ?_)
    refine Mi A0 rfl rfl rfl rfl rfl rfl rfl rfl rfl (Ae ?_)
    refine Bm A0 rfl rfl rfl rfl rfl rfl rfl rfl rfl rfl rfl (Bu (List.replicate (k * n+j) (Fp g.cap)++[Fp g.cap])) (Bh rfl) Ef (by (rw [List.length_replicate];omega)) (Ae ?_)
    (repeat refine An ?_)
    refine At [(6,20)] (j+1) Ad Ad ⟨rfl,trivial⟩ ⟨rfl,rfl,rfl,congrArg Bu (by rw [show k * n+(j+1)=(k * n+j)+1 by omega,List.replicate_succ']),trivial⟩ Cp A5 Cc A5
   ·obtain rfl:j=n:=by omega
    (repeat refine An ?_)
    refine At [(5,17)] (k+1) Ad Ad ⟨rfl,trivial⟩ ⟨rfl,rfl,rfl,congrArg (fun m=>Bu (List.replicate m (Fp g.cap))) (by rw [Nat.succ_mul]),trivial⟩ Cp A5 Cc A5
 ·obtain rfl:k=n:=by omega
  rw [show g.workers.toNat=k by omega]
  (repeat refine An ?_)
  refine Ah A0 rfl rfl ?_
  exact C1
end Go.Proofs.YtlbmkgkmbjadcaaGreat
