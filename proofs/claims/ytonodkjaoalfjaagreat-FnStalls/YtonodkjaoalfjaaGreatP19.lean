/- Part 19 of the proof that each of the laws FnStalls returns true for every input. No conditions. -/
import Derived.Test.YtonodkjaoalfjaaGreatP18
import Derived.Test.YtonodkjaoalfjaaGreatP8
import Derived.Test.YtonodkjaoalfjaaGreatP10

set_option linter.unusedSimpArgs false
set_option linter.unusedVariables false
set_option maxRecDepth 100000
namespace Go.Proofs.YtonodkjaoalfjaaGreat
open Go.Sx
def InP (r:A5):Prop:=Ja r∧r.op=0∧r.stamp.turn=0
theorem R3 {g:Ad}{l:List A5}(h:¬ K6 g l):Ah g l=(Pw,false):=if_neg h
theorem Ul {g:Ad}{l:List A5}(h:K6 g l):Ah g l=(⟨g,E8 g.workers l g.workers.toNat,List.replicate (g.workers.toNat * g.workers.toNat) (Gv g.cap),List.replicate 4 default,[]⟩,true):=if_pos h
theorem Zb (n:Int)(l:List A5)(k:Nat):E8 n l (k+1)=E8 n l k++[Mr (P6 n l k 4)]:=by
 rw [E8,List.range_succ,List.map_append]
 rfl
theorem A35 (n:Int)(l:List A5)(k:Nat):(E8 n l k).length=k:=by rw [E8,List.length_map,List.length_range]
set_option maxHeartbeats 8000000 in
theorem C0r (g:Ad)(l:List A5)(hg:g.w≤16777216)(hl:l.length≤16777216):B0 Tryz.prog 32 [.agg g.c,.one (Ax l)] [.agg (Ah g l).1.c,.one (vb (Ah g l).2)]:=by
 refine Ay A0 false Tryz.func32 rfl Bu fun W=>?_
 conv=>whnf
 refine Aw (A49 g Ac) rfl (Al ?_)
 refine ⟨fun h1=>?_,fun h1=>?_⟩<;>conv=>whnf
 ·have h1:Ga g=false:=by simpa using h1
  repeat refine Bi ?_
  rw [R3 (fun p=>absurd p.1 (of_decide_eq_false h1))]
  refine Ao A0 rfl rfl ?_
  exact Ca
 have h1:E7 g:=of_decide_eq_true (show Ga g=true by simpa using h1)
 repeat refine Bi ?_
 refine ⟨fun h2=>?_,fun h2=>?_⟩<;>conv=>whnf
 ·have h2:¬ l.length≤20:=by have:=of_decide_eq_true h2;omega
  repeat refine Bi ?_
  rw [R3 (fun p=>h2 p.2.1)]
  refine Ao A0 rfl rfl ?_
  exact Ca
 have h2:l.length≤20:=by have:=of_decide_eq_false h2;omega
 repeat refine Bi ?_
 have hwk:=h1.2.1
 obtain ⟨n,hn⟩:∃n:Nat,g.workers=n:=⟨g.workers.toNat,by omega⟩
 refine Bw A0 false [] (fun k:Nat=>[(6,.c (vi k))]) (fun k=>[⟨0,[.c (Bp g.nodes),.c (vi g.workers),.c (vi g.cap)]⟩,⟨1,[.c (.val (.slice none 0 0)),.c (vi 0),.c (vi 0),.c (.val (.slice none 0 0)),.c (.val (.slice none 0 0)),.c (.val (.slice none 0 0)),.c (.val (.slice none 0 0))]⟩]) (fun k=>[])
  (fun k=>k≤l.length∧∀i,i<k→InP (l.getD i default)) (fun k=>l.length-k) 0 ⟨Nat.zero_le _,by first|rfl|assumption|simp⟩ ⟨by first|rfl|simp [Dl,ren2,ren1,ren0],trivial⟩ F3 trivial Dh Aa (fun k hk=>?_)
 obtain ⟨hk,he⟩:=hk
 conv=>whnf
 conv=>whnf
 refine G5 (fun h3=>?_) fun h3=>?_<;>conv=>whnf
 ·have h3:k<l.length:=by omega
  (repeat refine Ar ?_)
  refine Aw (A19 (l.getD k default)) rfl (Al ?_)
  repeat refine Bi ?_
  refine ⟨fun h4=>?_,fun h4=>?_⟩<;>conv=>whnf
  ·have h4:F9 (l.getD k default)=false:=by simpa using h4
   repeat refine Bi ?_
   rw [R3 (fun p=>absurd (p.2.2 _ (Aq h3)).1 (of_decide_eq_false h4))]
   refine Ao A0 rfl rfl ?_
   exact Ca
  have h4:Ja (l.getD k default):=of_decide_eq_true (show F9 (l.getD k default)=true by simpa using h4)
  repeat refine Bi ?_
  (repeat refine Ar ?_)
  refine ⟨fun h5=>have h5:=bne_iff_ne.1 h5;?_,fun h5=>have h5:=bne_eq_false_iff_eq.1 h5;?_⟩<;>conv=>whnf
  ·have h5:(l.getD k default).op≠0:=h5
   repeat refine Bi ?_
   rw [R3 (fun p=>h5 (p.2.2 _ (Aq h3)).2.1)]
   refine Ao A0 rfl rfl ?_
   exact Ca
  have h5:(l.getD k default).op=0:=h5
  repeat refine Bi ?_
  (repeat refine Ar ?_)
  refine ⟨fun h6=>have h6:=bne_iff_ne.1 h6;?_,fun h6=>have h6:=bne_eq_false_iff_eq.1 h6;?_⟩<;>conv=>whnf
  ·have h6:(l.getD k default).stamp.turn≠0:=h6
   repeat refine Bi ?_
   rw [R3 (fun p=>h6 (p.2.2 _ (Aq h3)).2.2)]
   refine Ao A0 rfl rfl ?_
   exact Ca
  have h6:(l.getD k default).stamp.turn=0:=h6
  repeat refine Bi ?_
  (repeat refine Ar ?_)
  refine B5 [] (k+1) ⟨by omega,fun i hi=>(Nat.lt_succ_iff_lt_or_eq.1 hi).elim (fun h7=>he i h7) (fun h7=>by subst h7;exact ⟨h4,h5,h6⟩)⟩ Ac ⟨rfl,trivial⟩ trivial F3 Aa Dh Aa
 have hN:K6 g l:=⟨h1,h2,fun r hr=>by
  obtain ⟨i,hi,rfl⟩:=List.getElem_of_mem hr
  have:=he i Ac
  rw [show l.getD i default=l[i] by simp [List.getD,hi]] at this
  exact this⟩
 rw [Ul hN]
 refine B7t 3 ?_
 refine B77 A0 false (J:=Unit) [49,50,51,52] (fun _=>[(7,.box 2 0)]) (fun _=>[⟨2,[.own 3,.c (vi g.workers),.c (vi g.cap),.c (.val (.slice none 0 0)),.c (.val (.slice none 0 0)),.own 4,.c (.val (.slice none 0 0))]⟩,⟨0,[.c (Bp g.nodes),.c (vi g.workers),.c (vi g.cap)]⟩,⟨1,[.c (.val (.slice none 0 0)),.c (vi 0),.c (vi 0),.c (.val (.slice none 0 0)),.c (.val (.slice none 0 0)),.c (.val (.slice none 0 0)),.c (.val (.slice none 0 0))]⟩]) (fun _=>[⟨3,Bp g.nodes⟩,⟨4,C0 (List.replicate 4 default)⟩]) (fun _=>True) ?_ (fun _ _=>?_)
 ·conv=>whnf
  refine A8a rfl ?_
  refine Aj [0,2,4] Aa ⟨?_,?_,?_,trivial⟩
  focus
   refine go A0 false ?_
   conv=>whnf
   refine Ak ?_
   refine Aj [1,2,4] Aa ⟨?_,?_,?_,trivial⟩
   focus
    refine go A0 false ?_
    conv=>whnf
    refine B4 (A2k g hg) rfl (Al ?_)
    refine Ak ?_
    refine Aj [2,4] Aa ⟨?_,?_,trivial⟩
    focus
     refine go A0 false ?_
     conv=>whnf
     (repeat refine Ar ?_)
     refine Ak ?_
     refine Aj [3,4] Aa ⟨?_,?_,trivial⟩
     focus
      refine go A0 false ?_
      conv=>whnf
      refine Ak ?_
      refine Aj [4] Aa ⟨?_,trivial⟩
      refine go A0 false ?_
      conv=>whnf
      refine Ak ?_
      refine Aj [5] Aa ⟨?_,trivial⟩
      refine go A0 false ?_
      conv=>whnf
      refine Ak ?_
      refine Ed Aa (Al ?_)
     rotate_left 1
     focus
      refine go A0 false ?_
      conv=>whnf
      refine Ak ?_
      refine Aj [3] Aa ⟨?_,trivial⟩
      refine go A0 false ?_
      conv=>whnf
      refine Ak ?_
      refine Aj [5] Aa ⟨?_,trivial⟩
      refine go A0 false ?_
      conv=>whnf
      refine Ak ?_
      refine Ed Aa (Al ?_)
    rotate_left 2
    focus
     refine go A0 false ?_
     conv=>whnf
     refine Ak ?_
     refine Aj [2] Aa ⟨?_,trivial⟩
     refine go A0 false ?_
     conv=>whnf
     (repeat refine Ar ?_)
     refine Ak ?_
     refine Aj [3] Aa ⟨?_,trivial⟩
     refine go A0 false ?_
     conv=>whnf
     refine Ak ?_
     refine Aj [5] Aa ⟨?_,trivial⟩
     refine go A0 false ?_
     conv=>whnf
     refine Ak ?_
     refine Ed Aa (Al ?_)
   rotate_left 3
   focus
    refine go A0 false ?_
    conv=>whnf
    (repeat refine Ar ?_)
    refine Ak ?_
    refine Aj [1,4] Aa ⟨?_,?_,trivial⟩
    focus
     refine go A0 false ?_
     conv=>whnf
     refine B4 (A2k g hg) rfl (Al ?_)
     refine Ak ?_
     refine Aj [3,4] Aa ⟨?_,?_,trivial⟩
     focus
      refine go A0 false ?_
      conv=>whnf
      refine Ak ?_
      refine Aj [4] Aa ⟨?_,trivial⟩
      refine go A0 false ?_
      conv=>whnf
      refine Ak ?_
      refine Aj [5] Aa ⟨?_,trivial⟩
      refine go A0 false ?_
      conv=>whnf
      refine Ak ?_
      refine Ed Aa (Al ?_)
     rotate_left 1
     focus
      refine go A0 false ?_
      conv=>whnf
      refine Ak ?_
      refine Aj [3] Aa ⟨?_,trivial⟩
      refine go A0 false ?_
      conv=>whnf
      refine Ak ?_
      refine Aj [5] Aa ⟨?_,trivial⟩
      refine go A0 false ?_
      conv=>whnf
      refine Ak ?_
      refine Ed Aa (Al ?_)
    rotate_left 2
    focus
     refine go A0 false ?_
     conv=>whnf
     refine Ak ?_
     refine Aj [1] Aa ⟨?_,trivial⟩
     refine go A0 false ?_
     conv=>whnf
     refine B4 (A2k g hg) rfl (Al ?_)
     refine Ak ?_
     refine Aj [3] Aa ⟨?_,trivial⟩
     refine go A0 false ?_
     conv=>whnf
     refine Ak ?_
     refine Aj [5] Aa ⟨?_,trivial⟩
     refine go A0 false ?_
     conv=>whnf
     refine Ak ?_
     refine Ed Aa (Al ?_)
   rotate_left 3
   focus
    refine go A0 false ?_
    conv=>whnf
    refine Ak ?_
    refine Aj [1,2] Aa ⟨?_,?_,trivial⟩
    focus
     refine go A0 false ?_
     conv=>whnf
     refine B4 (A2k g hg) rfl (Al ?_)
     refine Ak ?_
     refine Aj [2] Aa ⟨?_,trivial⟩
     refine go A0 false ?_
     conv=>whnf
     (repeat refine Ar ?_)
     refine Ak ?_
     refine Aj [3] Aa ⟨?_,trivial⟩
     refine go A0 false ?_
     conv=>whnf
     refine Ak ?_
     refine Aj [5] Aa ⟨?_,trivial⟩
     refine go A0 false ?_
     conv=>whnf
     refine Ak ?_
     refine Ed Aa (Al ?_)
    rotate_left 1
    focus
     refine go A0 false ?_
     conv=>whnf
     (repeat refine Ar ?_)
     refine Ak ?_
     refine Aj [1] Aa ⟨?_,trivial⟩
     refine go A0 false ?_
     conv=>whnf
     refine B4 (A2k g hg) rfl (Al ?_)
     refine Ak ?_
     refine Aj [3] Aa ⟨?_,trivial⟩
     refine go A0 false ?_
     conv=>whnf
     refine Ak ?_
     refine Aj [5] Aa ⟨?_,trivial⟩
     refine go A0 false ?_
     conv=>whnf
     refine Ak ?_
     refine Ed Aa (Al ?_)
  rotate_left 8
  focus
   refine go A0 false ?_
   conv=>whnf
   (repeat refine Ar ?_)
   refine Ak ?_
   refine Aj [0,4] Aa ⟨?_,?_,trivial⟩
   focus
    refine go A0 false ?_
    conv=>whnf
    refine Ak ?_
    refine Aj [1,4] Aa ⟨?_,?_,trivial⟩
    focus
     refine go A0 false ?_
     conv=>whnf
     refine B4 (A2k g hg) rfl (Al ?_)
     refine Ak ?_
     refine Aj [3,4] Aa ⟨?_,?_,trivial⟩
     focus
      refine go A0 false ?_
      conv=>whnf
      refine Ak ?_
      refine Aj [4] Aa ⟨?_,trivial⟩
      refine go A0 false ?_
      conv=>whnf
      refine Ak ?_
      refine Aj [5] Aa ⟨?_,trivial⟩
      refine go A0 false ?_
      conv=>whnf
      refine Ak ?_
      refine Ed Aa (Al ?_)
     rotate_left 1
     focus
      refine go A0 false ?_
      conv=>whnf
      refine Ak ?_
      refine Aj [3] Aa ⟨?_,trivial⟩
      refine go A0 false ?_
      conv=>whnf
      refine Ak ?_
      refine Aj [5] Aa ⟨?_,trivial⟩
      refine go A0 false ?_
      conv=>whnf
      refine Ak ?_
      refine Ed Aa (Al ?_)
    rotate_left 2
    focus
     refine go A0 false ?_
     conv=>whnf
     refine Ak ?_
     refine Aj [1] Aa ⟨?_,trivial⟩
     refine go A0 false ?_
     conv=>whnf
     refine B4 (A2k g hg) rfl (Al ?_)
     refine Ak ?_
     refine Aj [3] Aa ⟨?_,trivial⟩
     refine go A0 false ?_
     conv=>whnf
     refine Ak ?_
     refine Aj [5] Aa ⟨?_,trivial⟩
     refine go A0 false ?_
     conv=>whnf
     refine Ak ?_
     refine Ed Aa (Al ?_)
   rotate_left 3
   focus
    refine go A0 false ?_
    conv=>whnf
    refine Ak ?_
    refine Aj [0] Aa ⟨?_,trivial⟩
    refine go A0 false ?_
    conv=>whnf
    refine Ak ?_
    refine Aj [1] Aa ⟨?_,trivial⟩
    refine go A0 false ?_
    conv=>whnf
    refine B4 (A2k g hg) rfl (Al ?_)
    refine Ak ?_
    refine Aj [3] Aa ⟨?_,trivial⟩
    refine go A0 false ?_
    conv=>whnf
    refine Ak ?_
    refine Aj [5] Aa ⟨?_,trivial⟩
    refine go A0 false ?_
    conv=>whnf
    refine Ak ?_
    refine Ed Aa (Al ?_)
  rotate_left 4
  focus
   refine go A0 false ?_
   conv=>whnf
   refine Ak ?_
   refine Aj [0,2] Aa ⟨?_,?_,trivial⟩
   focus
    refine go A0 false ?_
    conv=>whnf
    refine Ak ?_
    refine Aj [1,2] Aa ⟨?_,?_,trivial⟩
    focus
     refine go A0 false ?_
     conv=>whnf
     refine B4 (A2k g hg) rfl (Al ?_)
     refine Ak ?_
     refine Aj [2] Aa ⟨?_,trivial⟩
     refine go A0 false ?_
     conv=>whnf
     (repeat refine Ar ?_)
     refine Ak ?_
     refine Aj [3] Aa ⟨?_,trivial⟩
     refine go A0 false ?_
     conv=>whnf
     refine Ak ?_
     refine Aj [5] Aa ⟨?_,trivial⟩
     refine go A0 false ?_
     conv=>whnf
     refine Ak ?_
     refine Ed Aa (Al ?_)
    rotate_left 1
    focus
     refine go A0 false ?_
     conv=>whnf
     (repeat refine Ar ?_)
     refine Ak ?_
     refine Aj [1] Aa ⟨?_,trivial⟩
     refine go A0 false ?_
     conv=>whnf
     refine B4 (A2k g hg) rfl (Al ?_)
     refine Ak ?_
     refine Aj [3] Aa ⟨?_,trivial⟩
     refine go A0 false ?_
     conv=>whnf
     refine Ak ?_
     refine Aj [5] Aa ⟨?_,trivial⟩
     refine go A0 false ?_
     conv=>whnf
     refine Ak ?_
     refine Ed Aa (Al ?_)
   rotate_left 2
   focus
    refine go A0 false ?_
    conv=>whnf
    (repeat refine Ar ?_)
    refine Ak ?_
    refine Aj [0] Aa ⟨?_,trivial⟩
    refine go A0 false ?_
    conv=>whnf
    refine Ak ?_
    refine Aj [1] Aa ⟨?_,trivial⟩
    refine go A0 false ?_
    conv=>whnf
    refine B4 (A2k g hg) rfl (Al ?_)
    refine Ak ?_
    refine Aj [3] Aa ⟨?_,trivial⟩
    refine go A0 false ?_
    conv=>whnf
    refine Ak ?_
    refine Aj [5] Aa ⟨?_,trivial⟩
    refine go A0 false ?_
    conv=>whnf
    refine Ak ?_
    refine Ed Aa (Al ?_)
  all_goals first|exact B5 [(2,5),(3,6),(4,7)] (()) (trivial) (by exact Nat.zero_lt_one) ⟨rfl,trivial⟩ ⟨rfl,Kl,trivial⟩ F3 Aa Dh Aa|exact B5 [(2,5),(3,7),(4,6)] (()) (trivial) (by exact Nat.zero_lt_one) ⟨rfl,trivial⟩ ⟨rfl,Kl,trivial⟩ F3 Aa Dh Aa|exact B5 [(2,6),(3,5),(4,7)] (()) (trivial) (by exact Nat.zero_lt_one) ⟨rfl,trivial⟩ ⟨rfl,Kl,trivial⟩ F3 Aa Dh Aa|exact B5 [(2,6),(3,7),(4,5)] (()) (trivial) (by exact Nat.zero_lt_one) ⟨rfl,trivial⟩ ⟨rfl,Kl,trivial⟩ F3 Aa Dh Aa|exact B5 [(2,7),(3,5),(4,6)] (()) (trivial) (by exact Nat.zero_lt_one) ⟨rfl,trivial⟩ ⟨rfl,Kl,trivial⟩ F3 Aa Dh Aa|exact B5 [(2,7),(3,6),(4,5)] (()) (trivial) (by exact Nat.zero_lt_one) ⟨rfl,trivial⟩ ⟨rfl,Kl,trivial⟩ F3 Aa Dh Aa
 clear he
 refine B4g 2 3 8 (fun i=>Ab.c (([]:List Ab).getD i default)) rfl rfl ?_
 refine B4g 2 4 6 (fun i=>C2.c (([]:List C2).getD i default)) rfl rfl ?_
 refine G4 6 (Dt (List.replicate (0 * n) (Gv g.cap))) rfl (by rw [Nat.zero_mul];exact F8) ?_
 refine Bw A0 false [9,53,54,55,56,57,58,59,60,61,62,63,64,65,66,67,68,69,70,71,72,73,74,75,76,77,78,79,80,81,82,83] (fun k:Nat=>[(8,.c (vi k))]) (fun k=>[⟨2,[.own 3,.c (vi g.workers),.c (vi g.cap),.own 5,.own 6,.own 4,.c (.val (.slice none 0 0))]⟩,⟨0,[.c (Bp g.nodes),.c (vi g.workers),.c (vi g.cap)]⟩,⟨1,[.c (.val (.slice none 0 0)),.c (vi 0),.c (vi 0),.c (.val (.slice none 0 0)),.c (.val (.slice none 0 0)),.c (.val (.slice none 0 0)),.c (.val (.slice none 0 0))]⟩]) (fun k=>[⟨3,Bp g.nodes⟩,⟨4,C0 (List.replicate 4 default)⟩,⟨5,Be (E8 g.workers l k)⟩,⟨6,Dt (List.replicate (k * n) (Gv g.cap))⟩])
  (fun k=>k≤n) (fun k=>n-k) 0 (Nat.zero_le _) ⟨by first|rfl|simp [Dl,ren2,ren1,ren0],trivial⟩ F3 ⟨by first|rfl|exact (congrArg (fun l=>Du _ _ l) (List.append_nil _)).symm|(show (_:A8)=_;simp)|simp,by first|rfl|exact (congrArg (fun l=>Du _ _ l) (List.append_nil _)).symm|(show (_:A8)=_;simp)|simp,by first|rfl|exact (congrArg (fun l=>Du _ _ l) (List.append_nil _)).symm|(show (_:A8)=_;simp)|simp,by first|rfl|exact (congrArg (fun l=>Du _ _ l) (List.append_nil _)).symm|(show (_:A8)=_;simp)|simp,trivial⟩ Dh Aa (fun k hk=>?_)
 conv=>whnf
 conv=>whnf
 refine G5 (fun hlt=>?_) fun hlt=>?_<;>conv=>whnf
 ·have hlt:k<n:=by omega
  have hkl:=A35 g.workers l k
  have hol:=Wx g.workers l k 4
  first|(refine B9 8 rfl [0,1,2,3,4,5] Aa (Al ?_))|(refine B9 12 rfl [0,1,2,3,4,5,6,7,8,9,10] Aa (Al ?_))|(refine B9 16 rfl [0,1,2,3,4,5,6,7,8] Aa (Al ?_))
  refine B4 (C5m g l k h2 Ac) rfl (Al ?_)
  refine B4 (C1i (P6 g.workers l k 4) Ac) rfl (Al ?_)
  refine Qp A0 rfl rfl rfl rfl rfl rfl rfl rfl rfl (Al ?_)
  refine Dp A0 rfl rfl rfl rfl rfl rfl rfl rfl rfl rfl rfl (Be (E8 g.workers l k++[Mr (P6 g.workers l k 4)])) (Bf rfl) M1 Ac (Al ?_)
  rw [←Zb]
  refine Bw A0 false [69,70,71,72,73,74,75,76,77,78,79,80,81,82] (fun j:Nat=>[(9,.c (vi j))]) (fun j=>[⟨2,[.own 3,.c (vi g.workers),.c (vi g.cap),.own 17,.own 6,.own 4,.c (.val (.slice none 0 0))]⟩,⟨0,[.c (Bp g.nodes),.c (vi g.workers),.c (vi g.cap)]⟩,⟨1,[.c (.val (.slice none 0 0)),.c (vi 0),.c (vi 0),.c (.val (.slice none 0 0)),.c (.val (.slice none 0 0)),.c (.val (.slice none 0 0)),.c (.val (.slice none 0 0))]⟩]) (fun j=>[⟨3,Bp g.nodes⟩,⟨4,C0 (List.replicate 4 default)⟩,⟨17,Be (E8 g.workers l (k+1))⟩,⟨6,Dt (List.replicate (k * n+j) (Gv g.cap))⟩])
   (fun j=>j≤n) (fun j=>n-j) 0 (Nat.zero_le _) ⟨by first|rfl|simp [Dl,ren2,ren1,ren0],trivial⟩ F3 ⟨by first|rfl|exact (congrArg (fun l=>Du _ _ l) (List.append_nil _)).symm|(show (_:A8)=_;simp)|simp,by first|rfl|exact (congrArg (fun l=>Du _ _ l) (List.append_nil _)).symm|(show (_:A8)=_;simp)|simp,by first|rfl|exact (congrArg (fun l=>Du _ _ l) (List.append_nil _)).symm|(show (_:A8)=_;simp)|simp,by first|rfl|exact (congrArg (fun l=>Du _ _ l) (List.append_nil _)).symm|(show (_:A8)=_;simp)|simp,trivial⟩ Dh Aa (fun j hj=>?_)
  conv=>whnf
  conv=>whnf
  refine G5 (fun hlt2=>?_) fun hlt2=>?_<;>conv=>whnf
  ·have hlt2:j<n:=by omega
   have hkn:k * n≤16:=Nat.le_trans (Nat.mul_le_mul (show k≤4 by omega) (show n≤4 by omega)) Bu
   first|(refine B9 8 rfl [0,1,2,3,4,5] Aa (Al ?_))|(refine B9 12 rfl [0,1,2,3,4,5,6,7,8,9,10] Aa (Al ?_))|(refine B9 16 rfl [0,1,2,3,4,5,6,7,8] Aa (Al ?_))
   refine B4 (C12 g.cap) rfl (Al ?_)
   refine Qp A0 rfl rfl rfl rfl rfl rfl rfl rfl rfl (Al ?_)
   refine Dp A0 rfl rfl rfl rfl rfl rfl rfl rfl rfl rfl rfl (Dt (List.replicate (k * n+j) (Gv g.cap)++[Gv g.cap])) (Bf rfl) M1 (by (rw [List.length_replicate];omega)) (Al ?_)
   (repeat refine Ar ?_)
   refine B5 [(6,20)] (j+1) Ac Ac ⟨rfl,trivial⟩ ⟨rfl,rfl,rfl,congrArg Dt (by rw [show k * n+(j+1)=(k * n+j)+1 by omega,List.replicate_succ']),trivial⟩ F3 Aa Dh Aa
  ·obtain rfl:j=n:=by omega
   (repeat refine Ar ?_)
   refine B5 [(5,17)] (k+1) Ac Ac ⟨rfl,trivial⟩ ⟨rfl,rfl,rfl,congrArg (fun m=>Dt (List.replicate m (Gv g.cap))) (by rw [Nat.succ_mul]),trivial⟩ F3 Aa Dh Aa
 ·obtain rfl:k=n:=by omega
  rw [show g.workers.toNat=k by omega]
  (repeat refine Ar ?_)
  refine Ao A0 rfl rfl ?_
  exact Ca
end Go.Proofs.YtonodkjaoalfjaaGreat
