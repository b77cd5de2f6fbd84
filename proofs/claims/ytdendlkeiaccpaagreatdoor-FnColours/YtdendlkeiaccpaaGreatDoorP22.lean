/- Part 22 of the proof that each of the laws FnColours returns true for every input. No conditions. -/
import Derived.Test.YtdendlkeiaccpaaGreatDoorP19
import Derived.Test.YtdendlkeiaccpaaGreatDoorP20
import Derived.Test.YtdendlkeiaccpaaGreatDoorP21
import Derived.Test.YtdendlkeiaccpaaGreatDoorP17
import Derived.Test.YtdendlkeiaccpaaGreatDoorP6
import Derived.Test.YtdendlkeiaccpaaGreatDoorP15
import Derived.Test.YtdendlkeiaccpaaGreatDoorP9
import Derived.Test.YtdendlkeiaccpaaGreatDoorP12
import Derived.Test.YtdendlkeiaccpaaGreatDoorP10
import Derived.Test.YtdendlkeiaccpaaGreatDoorP13

set_option linter.unusedSimpArgs false
set_option linter.unusedVariables false
set_option maxRecDepth 100000
namespace Go.Proofs.YtdendlkeiaccpaaGreatDoor
open Go.Sx
theorem Uf (n:Int):Be Tryz.prog 112 [.one (vi n)] [.agg (Gc n).c]:=by
 refine B5 A0 false Tryz.func112 rfl Az fun W=>?_
 conv=>whnf
 refine At (M5 n 1 4) rfl (A8 ?_)
 refine Ap A0 rfl rfl ?_
 exact B1
theorem W9 {α:Type} [Inhabited α] (x:α)(n i:Nat)(h:x=default):(List.replicate n x).getD i default=x:=by
 simp only [List.getD,List.getElem?_replicate]
 split
 ·rfl
 exact h.symm
theorem B56:(Af.sl 4 1 fun _=>[.val (.int .i64 0)])=Au (List.replicate 4 0):=congrArg (Af.sl 4 1) (funext fun i=>by rw [W9 (0:Int) 4 i rfl])
theorem A3w:(Af.sl 4 1 fun _=>[.val (.bool false)])=Dq (List.replicate 4 false):=congrArg (Af.sl 4 1) (funext fun i=>by rw [W9 false 4 i rfl])
theorem L3:(Af.sl 4 5 fun _=>[.val (.bool false),.val (.int .i64 0),.val (.int .i64 0),.val (.bool false),.val (.bool false)])=Bo (List.replicate 4 default):=congrArg (Af.sl 4 5) (funext fun i=>by rw [W9 (default:Cu) 4 i rfl];rfl)
def Hz (xs:List Ae):Aa:=⟨[],[],xs,[],List.replicate 4 0,List.replicate 4 false,List.replicate 4 false,[]⟩
set_option maxHeartbeats 1600000 in
theorem Qe (xs:List Ae)(hx:xs.length≤16777216):Be Tryz.prog 110 [.one (Ag xs)] [.agg (Hz xs).c]:=by
 refine B5 A0 false Tryz.func110 rfl Az fun W=>?_
 conv=>whnf
 refine Fx rfl ?_
 repeat' (first
   |(first|refine Ao A0 false 1 rfl rfl rfl (by decide+kernel) rfl (A5 Bb) ?_|refine Ao A0 false 3 rfl rfl rfl (by decide+kernel) rfl (A5 Bb) ?_|refine Ao A0 false 5 rfl rfl rfl (by decide+kernel) rfl (A5 Bb) ?_|refine Ao A0 false 7 rfl rfl rfl (by decide+kernel) rfl (A5 Bb) ?_)
   |((first|refine A4 [0,4,6,8] (by decide+kernel) ⟨?_,?_,?_,?_,trivial⟩|refine A4 [2,4,6,8] (by decide+kernel) ⟨?_,?_,?_,?_,trivial⟩|refine A4 [4,6,8] (by decide+kernel) ⟨?_,?_,?_,trivial⟩|refine A4 [6,8] (by decide+kernel) ⟨?_,?_,trivial⟩|refine A4 [8] (by decide+kernel) ⟨?_,trivial⟩|refine A4 [9] (by decide+kernel) ⟨?_,trivial⟩|refine A4 [10] (by decide+kernel) ⟨?_,trivial⟩|refine A4 [6] (by decide+kernel) ⟨?_,trivial⟩|refine A4 [4,8] (by decide+kernel) ⟨?_,?_,trivial⟩|refine A4 [4] (by decide+kernel) ⟨?_,trivial⟩|refine A4 [4,6] (by decide+kernel) ⟨?_,?_,trivial⟩|refine A4 [2,6,8] (by decide+kernel) ⟨?_,?_,?_,trivial⟩|refine A4 [2,8] (by decide+kernel) ⟨?_,?_,trivial⟩|refine A4 [2] (by decide+kernel) ⟨?_,trivial⟩|refine A4 [2,6] (by decide+kernel) ⟨?_,?_,trivial⟩|refine A4 [2,4,8] (by decide+kernel) ⟨?_,?_,?_,trivial⟩|refine A4 [2,4] (by decide+kernel) ⟨?_,?_,trivial⟩|refine A4 [2,4,6] (by decide+kernel) ⟨?_,?_,?_,trivial⟩|refine A4 [0,6,8] (by decide+kernel) ⟨?_,?_,?_,trivial⟩|refine A4 [0,8] (by decide+kernel) ⟨?_,?_,trivial⟩|refine A4 [0] (by decide+kernel) ⟨?_,trivial⟩|refine A4 [0,6] (by decide+kernel) ⟨?_,?_,trivial⟩|refine A4 [0,4,8] (by decide+kernel) ⟨?_,?_,?_,trivial⟩|refine A4 [0,4] (by decide+kernel) ⟨?_,?_,trivial⟩|refine A4 [0,4,6] (by decide+kernel) ⟨?_,?_,?_,trivial⟩)<;>(refine go A0 false ?_;(conv=>whnf);(first|(refine B6 A0 rfl rfl rfl rfl rfl rfl rfl rfl rfl rfl rfl (Ag xs) (C1) (fun _=>F7 xs) Ac (I5 ?_);(conv=>whnf))|(repeat (refine Ex ?_;(conv=>whnf))));refine A6 ?_))
   |refine B2 (by decide+kernel) (O4.out ?_))
 all_goals
  refine O4.mk (A8 ?_)
 all_goals
  refine Ap A0 rfl rfl ⟨⟨.inr ⟨rfl,rfl,_,_,rfl⟩,.inr ⟨rfl,rfl,_,_,rfl⟩,?_,.inr ⟨rfl,rfl,_,_,rfl⟩,?_,?_,?_,.inr ⟨rfl,rfl,_,_,rfl⟩,trivial⟩,trivial⟩
  ·exact (rfl:Ag xs=Ag xs)
  ·exact B56
  ·exact A3w
  exact A3w
def O5 (n:Int) (l:List Ae) (w:Int) (k:Nat):List Ae:=(List.range k).flatMap fun (e:Nat)=>(Cp l e).filter fun r=>Ew r.key n==w
theorem Zk (n:Int)(l:List Ae)(w:Int)(k:Nat):O5 n l w (k+1)=O5 n l w k++(Cp l k).filter fun r=>Ew r.key n==w:=by
 rw [O5,List.range_succ,List.flatMap_append]
 simp [O5]
theorem Wv (n:Int)(l:List Ae)(w:Int)(k:Nat):(O5 n l w k).length≤k * l.length:=by
 induction k with
 |zero=>simp [O5]
 |succ k ih=>
  rw [Zk,List.length_append,Nat.succ_mul]
  have h1:=List.length_filter_le (fun r:Ae=>Ew r.key n==w) (Cp l k)
  have h2:=Le l k
  omega
def oP (n:Int) (w:Int) (e:Nat) (r:Ae):Bool:=(r.stamp.epoch==(e:Int))&&(Ew r.key n==w)
theorem A97 (n:Int)(l:List Ae)(w:Int)(e:Nat):l.filter (oP n w e)=(Cp l e).filter fun r=>Ew r.key n==w:=by
 show _=List.filter _ (List.filter _ l)
 rw [List.filter_filter]
 congr 1
 funext r
 rw [oP,Bool.and_comm]
set_option maxHeartbeats 1600000 in
theorem B65 (g:Aq)(l:List Ae)(w:Int)(hl:l.length≤20)(hg:g.workers≤4):Be Tryz.prog 111 [.agg g.c,.one (Ag l),.one (vi w)] [.one (Ag (O5 g.workers l w 4))]:=by
 refine B5 A0 false Tryz.func111 rfl Az fun W=>?_
 conv=>whnf
 refine Eo 1 (Ag []) rfl Du ?_
 refine C0 A0 false [9,10] (fun k:Nat=>[(8,.c (vi k))]) (fun k=>[⟨0,[.c (Bn g.nodes),.c (vi g.workers),.c (vi g.cap)]⟩]) (fun k=>[⟨1,Ag (O5 g.workers l w k)⟩])
  (fun k=>k≤4) (fun k=>4-k) 0 (Nat.zero_le _) ⟨G3,trivial⟩ Cg ⟨Ek,trivial⟩ Co A7 (fun k hk=>?_)
 conv=>whnf
 refine ⟨fun h=>?_,fun h=>?_⟩<;>conv=>whnf
 ·have h:k<4:=by have:=of_decide_eq_true h;omega
  have hk1:=Wv g.workers l w k
  have hk2:k * l.length≤80:=Nat.le_trans (Nat.mul_le_mul (show k≤4 by omega) hl) Az
  refine C0 A0 false [] (fun j:Nat=>[(9,.c (vi j))]) (fun j=>[⟨0,[.c (Bn g.nodes),.c (vi g.workers),.c (vi g.cap)]⟩]) (fun j=>[⟨1,Ag (O5 g.workers l w k++(l.take j).filter (oP g.workers w k))⟩])
   (fun j=>j≤l.length) (fun j=>l.length-j) 0 (Nat.zero_le _) ⟨G3,trivial⟩ Cg ⟨Ek,trivial⟩ Co A7 (fun j hj=>?_)
  conv=>whnf
  conv=>whnf
  refine F4 (fun h2=>?_) fun h2=>?_<;>conv=>whnf
  ·have h2:j<l.length:=by omega
   have hs:=Ho (oP g.workers w k) l j h2
   have hb:=Fa (oP g.workers w k) l j
   first|(refine Ax 8 rfl [0,1,2,3,4,5,6,7,8,9,10,11,12,13,14,15,17,16,18,19] A7 (A8 ?_))
   (repeat refine An ?_)
   refine ⟨fun h3=>?_,fun h3=>?_⟩<;>conv=>whnf
   ·rw [Int.toNat_natCast] at h3
    repeat refine Bd ?_
    (repeat refine An ?_)
    refine At (Ug (l.getD j default).key g.workers Ac) rfl (A8 ?_)
    repeat refine Bd ?_
    refine ⟨fun h4=>?_,fun h4=>?_⟩<;>conv=>whnf
    ·have h5:oP g.workers w k (l.getD j default)=true:=by rw [oP,h3,h4];rfl
     (repeat refine An ?_)
     refine B6 A0 rfl rfl rfl rfl rfl rfl rfl rfl rfl rfl rfl (Ag (O5 g.workers l w k++(l.take j).filter (oP g.workers w k)++[l.getD j default])) (Ad rfl) Bp (by (rw [List.length_append];omega)) (A8 ?_)
     (repeat refine An ?_)
     refine B8 [(1,3)] (j+1) Ac Ac ⟨rfl,trivial⟩ ⟨congrArg Ag (by rw [hs,if_pos h5,List.append_assoc]),trivial⟩ Cg A7 Co A7
    have h5:oP g.workers w k (l.getD j default)=false:=by rw [oP,h4,Bool.and_false]
    repeat refine Bd ?_
    refine B8 [] (j+1) Ac Ac ⟨rfl,trivial⟩ ⟨congrArg Ag (by rw [hs,if_neg (by rw [h5];decide),List.append_nil]),trivial⟩ Cg A7 Co A7
   rw [Int.toNat_natCast] at h3
   have h5:oP g.workers w k (l.getD j default)=false:=by rw [oP,h3,Bool.false_and]
   repeat refine Bd ?_
   refine B8 [] (j+1) Ac Ac ⟨rfl,trivial⟩ ⟨congrArg Ag (by rw [hs,if_neg (by rw [h5];decide),List.append_nil]),trivial⟩ Cg A7 Co A7
  (repeat refine An ?_)
  refine B8 [] (k+1) Ac Ac ⟨rfl,trivial⟩ ⟨congrArg Ag (by rw [Zk,←A97,List.take_of_length_le Ac]),trivial⟩ Cg A7 Co A7
 have h:¬ k<4:=by have:=of_decide_eq_false h;omega
 obtain rfl:k=4:=by omega
 refine Ap A0 rfl rfl ?_
 exact B1
def InP (r:Ae):Prop:=H2 r∧r.op=0∧r.stamp.turn=0
theorem Ov {g:Aq}{l:List Ae}(h:¬ Ob g l):B4 g l=(Pr,false):=if_neg h
theorem Jz {g:Aq}{l:List Ae}(h:Ob g l):B4 g l=(⟨g,E3 g.workers l g.workers.toNat,List.replicate (g.workers.toNat * g.workers.toNat) (Gc g.cap),List.replicate 4 default,[]⟩,true):=if_pos h
theorem Zb (n:Int)(l:List Ae)(k:Nat):E3 n l (k+1)=E3 n l k++[Hz (O5 n l k 4)]:=by
 rw [E3,List.range_succ,List.map_append]
 rfl
theorem Wm (n:Int)(l:List Ae)(k:Nat):(E3 n l k).length=k:=by rw [E3,List.length_map,List.length_range]
set_option maxHeartbeats 8000000 in
theorem Xi (g:Aq)(l:List Ae)(hg:g.w≤16777216)(hl:l.length≤16777216):Be Tryz.prog 79 [.agg g.c,.one (Ag l)] [.agg (B4 g l).1.c,.one (vb (B4 g l).2)]:=by
 refine B5 A0 false Tryz.func79 rfl Az fun W=>?_
 conv=>whnf
 refine At (Iz g Ac) rfl (A8 ?_)
 refine ⟨fun h1=>?_,fun h1=>?_⟩<;>conv=>whnf
 ·have h1:Hi g=false:=by simpa using h1
  repeat refine Bd ?_
  rw [Ov (fun p=>absurd p.1 (of_decide_eq_false h1))]
  refine Ap A0 rfl rfl ?_
  exact B1
 have h1:Ft g:=of_decide_eq_true (show Hi g=true by simpa using h1)
 repeat refine Bd ?_
 refine ⟨fun h2=>?_,fun h2=>?_⟩<;>conv=>whnf
 ·have h2:¬ l.length≤20:=by have:=of_decide_eq_true h2;omega
  repeat refine Bd ?_
  rw [Ov (fun p=>h2 p.2.1)]
  refine Ap A0 rfl rfl ?_
  exact B1
 have h2:l.length≤20:=by have:=of_decide_eq_false h2;omega
 repeat refine Bd ?_
 have hwk:=h1.2.1
 obtain ⟨n,hn⟩:∃n:Nat,g.workers=n:=⟨g.workers.toNat,by omega⟩
 refine C0 A0 false [] (fun k:Nat=>[(6,.c (vi k))]) (fun k=>[⟨0,[.c (Bn g.nodes),.c (vi g.workers),.c (vi g.cap)]⟩,⟨1,[.c (.val (.slice none 0 0)),.c (vi 0),.c (vi 0),.c (.val (.slice none 0 0)),.c (.val (.slice none 0 0)),.c (.val (.slice none 0 0)),.c (.val (.slice none 0 0))]⟩]) (fun k=>[])
  (fun k=>k≤l.length∧∀i,i<k→InP (l.getD i default)) (fun k=>l.length-k) 0 ⟨Nat.zero_le _,by first|rfl|assumption|simp⟩ ⟨G3,trivial⟩ Cg trivial Co A7 (fun k hk=>?_)
 obtain ⟨hk,he⟩:=hk
 conv=>whnf
 conv=>whnf
 refine F4 (fun h3=>?_) fun h3=>?_<;>conv=>whnf
 ·have h3:k<l.length:=by omega
  (repeat refine An ?_)
  refine At (Hx (l.getD k default)) rfl (A8 ?_)
  repeat refine Bd ?_
  refine ⟨fun h4=>?_,fun h4=>?_⟩<;>conv=>whnf
  ·have h4:Ib (l.getD k default)=false:=by simpa using h4
   repeat refine Bd ?_
   rw [Ov (fun p=>absurd (p.2.2 _ (Ay h3)).1 (of_decide_eq_false h4))]
   refine Ap A0 rfl rfl ?_
   exact B1
  have h4:H2 (l.getD k default):=of_decide_eq_true (show Ib (l.getD k default)=true by simpa using h4)
  repeat refine Bd ?_
  (repeat refine An ?_)
  refine ⟨fun h5=>have h5:=bne_iff_ne.1 h5;?_,fun h5=>have h5:=bne_eq_false_iff_eq.1 h5;?_⟩<;>conv=>whnf
  ·have h5:(l.getD k default).op≠0:=h5
   repeat refine Bd ?_
   rw [Ov (fun p=>h5 (p.2.2 _ (Ay h3)).2.1)]
   refine Ap A0 rfl rfl ?_
   exact B1
  have h5:(l.getD k default).op=0:=h5
  repeat refine Bd ?_
  (repeat refine An ?_)
  refine ⟨fun h6=>have h6:=bne_iff_ne.1 h6;?_,fun h6=>have h6:=bne_eq_false_iff_eq.1 h6;?_⟩<;>conv=>whnf
  ·have h6:(l.getD k default).stamp.turn≠0:=h6
   repeat refine Bd ?_
   rw [Ov (fun p=>h6 (p.2.2 _ (Ay h3)).2.2)]
   refine Ap A0 rfl rfl ?_
   exact B1
  have h6:(l.getD k default).stamp.turn=0:=h6
  repeat refine Bd ?_
  (repeat refine An ?_)
  refine B8 [] (k+1) ⟨by omega,fun i hi=>(Nat.lt_succ_iff_lt_or_eq.1 hi).elim (fun h7=>he i h7) (fun h7=>by subst h7;exact ⟨h4,h5,h6⟩)⟩ Ac ⟨rfl,trivial⟩ trivial Cg A7 Co A7
 have hN:Ob g l:=⟨h1,h2,fun r hr=>by
  obtain ⟨i,hi,rfl⟩:=List.getElem_of_mem hr
  have:=he i Ac
  rw [show l.getD i default=l[i] by simp [List.getD,hi]] at this
  exact this⟩
 rw [Jz hN]
 refine B1y 3 ?_
 refine B7u A0 false (J:=Unit) [49,50,51,52] (fun _=>[(7,.box 2 0)]) (fun _=>[⟨2,[.own 3,.c (vi g.workers),.c (vi g.cap),.c (.val (.slice none 0 0)),.c (.val (.slice none 0 0)),.own 4,.c (.val (.slice none 0 0))]⟩,⟨0,[.c (Bn g.nodes),.c (vi g.workers),.c (vi g.cap)]⟩,⟨1,[.c (.val (.slice none 0 0)),.c (vi 0),.c (vi 0),.c (.val (.slice none 0 0)),.c (.val (.slice none 0 0)),.c (.val (.slice none 0 0)),.c (.val (.slice none 0 0))]⟩]) (fun _=>[⟨3,Bn g.nodes⟩,⟨4,Bo (List.replicate 4 default)⟩]) (fun _=>True) ?_ (fun _ _=>?_)
 ·conv=>whnf
  refine Fx rfl ?_
  repeat' (first
    |((first|refine A4 [0,2,4] (by decide+kernel) ⟨?_,?_,?_,trivial⟩|refine A4 [1,2,4] (by decide+kernel) ⟨?_,?_,?_,trivial⟩|refine A4 [2,4] (by decide+kernel) ⟨?_,?_,trivial⟩|refine A4 [3,4] (by decide+kernel) ⟨?_,?_,trivial⟩|refine A4 [4] (by decide+kernel) ⟨?_,trivial⟩|refine A4 [5] (by decide+kernel) ⟨?_,trivial⟩|refine A4 [3] (by decide+kernel) ⟨?_,trivial⟩|refine A4 [2] (by decide+kernel) ⟨?_,trivial⟩|refine A4 [1,4] (by decide+kernel) ⟨?_,?_,trivial⟩|refine A4 [1] (by decide+kernel) ⟨?_,trivial⟩|refine A4 [1,2] (by decide+kernel) ⟨?_,?_,trivial⟩|refine A4 [0,4] (by decide+kernel) ⟨?_,?_,trivial⟩|refine A4 [0] (by decide+kernel) ⟨?_,trivial⟩|refine A4 [0,2] (by decide+kernel) ⟨?_,?_,trivial⟩)<;>(refine go A0 false ?_;(conv=>whnf);(first|(refine Cn (Me g hg) rfl (I5 ?_);(conv=>whnf))|(repeat (refine Ex ?_;(conv=>whnf))));refine A6 ?_))
    |refine B2 (by decide+kernel) (O4.out ?_))
  all_goals
   refine O4.mk (A8 ?_)
  all_goals first|exact B8 [(2,5),(3,6),(4,7)] (()) (trivial) Px ⟨rfl,trivial⟩ ⟨rfl,L3,trivial⟩ Cg A7 Co A7|exact B8 [(2,5),(3,7),(4,6)] (()) (trivial) Px ⟨rfl,trivial⟩ ⟨rfl,L3,trivial⟩ Cg A7 Co A7|exact B8 [(2,6),(3,5),(4,7)] (()) (trivial) Px ⟨rfl,trivial⟩ ⟨rfl,L3,trivial⟩ Cg A7 Co A7|exact B8 [(2,6),(3,7),(4,5)] (()) (trivial) Px ⟨rfl,trivial⟩ ⟨rfl,L3,trivial⟩ Cg A7 Co A7|exact B8 [(2,7),(3,5),(4,6)] (()) (trivial) Px ⟨rfl,trivial⟩ ⟨rfl,L3,trivial⟩ Cg A7 Co A7|exact B8 [(2,7),(3,6),(4,5)] (()) (trivial) Px ⟨rfl,trivial⟩ ⟨rfl,L3,trivial⟩ Cg A7 Co A7
 clear he
 refine Wn 2 3 8 (fun i=>Aa.c (([]:List Aa).getD i default)) rfl rfl ?_
 refine Wn 2 4 6 (fun i=>Bz.c (([]:List Bz).getD i default)) rfl rfl ?_
 refine Eo 6 (Cf (List.replicate (0 * n) (Gc g.cap))) rfl (by rw [Nat.zero_mul];exact Du) ?_
 refine C0 A0 false [9,53,54,55,56,57,58,59,60,61,62,63,64,65,66,67,68,69,70,71,72,73,74,75,76,77,78,79,80,81,82,83] (fun k:Nat=>[(8,.c (vi k))]) (fun k=>[⟨2,[.own 3,.c (vi g.workers),.c (vi g.cap),.own 5,.own 6,.own 4,.c (.val (.slice none 0 0))]⟩,⟨0,[.c (Bn g.nodes),.c (vi g.workers),.c (vi g.cap)]⟩,⟨1,[.c (.val (.slice none 0 0)),.c (vi 0),.c (vi 0),.c (.val (.slice none 0 0)),.c (.val (.slice none 0 0)),.c (.val (.slice none 0 0)),.c (.val (.slice none 0 0))]⟩]) (fun k=>[⟨3,Bn g.nodes⟩,⟨4,Bo (List.replicate 4 default)⟩,⟨5,Al (E3 g.workers l k)⟩,⟨6,Cf (List.replicate (k * n) (Gc g.cap))⟩])
  (fun k=>k≤n) (fun k=>n-k) 0 (Nat.zero_le _) ⟨G3,trivial⟩ Cg ⟨Ek,Ek,Ek,Ek,trivial⟩ Co A7 (fun k hk=>?_)
 conv=>whnf
 conv=>whnf
 refine F4 (fun hlt=>?_) fun hlt=>?_<;>conv=>whnf
 ·have hlt:k<n:=by omega
  have hkl:=Wm g.workers l k
  have hol:=Wv g.workers l k 4
  first|(refine Ax 8 rfl [0,1,2,3,4,5] A7 (A8 ?_))|(refine Ax 12 rfl [0,1,2,3,4,5,6,7,8,9,10] A7 (A8 ?_))|(refine Ax 16 rfl [0,1,2,3,4,5,6,7,8] A7 (A8 ?_))
  refine Cn (B65 g l k h2 Ac) rfl (A8 ?_)
  refine Cn (Qe (O5 g.workers l k 4) Ac) rfl (A8 ?_)
  refine Jp A0 rfl rfl rfl rfl rfl rfl rfl rfl rfl (A8 ?_)
  refine B6 A0 rfl rfl rfl rfl rfl rfl rfl rfl rfl rfl rfl (Al (E3 g.workers l k++[Hz (O5 g.workers l k 4)])) (Ad rfl) Bp Ac (A8 ?_)
  rw [←Zb]
  refine C0 A0 false [69,70,71,72,73,74,75,76,77,78,79,80,81,82] (fun j:Nat=>[(9,.c (vi j))]) (fun j=>[⟨2,[.own 3,.c (vi g.workers),.c (vi g.cap),.own 17,.own 6,.own 4,.c (.val (.slice none 0 0))]⟩,⟨0,[.c (Bn g.nodes),.c (vi g.workers),.c (vi g.cap)]⟩,⟨1,[.c (.val (.slice none 0 0)),.c (vi 0),.c (vi 0),.c (.val (.slice none 0 0)),.c (.val (.slice none 0 0)),.c (.val (.slice none 0 0)),.c (.val (.slice none 0 0))]⟩]) (fun j=>[⟨3,Bn g.nodes⟩,⟨4,Bo (List.replicate 4 default)⟩,⟨17,Al (E3 g.workers l (k+1))⟩,⟨6,Cf (List.replicate (k * n+j) (Gc g.cap))⟩])
   (fun j=>j≤n) (fun j=>n-j) 0 (Nat.zero_le _) ⟨G3,trivial⟩ Cg ⟨Ek,Ek,Ek,Ek,trivial⟩ Co A7 (fun j hj=>?_)
  conv=>whnf
  conv=>whnf
  refine F4 (fun hlt2=>?_) fun hlt2=>?_<;>conv=>whnf
  ·have hlt2:j<n:=by omega
   have hkn:k * n≤16:=Nat.le_trans (Nat.mul_le_mul (show k≤4 by omega) (show n≤4 by omega)) Az
   first|(refine Ax 8 rfl [0,1,2,3,4,5] A7 (A8 ?_))|(refine Ax 12 rfl [0,1,2,3,4,5,6,7,8,9,10] A7 (A8 ?_))|(refine Ax 16 rfl [0,1,2,3,4,5,6,7,8] A7 (A8 ?_))
   refine Cn (Uf g.cap) rfl (A8 ?_)
   refine Jp A0 rfl rfl rfl rfl rfl rfl rfl rfl rfl (A8 ?_)
   refine B6 A0 rfl rfl rfl rfl rfl rfl rfl rfl rfl rfl rfl (Cf (List.replicate (k * n+j) (Gc g.cap)++[Gc g.cap])) (Ad rfl) Bp (by (rw [List.length_replicate];omega)) (A8 ?_)
   (repeat refine An ?_)
   refine B8 [(6,20)] (j+1) Ac Ac ⟨rfl,trivial⟩ ⟨rfl,rfl,rfl,congrArg Cf (by rw [show k * n+(j+1)=(k * n+j)+1 by omega,List.replicate_succ']),trivial⟩ Cg A7 Co A7
  obtain rfl:j=n:=by omega
  (repeat refine An ?_)
  refine B8 [(5,17)] (k+1) Ac Ac ⟨rfl,trivial⟩ ⟨rfl,rfl,rfl,congrArg (fun m=>Cf (List.replicate m (Gc g.cap))) (by rw [Nat.succ_mul]),trivial⟩ Cg A7 Co A7
 obtain rfl:k=n:=by omega
 rw [show g.workers.toNat=k by omega]
 (repeat refine An ?_)
 refine Ap A0 rfl rfl ?_
 exact B1
theorem A49 (xs:List Ae):(Hz xs).w=xs.length+12:=by simp [Aa.w,Hz]
theorem B59 {n:Int}{l:List Ae}{k:Nat}(hl:l.length≤20):((E3 n l k).map Aa.w).sum≤k * 92:=by
 induction k with
 |zero=>simp [E3]
 |succ k ih=>
  rw [Zb,List.map_append,List.sum_append]
  have h1:=Wv n l k 4
  simp only [List.map_cons,List.map_nil,List.sum_cons,List.sum_nil,A49]
  omega
theorem B77 (m:Nat)(n:Int):((List.replicate m (Gc n)).map Bz.w).sum=0:=by
 induction m with
 |zero=>rfl
 |succ m ih=>
  rw [List.replicate_succ,List.map_cons,List.sum_cons,ih]
  rfl
theorem B7h {g:Aq}{l:List Ae}:(B4 g l).1.w≤g.w+2000:=by
 by_cases h:Ob g l
 ·have hw:=h.1.2.1
  obtain ⟨n,hn⟩:∃n:Nat,g.workers=n:=⟨g.workers.toNat,by omega⟩
  have h1:=B59 (n:=g.workers) (l:=l) (k:=g.workers.toNat) h.2.1
  have h2:=B77 (g.workers.toNat * g.workers.toNat) g.cap
  have h3:=Wm g.workers l g.workers.toNat
  have h4:g.workers.toNat * g.workers.toNat≤16:=Nat.mul_le_mul (show g.workers.toNat≤4 by omega) (show g.workers.toNat≤4 by omega)
  rw [Jz h]
  simp only [A3.w,wS,List.length_replicate,List.length_nil]
  rw [h2,h3]
  have h5:g.workers.toNat≤4:=by omega
  omega
 rw [Ov h]
 show Pr.w≤_
 have:Pr.w=0:=rfl
 omega
theorem B6a {g:Aq}{l:List Ae}:M6 (B4 g l).1:=by
 by_cases h:Ob g l
 ·rw [Jz h]
  intro k hk
  have:=List.eq_of_mem_replicate hk
  rw [this]
  show (0:Int)≤_
  decide
 rw [Ov h]
 intro k hk
 cases hk
end Go.Proofs.YtdendlkeiaccpaaGreatDoor
