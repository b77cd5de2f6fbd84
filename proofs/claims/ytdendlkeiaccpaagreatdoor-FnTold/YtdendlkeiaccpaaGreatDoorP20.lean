/- Part 20 of the proof that each of the laws FnTold returns true for every input. No conditions. -/
import Derived.Test.YtdendlkeiaccpaaGreatDoorP6
import Derived.Test.YtdendlkeiaccpaaGreatDoorP16
import Derived.Test.YtdendlkeiaccpaaGreatDoorP18
import Derived.Test.YtdendlkeiaccpaaGreatDoorP14
import Derived.Test.YtdendlkeiaccpaaGreatDoorP8
import Derived.Test.YtdendlkeiaccpaaGreatDoorP9
import Derived.Test.YtdendlkeiaccpaaGreatDoorP10
import Derived.Test.YtdendlkeiaccpaaGreatDoorP19

set_option linter.unusedSimpArgs false
set_option linter.unusedVariables false
set_option maxRecDepth 100000
namespace Go.Proofs.YtdendlkeiaccpaaGreatDoor
open Go.Sx
theorem Sv (n:Int):Bo Tryz.prog 112 [.one (vi n)] [.agg (Gw n).c]:=by
 refine Bh A0 false Tryz.func112 rfl Aw fun W=>?_
 conv=>whnf
 refine B5 (Ku n 1 4) rfl (A8 ?_)
 refine B3 A0 rfl rfl ?_
 exact Ay
theorem Uf {α:Type} [Inhabited α] (x:α)(n i:Nat)(h:x=default):(List.replicate n x).getD i default=x:=by
 simp only [List.getD,List.getElem?_replicate]
 split
 ·rfl
 exact h.symm
theorem B3o:(Ac.sl 4 1 fun _=>[.val (.int .i64 0)])=At (List.replicate 4 0):=congrArg (Ac.sl 4 1) (funext fun i=>by rw [Uf (0:Int) 4 i rfl])
theorem A1t:(Ac.sl 4 1 fun _=>[.val (.bool false)])=Ek (List.replicate 4 false):=congrArg (Ac.sl 4 1) (funext fun i=>by rw [Uf false 4 i rfl])
theorem Jq:(Ac.sl 4 5 fun _=>[.val (.bool false),.val (.int .i64 0),.val (.int .i64 0),.val (.bool false),.val (.bool false)])=C9 (List.replicate 4 default):=congrArg (Ac.sl 4 5) (funext fun i=>by rw [Uf (default:D0) 4 i rfl];rfl)
def Hc (xs:List Ae):A9:=⟨[],[],xs,[],List.replicate 4 0,List.replicate 4 false,List.replicate 4 false,[]⟩
set_option maxHeartbeats 1600000 in
theorem Oq (xs:List Ae)(hx:xs.length≤16777216):Bo Tryz.prog 110 [.one (Ah xs)] [.agg (Hc xs).c]:=by
 refine Bh A0 false Tryz.func110 rfl Aw fun W=>?_
 conv=>whnf
 refine Fq rfl ?_
 repeat' (first
   |(first|refine Am A0 false 1 rfl rfl rfl (by decide+kernel) rfl (A4 B2) ?_|refine Am A0 false 3 rfl rfl rfl (by decide+kernel) rfl (A4 B2) ?_|refine Am A0 false 5 rfl rfl rfl (by decide+kernel) rfl (A4 B2) ?_|refine Am A0 false 7 rfl rfl rfl (by decide+kernel) rfl (A4 B2) ?_)
   |((first|refine A3 [0,4,6,8] (by decide+kernel) ⟨?_,?_,?_,?_,trivial⟩|refine A3 [2,4,6,8] (by decide+kernel) ⟨?_,?_,?_,?_,trivial⟩|refine A3 [4,6,8] (by decide+kernel) ⟨?_,?_,?_,trivial⟩|refine A3 [6,8] (by decide+kernel) ⟨?_,?_,trivial⟩|refine A3 [8] (by decide+kernel) ⟨?_,trivial⟩|refine A3 [9] (by decide+kernel) ⟨?_,trivial⟩|refine A3 [10] (by decide+kernel) ⟨?_,trivial⟩|refine A3 [6] (by decide+kernel) ⟨?_,trivial⟩|refine A3 [4,8] (by decide+kernel) ⟨?_,?_,trivial⟩|refine A3 [4] (by decide+kernel) ⟨?_,trivial⟩|refine A3 [4,6] (by decide+kernel) ⟨?_,?_,trivial⟩|refine A3 [2,6,8] (by decide+kernel) ⟨?_,?_,?_,trivial⟩|refine A3 [2,8] (by decide+kernel) ⟨?_,?_,trivial⟩|refine A3 [2] (by decide+kernel) ⟨?_,trivial⟩|refine A3 [2,6] (by decide+kernel) ⟨?_,?_,trivial⟩|refine A3 [2,4,8] (by decide+kernel) ⟨?_,?_,?_,trivial⟩|refine A3 [2,4] (by decide+kernel) ⟨?_,?_,trivial⟩|refine A3 [2,4,6] (by decide+kernel) ⟨?_,?_,?_,trivial⟩|refine A3 [0,6,8] (by decide+kernel) ⟨?_,?_,?_,trivial⟩|refine A3 [0,8] (by decide+kernel) ⟨?_,?_,trivial⟩|refine A3 [0] (by decide+kernel) ⟨?_,trivial⟩|refine A3 [0,6] (by decide+kernel) ⟨?_,?_,trivial⟩|refine A3 [0,4,8] (by decide+kernel) ⟨?_,?_,?_,trivial⟩|refine A3 [0,4] (by decide+kernel) ⟨?_,?_,trivial⟩|refine A3 [0,4,6] (by decide+kernel) ⟨?_,?_,?_,trivial⟩)<;>(refine go A0 false ?_;(conv=>whnf);(first|(refine B1 A0 rfl rfl rfl rfl rfl rfl rfl rfl rfl rfl rfl (Ah xs) (Ci) (fun _=>F8 xs) Ab (Ji ?_);(conv=>whnf))|(repeat (refine Ft ?_;(conv=>whnf))));refine A6 ?_))
   |refine Au (by decide+kernel) (Mt.out ?_))
 all_goals
  refine Mt.mk (A8 ?_)
 all_goals
  refine B3 A0 rfl rfl ⟨⟨.inr ⟨rfl,rfl,_,_,rfl⟩,.inr ⟨rfl,rfl,_,_,rfl⟩,?_,.inr ⟨rfl,rfl,_,_,rfl⟩,?_,?_,?_,.inr ⟨rfl,rfl,_,_,rfl⟩,trivial⟩,trivial⟩
  ·exact (rfl:Ah xs=Ah xs)
  ·exact B3o
  ·exact A1t
  exact A1t
def Mu (n:Int) (l:List Ae) (w:Int) (k:Nat):List Ae:=(List.range k).flatMap fun (e:Nat)=>(H9 l e).filter fun r=>F1 r.key n==w
theorem Xx (n:Int)(l:List Ae)(w:Int)(k:Nat):Mu n l w (k+1)=Mu n l w k++(H9 l k).filter fun r=>F1 r.key n==w:=by
 rw [Mu,List.range_succ,List.flatMap_append]
 simp [Mu]
theorem Uz (n:Int)(l:List Ae)(w:Int)(k:Nat):(Mu n l w k).length≤k * l.length:=by
 induction k with
 |zero=>simp [Mu]
 |succ k ih=>
  rw [Xx,List.length_append,Nat.succ_mul]
  have h1:=List.length_filter_le (fun r:Ae=>F1 r.key n==w) (H9 l k)
  have h2:=Pi l k
  omega
def oP (n:Int) (w:Int) (e:Nat) (r:Ae):Bool:=(r.stamp.epoch==(e:Int))&&(F1 r.key n==w)
theorem A7p (n:Int)(l:List Ae)(w:Int)(e:Nat):l.filter (oP n w e)=(H9 l e).filter fun r=>F1 r.key n==w:=by
 show _=List.filter _ (List.filter _ l)
 rw [List.filter_filter]
 congr 1
 funext r
 rw [oP,Bool.and_comm]
set_option maxHeartbeats 1600000 in
theorem B4i (g:Ap)(l:List Ae)(w:Int)(hl:l.length≤20)(hg:g.workers≤4):Bo Tryz.prog 111 [.agg g.c,.one (Ah l),.one (vi w)] [.one (Ah (Mu g.workers l w 4))]:=by
 refine Bh A0 false Tryz.func111 rfl Aw fun W=>?_
 conv=>whnf
 refine Ed 1 (Ah []) rfl De ?_
 refine C0 A0 false [9,10] (fun k:Nat=>[(8,.c (vi k))]) (fun k=>[⟨0,[.c (Bp g.nodes),.c (vi g.workers),.c (vi g.cap)]⟩]) (fun k=>[⟨1,Ah (Mu g.workers l w k)⟩])
  (fun k=>k≤4) (fun k=>4-k) 0 (Nat.zero_le _) ⟨G9,trivial⟩ Cf ⟨Eu,trivial⟩ Cr A7 (fun k hk=>?_)
 conv=>whnf
 refine ⟨fun h=>?_,fun h=>?_⟩<;>conv=>whnf
 ·have h:k<4:=by have:=of_decide_eq_true h;omega
  have hk1:=Uz g.workers l w k
  have hk2:k * l.length≤80:=Nat.le_trans (Nat.mul_le_mul (show k≤4 by omega) hl) Aw
  refine C0 A0 false [] (fun j:Nat=>[(9,.c (vi j))]) (fun j=>[⟨0,[.c (Bp g.nodes),.c (vi g.workers),.c (vi g.cap)]⟩]) (fun j=>[⟨1,Ah (Mu g.workers l w k++(l.take j).filter (oP g.workers w k))⟩])
   (fun j=>j≤l.length) (fun j=>l.length-j) 0 (Nat.zero_le _) ⟨G9,trivial⟩ Cf ⟨Eu,trivial⟩ Cr A7 (fun j hj=>?_)
  conv=>whnf
  conv=>whnf
  refine Fi (fun h2=>?_) fun h2=>?_<;>conv=>whnf
  ·have h2:j<l.length:=by omega
   have hs:=F4 (oP g.workers w k) l j h2
   have hb:=Ds (oP g.workers w k) l j
   first|(refine B7 8 rfl [0,1,2,3,4,5,6,7,8,9,10,11,12,13,14,15,17,16,18,19] A7 (A8 ?_))
   (repeat refine An ?_)
   refine ⟨fun h3=>?_,fun h3=>?_⟩<;>conv=>whnf
   ·rw [Int.toNat_natCast] at h3
    repeat refine Bj ?_
    (repeat refine An ?_)
    refine B5 (Sy (l.getD j default).key g.workers Ab) rfl (A8 ?_)
    repeat refine Bj ?_
    refine ⟨fun h4=>?_,fun h4=>?_⟩<;>conv=>whnf
    ·have h5:oP g.workers w k (l.getD j default)=true:=by rw [oP,h3,h4];rfl
     (repeat refine An ?_)
     refine B1 A0 rfl rfl rfl rfl rfl rfl rfl rfl rfl rfl rfl (Ah (Mu g.workers l w k++(l.take j).filter (oP g.workers w k)++[l.getD j default])) (Aa rfl) Bg (by (rw [List.length_append];omega)) (A8 ?_)
     (repeat refine An ?_)
     refine B9 [(1,3)] (j+1) Ab Ab ⟨rfl,trivial⟩ ⟨congrArg Ah (by rw [hs,if_pos h5,List.append_assoc]),trivial⟩ Cf A7 Cr A7
    have h5:oP g.workers w k (l.getD j default)=false:=by rw [oP,h4,Bool.and_false]
    repeat refine Bj ?_
    refine B9 [] (j+1) Ab Ab ⟨rfl,trivial⟩ ⟨congrArg Ah (by rw [hs,if_neg (by rw [h5];decide),List.append_nil]),trivial⟩ Cf A7 Cr A7
   rw [Int.toNat_natCast] at h3
   have h5:oP g.workers w k (l.getD j default)=false:=by rw [oP,h3,Bool.false_and]
   repeat refine Bj ?_
   refine B9 [] (j+1) Ab Ab ⟨rfl,trivial⟩ ⟨congrArg Ah (by rw [hs,if_neg (by rw [h5];decide),List.append_nil]),trivial⟩ Cf A7 Cr A7
  (repeat refine An ?_)
  refine B9 [] (k+1) Ab Ab ⟨rfl,trivial⟩ ⟨congrArg Ah (by rw [Xx,←A7p,List.take_of_length_le Ab]),trivial⟩ Cf A7 Cr A7
 have h:¬ k<4:=by have:=of_decide_eq_false h;omega
 obtain rfl:k=4:=by omega
 refine B3 A0 rfl rfl ?_
 exact Ay
def InP (r:Ae):Prop:=Hs r∧r.op=0∧r.stamp.turn=0
theorem Pg {g:Ap}{l:List Ae}(h:¬ W3 g l):Cc g l=(Nz,false):=if_neg h
theorem Jl {g:Ap}{l:List Ae}(h:W3 g l):Cc g l=(⟨g,Eg g.workers l g.workers.toNat,List.replicate (g.workers.toNat * g.workers.toNat) (Gw g.cap),List.replicate 4 default,[]⟩,true):=if_pos h
theorem Xr (n:Int)(l:List Ae)(k:Nat):Eg n l (k+1)=Eg n l k++[Hc (Mu n l k 4)]:=by
 rw [Eg,List.range_succ,List.map_append]
 rfl
theorem Ur (n:Int)(l:List Ae)(k:Nat):(Eg n l k).length=k:=by rw [Eg,List.length_map,List.length_range]
set_option maxHeartbeats 8000000 in
theorem Vm (g:Ap)(l:List Ae)(hg:g.w≤16777216)(hl:l.length≤16777216):Bo Tryz.prog 79 [.agg g.c,.one (Ah l)] [.agg (Cc g l).1.c,.one (vb (Cc g l).2)]:=by
 refine Bh A0 false Tryz.func79 rfl Aw fun W=>?_
 conv=>whnf
 refine B5 (I0 g Ab) rfl (A8 ?_)
 refine ⟨fun h1=>?_,fun h1=>?_⟩<;>conv=>whnf
 ·have h1:Ib g=false:=by simpa using h1
  repeat refine Bj ?_
  rw [Pg (fun p=>absurd p.1 (of_decide_eq_false h1))]
  refine B3 A0 rfl rfl ?_
  exact Ay
 have h1:Fj g:=of_decide_eq_true (show Ib g=true by simpa using h1)
 repeat refine Bj ?_
 refine ⟨fun h2=>?_,fun h2=>?_⟩<;>conv=>whnf
 ·have h2:¬ l.length≤20:=by have:=of_decide_eq_true h2;omega
  repeat refine Bj ?_
  rw [Pg (fun p=>h2 p.2.1)]
  refine B3 A0 rfl rfl ?_
  exact Ay
 have h2:l.length≤20:=by have:=of_decide_eq_false h2;omega
 repeat refine Bj ?_
 have hwk:=h1.2.1
 obtain ⟨n,hn⟩:∃n:Nat,g.workers=n:=⟨g.workers.toNat,by omega⟩
 refine C0 A0 false [] (fun k:Nat=>[(6,.c (vi k))]) (fun k=>[⟨0,[.c (Bp g.nodes),.c (vi g.workers),.c (vi g.cap)]⟩,⟨1,[.c (.val (.slice none 0 0)),.c (vi 0),.c (vi 0),.c (.val (.slice none 0 0)),.c (.val (.slice none 0 0)),.c (.val (.slice none 0 0)),.c (.val (.slice none 0 0))]⟩]) (fun k=>[])
  (fun k=>k≤l.length∧∀i,i<k→InP (l.getD i default)) (fun k=>l.length-k) 0 ⟨Nat.zero_le _,by first|rfl|assumption|simp⟩ ⟨G9,trivial⟩ Cf trivial Cr A7 (fun k hk=>?_)
 obtain ⟨hk,he⟩:=hk
 conv=>whnf
 conv=>whnf
 refine Fi (fun h3=>?_) fun h3=>?_<;>conv=>whnf
 ·have h3:k<l.length:=by omega
  (repeat refine An ?_)
  refine B5 (Hb (l.getD k default)) rfl (A8 ?_)
  repeat refine Bj ?_
  refine ⟨fun h4=>?_,fun h4=>?_⟩<;>conv=>whnf
  ·have h4:Ig (l.getD k default)=false:=by simpa using h4
   repeat refine Bj ?_
   rw [Pg (fun p=>absurd (p.2.2 _ (B8 h3)).1 (of_decide_eq_false h4))]
   refine B3 A0 rfl rfl ?_
   exact Ay
  have h4:Hs (l.getD k default):=of_decide_eq_true (show Ig (l.getD k default)=true by simpa using h4)
  repeat refine Bj ?_
  (repeat refine An ?_)
  refine ⟨fun h5=>have h5:=bne_iff_ne.1 h5;?_,fun h5=>have h5:=bne_eq_false_iff_eq.1 h5;?_⟩<;>conv=>whnf
  ·have h5:(l.getD k default).op≠0:=h5
   repeat refine Bj ?_
   rw [Pg (fun p=>h5 (p.2.2 _ (B8 h3)).2.1)]
   refine B3 A0 rfl rfl ?_
   exact Ay
  have h5:(l.getD k default).op=0:=h5
  repeat refine Bj ?_
  (repeat refine An ?_)
  refine ⟨fun h6=>have h6:=bne_iff_ne.1 h6;?_,fun h6=>have h6:=bne_eq_false_iff_eq.1 h6;?_⟩<;>conv=>whnf
  ·have h6:(l.getD k default).stamp.turn≠0:=h6
   repeat refine Bj ?_
   rw [Pg (fun p=>h6 (p.2.2 _ (B8 h3)).2.2)]
   refine B3 A0 rfl rfl ?_
   exact Ay
  have h6:(l.getD k default).stamp.turn=0:=h6
  repeat refine Bj ?_
  (repeat refine An ?_)
  refine B9 [] (k+1) ⟨by omega,fun i hi=>(Nat.lt_succ_iff_lt_or_eq.1 hi).elim (fun h7=>he i h7) (fun h7=>by subst h7;exact ⟨h4,h5,h6⟩)⟩ Ab ⟨rfl,trivial⟩ trivial Cf A7 Cr A7
 have hN:W3 g l:=⟨h1,h2,fun r hr=>by
  obtain ⟨i,hi,rfl⟩:=List.getElem_of_mem hr
  have:=he i Ab
  rw [show l.getD i default=l[i] by simp [List.getD,hi]] at this
  exact this⟩
 rw [Jl hN]
 refine B4v 3 ?_
 refine B6g A0 false (J:=Unit) [49,50,51,52] (fun _=>[(7,.box 2 0)]) (fun _=>[⟨2,[.own 3,.c (vi g.workers),.c (vi g.cap),.c (.val (.slice none 0 0)),.c (.val (.slice none 0 0)),.own 4,.c (.val (.slice none 0 0))]⟩,⟨0,[.c (Bp g.nodes),.c (vi g.workers),.c (vi g.cap)]⟩,⟨1,[.c (.val (.slice none 0 0)),.c (vi 0),.c (vi 0),.c (.val (.slice none 0 0)),.c (.val (.slice none 0 0)),.c (.val (.slice none 0 0)),.c (.val (.slice none 0 0))]⟩]) (fun _=>[⟨3,Bp g.nodes⟩,⟨4,C9 (List.replicate 4 default)⟩]) (fun _=>True) ?_ (fun _ _=>?_)
 ·conv=>whnf
  refine Fq rfl ?_
  repeat' (first
    |((first|refine A3 [0,2,4] (by decide+kernel) ⟨?_,?_,?_,trivial⟩|refine A3 [1,2,4] (by decide+kernel) ⟨?_,?_,?_,trivial⟩|refine A3 [2,4] (by decide+kernel) ⟨?_,?_,trivial⟩|refine A3 [3,4] (by decide+kernel) ⟨?_,?_,trivial⟩|refine A3 [4] (by decide+kernel) ⟨?_,trivial⟩|refine A3 [5] (by decide+kernel) ⟨?_,trivial⟩|refine A3 [3] (by decide+kernel) ⟨?_,trivial⟩|refine A3 [2] (by decide+kernel) ⟨?_,trivial⟩|refine A3 [1,4] (by decide+kernel) ⟨?_,?_,trivial⟩|refine A3 [1] (by decide+kernel) ⟨?_,trivial⟩|refine A3 [1,2] (by decide+kernel) ⟨?_,?_,trivial⟩|refine A3 [0,4] (by decide+kernel) ⟨?_,?_,trivial⟩|refine A3 [0] (by decide+kernel) ⟨?_,trivial⟩|refine A3 [0,2] (by decide+kernel) ⟨?_,?_,trivial⟩)<;>(refine go A0 false ?_;(conv=>whnf);(first|(refine Cq (L0 g hg) rfl (Ji ?_);(conv=>whnf))|(repeat (refine Ft ?_;(conv=>whnf))));refine A6 ?_))
    |refine Au (by decide+kernel) (Mt.out ?_))
  all_goals
   refine Mt.mk (A8 ?_)
  all_goals first|exact B9 [(2,5),(3,6),(4,7)] (()) (trivial) (by exact Nat.zero_lt_one) ⟨rfl,trivial⟩ ⟨rfl,Jq,trivial⟩ Cf A7 Cr A7|exact B9 [(2,5),(3,7),(4,6)] (()) (trivial) (by exact Nat.zero_lt_one) ⟨rfl,trivial⟩ ⟨rfl,Jq,trivial⟩ Cf A7 Cr A7|exact B9 [(2,6),(3,5),(4,7)] (()) (trivial) (by exact Nat.zero_lt_one) ⟨rfl,trivial⟩ ⟨rfl,Jq,trivial⟩ Cf A7 Cr A7|exact B9 [(2,6),(3,7),(4,5)] (()) (trivial) (by exact Nat.zero_lt_one) ⟨rfl,trivial⟩ ⟨rfl,Jq,trivial⟩ Cf A7 Cr A7|exact B9 [(2,7),(3,5),(4,6)] (()) (trivial) (by exact Nat.zero_lt_one) ⟨rfl,trivial⟩ ⟨rfl,Jq,trivial⟩ Cf A7 Cr A7|exact B9 [(2,7),(3,6),(4,5)] (()) (trivial) (by exact Nat.zero_lt_one) ⟨rfl,trivial⟩ ⟨rfl,Jq,trivial⟩ Cf A7 Cr A7
 clear he
 refine A1v 2 3 8 (fun i=>A9.c (([]:List A9).getD i default)) rfl rfl ?_
 refine A1v 2 4 6 (fun i=>Bv.c (([]:List Bv).getD i default)) rfl rfl ?_
 refine Ed 6 (Cy (List.replicate (0 * n) (Gw g.cap))) rfl (by rw [Nat.zero_mul];exact De) ?_
 refine C0 A0 false [9,53,54,55,56,57,58,59,60,61,62,63,64,65,66,67,68,69,70,71,72,73,74,75,76,77,78,79,80,81,82,83] (fun k:Nat=>[(8,.c (vi k))]) (fun k=>[⟨2,[.own 3,.c (vi g.workers),.c (vi g.cap),.own 5,.own 6,.own 4,.c (.val (.slice none 0 0))]⟩,⟨0,[.c (Bp g.nodes),.c (vi g.workers),.c (vi g.cap)]⟩,⟨1,[.c (.val (.slice none 0 0)),.c (vi 0),.c (vi 0),.c (.val (.slice none 0 0)),.c (.val (.slice none 0 0)),.c (.val (.slice none 0 0)),.c (.val (.slice none 0 0))]⟩]) (fun k=>[⟨3,Bp g.nodes⟩,⟨4,C9 (List.replicate 4 default)⟩,⟨5,Av (Eg g.workers l k)⟩,⟨6,Cy (List.replicate (k * n) (Gw g.cap))⟩])
  (fun k=>k≤n) (fun k=>n-k) 0 (Nat.zero_le _) ⟨G9,trivial⟩ Cf ⟨Eu,Eu,Eu,Eu,trivial⟩ Cr A7 (fun k hk=>?_)
 conv=>whnf
 conv=>whnf
 refine Fi (fun hlt=>?_) fun hlt=>?_<;>conv=>whnf
 ·have hlt:k<n:=by omega
  have hkl:=Ur g.workers l k
  have hol:=Uz g.workers l k 4
  first|(refine B7 8 rfl [0,1,2,3,4,5] A7 (A8 ?_))|(refine B7 12 rfl [0,1,2,3,4,5,6,7,8,9,10] A7 (A8 ?_))|(refine B7 16 rfl [0,1,2,3,4,5,6,7,8] A7 (A8 ?_))
  refine Cq (B4i g l k h2 Ab) rfl (A8 ?_)
  refine Cq (Oq (Mu g.workers l k 4) Ab) rfl (A8 ?_)
  refine P1 A0 rfl rfl rfl rfl rfl rfl rfl rfl rfl (A8 ?_)
  refine B1 A0 rfl rfl rfl rfl rfl rfl rfl rfl rfl rfl rfl (Av (Eg g.workers l k++[Hc (Mu g.workers l k 4)])) (Aa rfl) Bg Ab (A8 ?_)
  rw [←Xr]
  refine C0 A0 false [69,70,71,72,73,74,75,76,77,78,79,80,81,82] (fun j:Nat=>[(9,.c (vi j))]) (fun j=>[⟨2,[.own 3,.c (vi g.workers),.c (vi g.cap),.own 17,.own 6,.own 4,.c (.val (.slice none 0 0))]⟩,⟨0,[.c (Bp g.nodes),.c (vi g.workers),.c (vi g.cap)]⟩,⟨1,[.c (.val (.slice none 0 0)),.c (vi 0),.c (vi 0),.c (.val (.slice none 0 0)),.c (.val (.slice none 0 0)),.c (.val (.slice none 0 0)),.c (.val (.slice none 0 0))]⟩]) (fun j=>[⟨3,Bp g.nodes⟩,⟨4,C9 (List.replicate 4 default)⟩,⟨17,Av (Eg g.workers l (k+1))⟩,⟨6,Cy (List.replicate (k * n+j) (Gw g.cap))⟩])
   (fun j=>j≤n) (fun j=>n-j) 0 (Nat.zero_le _) ⟨G9,trivial⟩ Cf ⟨Eu,Eu,Eu,Eu,trivial⟩ Cr A7 (fun j hj=>?_)
  conv=>whnf
  conv=>whnf
  refine Fi (fun hlt2=>?_) fun hlt2=>?_<;>conv=>whnf
  ·have hlt2:j<n:=by omega
   have hkn:k * n≤16:=Nat.le_trans (Nat.mul_le_mul (show k≤4 by omega) (show n≤4 by omega)) Aw
   first|(refine B7 8 rfl [0,1,2,3,4,5] A7 (A8 ?_))|(refine B7 12 rfl [0,1,2,3,4,5,6,7,8,9,10] A7 (A8 ?_))|(refine B7 16 rfl [0,1,2,3,4,5,6,7,8] A7 (A8 ?_))
   refine Cq (Sv g.cap) rfl (A8 ?_)
   refine P1 A0 rfl rfl rfl rfl rfl rfl rfl rfl rfl (A8 ?_)
   refine B1 A0 rfl rfl rfl rfl rfl rfl rfl rfl rfl rfl rfl (Cy (List.replicate (k * n+j) (Gw g.cap)++[Gw g.cap])) (Aa rfl) Bg (by (rw [List.length_replicate];omega)) (A8 ?_)
   (repeat refine An ?_)
   refine B9 [(6,20)] (j+1) Ab Ab ⟨rfl,trivial⟩ ⟨rfl,rfl,rfl,congrArg Cy (by rw [show k * n+(j+1)=(k * n+j)+1 by omega,List.replicate_succ']),trivial⟩ Cf A7 Cr A7
  obtain rfl:j=n:=by omega
  (repeat refine An ?_)
  refine B9 [(5,17)] (k+1) Ab Ab ⟨rfl,trivial⟩ ⟨rfl,rfl,rfl,congrArg (fun m=>Cy (List.replicate m (Gw g.cap))) (by rw [Nat.succ_mul]),trivial⟩ Cf A7 Cr A7
 obtain rfl:k=n:=by omega
 rw [show g.workers.toNat=k by omega]
 (repeat refine An ?_)
 refine B3 A0 rfl rfl ?_
 exact Ay
theorem A20 (xs:List Ae):(Hc xs).w=xs.length+12:=by simp [A9.w,Hc]
theorem B3q {n:Int}{l:List Ae}{k:Nat}(hl:l.length≤20):((Eg n l k).map A9.w).sum≤k * 92:=by
 induction k with
 |zero=>simp [Eg]
 |succ k ih=>
  rw [Xr,List.map_append,List.sum_append]
  have h1:=Uz n l k 4
  simp only [List.map_cons,List.map_nil,List.sum_cons,List.sum_nil,A20]
  omega
theorem B5o (m:Nat)(n:Int):((List.replicate m (Gw n)).map Bv.w).sum=0:=by
 induction m with
 |zero=>rfl
 |succ m ih=>
  rw [List.replicate_succ,List.map_cons,List.sum_cons,ih]
  rfl
theorem B4y {g:Ap}{l:List Ae}:(Cc g l).1.w≤g.w+2000:=by
 by_cases h:W3 g l
 ·have hw:=h.1.2.1
  obtain ⟨n,hn⟩:∃n:Nat,g.workers=n:=⟨g.workers.toNat,by omega⟩
  have h1:=B3q (n:=g.workers) (l:=l) (k:=g.workers.toNat) h.2.1
  have h2:=B5o (g.workers.toNat * g.workers.toNat) g.cap
  have h3:=Ur g.workers l g.workers.toNat
  have h4:g.workers.toNat * g.workers.toNat≤16:=Nat.mul_le_mul (show g.workers.toNat≤4 by omega) (show g.workers.toNat≤4 by omega)
  rw [Jl h]
  simp only [A5.w,wS,List.length_replicate,List.length_nil]
  rw [h2,h3]
  have h5:g.workers.toNat≤4:=by omega
  omega
 rw [Pg h]
 show Nz.w≤_
 have:Nz.w=0:=rfl
 omega
end Go.Proofs.YtdendlkeiaccpaaGreatDoor
