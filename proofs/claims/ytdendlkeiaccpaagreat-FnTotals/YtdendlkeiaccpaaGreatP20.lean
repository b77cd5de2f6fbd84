/- Part 20 of the proof that each of the laws FnTotals returns true for every input. No conditions. -/
import Derived.Test.YtdendlkeiaccpaaGreatP19
import Derived.Test.YtdendlkeiaccpaaGreatP14
import Derived.Test.YtdendlkeiaccpaaGreatP18
import Derived.Test.YtdendlkeiaccpaaGreatP11
import Derived.Test.YtdendlkeiaccpaaGreatP12
import Derived.Test.YtdendlkeiaccpaaGreatP13

set_option linter.unusedSimpArgs false
set_option linter.unusedVariables false
set_option maxRecDepth 100000
namespace Go.Proofs.YtdendlkeiaccpaaGreat
open Go.Sx
theorem Sd (n:Int):Bi Tryz.prog 116 [.one (vi n)] [.agg (Gk n).c]:=by
 refine Bd A0 false Tryz.func116 rfl Aw fun W=>?_
 conv=>whnf
 refine Az (Ku n 1 4) rfl (A8 ?_)
 refine B2 A0 rfl rfl ?_
 exact At
theorem U1 {α:Type} [Inhabited α] (x:α)(n i:Nat)(h:x=default):(List.replicate n x).getD i default=x:=by
 simp only [List.getD,List.getElem?_replicate]
 split
 ·rfl
 exact h.symm
theorem B2r:(Ae.sl 4 1 fun _=>[.val (.int .i64 0)])=Ap (List.replicate 4 0):=congrArg (Ae.sl 4 1) (funext fun i=>by rw [U1 (0:Int) 4 i rfl])
theorem A0y:(Ae.sl 4 1 fun _=>[.val (.bool false)])=Eg (List.replicate 4 false):=congrArg (Ae.sl 4 1) (funext fun i=>by rw [U1 false 4 i rfl])
theorem Jq:(Ae.sl 4 5 fun _=>[.val (.bool false),.val (.int .i64 0),.val (.int .i64 0),.val (.bool false),.val (.bool false)])=C9 (List.replicate 4 default):=congrArg (Ae.sl 4 5) (funext fun i=>by rw [U1 (default:Di) 4 i rfl];rfl)
def H3 (xs:List A9):Ac:=⟨[],[],xs,[],List.replicate 4 0,List.replicate 4 false,List.replicate 4 false,[]⟩
set_option maxHeartbeats 1600000 in
theorem Og (xs:List A9)(hx:xs.length≤16777216):Bi Tryz.prog 114 [.one (Aa xs)] [.agg (H3 xs).c]:=by
 refine Bd A0 false Tryz.func114 rfl Aw fun W=>?_
 conv=>whnf
 refine Fk rfl ?_
 repeat' (first
   |(first|refine Aj A0 false 1 rfl rfl rfl (by decide+kernel) rfl (A4 B1) ?_|refine Aj A0 false 3 rfl rfl rfl (by decide+kernel) rfl (A4 B1) ?_|refine Aj A0 false 5 rfl rfl rfl (by decide+kernel) rfl (A4 B1) ?_|refine Aj A0 false 7 rfl rfl rfl (by decide+kernel) rfl (A4 B1) ?_)
   |((first|refine A3 [0,4,6,8] (by decide+kernel) ⟨?_,?_,?_,?_,trivial⟩|refine A3 [2,4,6,8] (by decide+kernel) ⟨?_,?_,?_,?_,trivial⟩|refine A3 [4,6,8] (by decide+kernel) ⟨?_,?_,?_,trivial⟩|refine A3 [6,8] (by decide+kernel) ⟨?_,?_,trivial⟩|refine A3 [8] (by decide+kernel) ⟨?_,trivial⟩|refine A3 [9] (by decide+kernel) ⟨?_,trivial⟩|refine A3 [10] (by decide+kernel) ⟨?_,trivial⟩|refine A3 [6] (by decide+kernel) ⟨?_,trivial⟩|refine A3 [4,8] (by decide+kernel) ⟨?_,?_,trivial⟩|refine A3 [4] (by decide+kernel) ⟨?_,trivial⟩|refine A3 [4,6] (by decide+kernel) ⟨?_,?_,trivial⟩|refine A3 [2,6,8] (by decide+kernel) ⟨?_,?_,?_,trivial⟩|refine A3 [2,8] (by decide+kernel) ⟨?_,?_,trivial⟩|refine A3 [2] (by decide+kernel) ⟨?_,trivial⟩|refine A3 [2,6] (by decide+kernel) ⟨?_,?_,trivial⟩|refine A3 [2,4,8] (by decide+kernel) ⟨?_,?_,?_,trivial⟩|refine A3 [2,4] (by decide+kernel) ⟨?_,?_,trivial⟩|refine A3 [2,4,6] (by decide+kernel) ⟨?_,?_,?_,trivial⟩|refine A3 [0,6,8] (by decide+kernel) ⟨?_,?_,?_,trivial⟩|refine A3 [0,8] (by decide+kernel) ⟨?_,?_,trivial⟩|refine A3 [0] (by decide+kernel) ⟨?_,trivial⟩|refine A3 [0,6] (by decide+kernel) ⟨?_,?_,trivial⟩|refine A3 [0,4,8] (by decide+kernel) ⟨?_,?_,?_,trivial⟩|refine A3 [0,4] (by decide+kernel) ⟨?_,?_,trivial⟩|refine A3 [0,4,6] (by decide+kernel) ⟨?_,?_,?_,trivial⟩)<;>(refine go A0 false ?_;(conv=>whnf);(first|(refine Av A0 rfl rfl rfl rfl rfl rfl rfl rfl rfl rfl rfl (Aa xs) (Cc) (fun _=>Cd xs) Ab (Jf ?_);(conv=>whnf))|(repeat (refine Gl ?_;(conv=>whnf))));refine A5 ?_))
   |refine Aq (by decide+kernel) (Ms.out ?_))
 all_goals
  refine Ms.mk (A8 ?_)
 all_goals
  refine B2 A0 rfl rfl ⟨⟨.inr ⟨rfl,rfl,_,_,rfl⟩,.inr ⟨rfl,rfl,_,_,rfl⟩,?_,.inr ⟨rfl,rfl,_,_,rfl⟩,?_,?_,?_,.inr ⟨rfl,rfl,_,_,rfl⟩,trivial⟩,trivial⟩
  ·exact (rfl:Aa xs=Aa xs)
  ·exact B2r
  ·exact A0y
  exact A0y
def Mt (n:Int) (l:List A9) (w:Int) (k:Nat):List A9:=(List.range k).flatMap fun (e:Nat)=>(Gz l e).filter fun r=>Eo r.key n==w
theorem Xd (n:Int)(l:List A9)(w:Int)(k:Nat):Mt n l w (k+1)=Mt n l w k++(Gz l k).filter fun r=>Eo r.key n==w:=by
 rw [Mt,List.range_succ,List.flatMap_append]
 simp [Mt]
theorem Un (n:Int)(l:List A9)(w:Int)(k:Nat):(Mt n l w k).length≤k * l.length:=by
 induction k with
 |zero=>simp [Mt]
 |succ k ih=>
  rw [Xd,List.length_append,Nat.succ_mul]
  have h1:=List.length_filter_le (fun r:A9=>Eo r.key n==w) (Gz l k)
  have h2:=P6 l k
  omega
def oP (n:Int) (w:Int) (e:Nat) (r:A9):Bool:=(r.stamp.epoch==(e:Int))&&(Eo r.key n==w)
theorem A6w (n:Int)(l:List A9)(w:Int)(e:Nat):l.filter (oP n w e)=(Gz l e).filter fun r=>Eo r.key n==w:=by
 show _=List.filter _ (List.filter _ l)
 rw [List.filter_filter]
 congr 1
 funext r
 rw [oP,Bool.and_comm]
set_option maxHeartbeats 1600000 in
theorem B3n (g:Ao)(l:List A9)(w:Int)(hl:l.length≤20)(hg:g.workers≤4):Bi Tryz.prog 115 [.agg g.c,.one (Aa l),.one (vi w)] [.one (Aa (Mt g.workers l w 4))]:=by
 refine Bd A0 false Tryz.func115 rfl Aw fun W=>?_
 conv=>whnf
 refine Dv 1 (Aa []) rfl Ds ?_
 refine Bv A0 false [9,10] (fun k:Nat=>[(8,.c (vi k))]) (fun k=>[⟨0,[.c (Br g.nodes),.c (vi g.workers),.c (vi g.cap)]⟩]) (fun k=>[⟨1,Aa (Mt g.workers l w k)⟩])
  (fun k=>k≤4) (fun k=>4-k) 0 (Nat.zero_le _) ⟨F3,trivial⟩ Cf ⟨F2,trivial⟩ Cj A7 (fun k hk=>?_)
 conv=>whnf
 refine ⟨fun h=>?_,fun h=>?_⟩<;>conv=>whnf
 ·have h:k<4:=by have:=of_decide_eq_true h;omega
  have hk1:=Un g.workers l w k
  have hk2:k * l.length≤80:=Nat.le_trans (Nat.mul_le_mul (show k≤4 by omega) hl) Aw
  refine Bv A0 false [] (fun j:Nat=>[(9,.c (vi j))]) (fun j=>[⟨0,[.c (Br g.nodes),.c (vi g.workers),.c (vi g.cap)]⟩]) (fun j=>[⟨1,Aa (Mt g.workers l w k++(l.take j).filter (oP g.workers w k))⟩])
   (fun j=>j≤l.length) (fun j=>l.length-j) 0 (Nat.zero_le _) ⟨F3,trivial⟩ Cf ⟨F2,trivial⟩ Cj A7 (fun j hj=>?_)
  conv=>whnf
  conv=>whnf
  refine Es (fun h2=>?_) fun h2=>?_<;>conv=>whnf
  ·have h2:j<l.length:=by omega
   have hs:=Hm (oP g.workers w k) l j h2
   have hb:=Fe (oP g.workers w k) l j
   first|(refine B5 8 rfl [0,1,2,3,4,5,6,7,8,9,10,11,12,13,14,15,17,16,18,19] A7 (A8 ?_))
   (repeat refine Am ?_)
   refine ⟨fun h3=>?_,fun h3=>?_⟩<;>conv=>whnf
   ·rw [Int.toNat_natCast] at h3
    repeat refine B7 ?_
    (repeat refine Am ?_)
    refine Az (Sf (l.getD j default).key g.workers Ab) rfl (A8 ?_)
    repeat refine B7 ?_
    refine ⟨fun h4=>?_,fun h4=>?_⟩<;>conv=>whnf
    ·have h5:oP g.workers w k (l.getD j default)=true:=by rw [oP,h3,h4];rfl
     (repeat refine Am ?_)
     refine Av A0 rfl rfl rfl rfl rfl rfl rfl rfl rfl rfl rfl (Aa (Mt g.workers l w k++(l.take j).filter (oP g.workers w k)++[l.getD j default])) (Ad rfl) Bj (by (rw [List.length_append];omega)) (A8 ?_)
     (repeat refine Am ?_)
     refine B6 [(1,3)] (j+1) Ab Ab ⟨rfl,trivial⟩ ⟨congrArg Aa (by rw [hs,if_pos h5,List.append_assoc]),trivial⟩ Cf A7 Cj A7
    have h5:oP g.workers w k (l.getD j default)=false:=by rw [oP,h4,Bool.and_false]
    repeat refine B7 ?_
    refine B6 [] (j+1) Ab Ab ⟨rfl,trivial⟩ ⟨congrArg Aa (by rw [hs,if_neg (by rw [h5];decide),List.append_nil]),trivial⟩ Cf A7 Cj A7
   rw [Int.toNat_natCast] at h3
   have h5:oP g.workers w k (l.getD j default)=false:=by rw [oP,h3,Bool.false_and]
   repeat refine B7 ?_
   refine B6 [] (j+1) Ab Ab ⟨rfl,trivial⟩ ⟨congrArg Aa (by rw [hs,if_neg (by rw [h5];decide),List.append_nil]),trivial⟩ Cf A7 Cj A7
  (repeat refine Am ?_)
  refine B6 [] (k+1) Ab Ab ⟨rfl,trivial⟩ ⟨congrArg Aa (by rw [Xd,←A6w,List.take_of_length_le Ab]),trivial⟩ Cf A7 Cj A7
 have h:¬ k<4:=by have:=of_decide_eq_false h;omega
 obtain rfl:k=4:=by omega
 refine B2 A0 rfl rfl ?_
 exact At
def InP (r:A9):Prop:=H7 r∧r.op=0∧r.stamp.turn=0
theorem P4 {g:Ao}{l:List A9}(h:¬ Vz g l):Ca g l=(Ns,false):=if_neg h
theorem Jm {g:Ao}{l:List A9}(h:Vz g l):Ca g l=(⟨g,E4 g.workers l g.workers.toNat,List.replicate (g.workers.toNat * g.workers.toNat) (Gk g.cap),List.replicate 4 default,[]⟩,true):=if_pos h
theorem X8 (n:Int)(l:List A9)(k:Nat):E4 n l (k+1)=E4 n l k++[H3 (Mt n l k 4)]:=by
 rw [E4,List.range_succ,List.map_append]
 rfl
theorem Ud (n:Int)(l:List A9)(k:Nat):(E4 n l k).length=k:=by rw [E4,List.length_map,List.length_range]
set_option maxHeartbeats 8000000 in
theorem Va (g:Ao)(l:List A9)(hg:g.w≤16777216)(hl:l.length≤16777216):Bi Tryz.prog 84 [.agg g.c,.one (Aa l)] [.agg (Ca g l).1.c,.one (vb (Ca g l).2)]:=by
 refine Bd A0 false Tryz.func84 rfl Aw fun W=>?_
 conv=>whnf
 refine Az (Hr g Ab) rfl (A8 ?_)
 refine ⟨fun h1=>?_,fun h1=>?_⟩<;>conv=>whnf
 ·have h1:I3 g=false:=by simpa using h1
  repeat refine B7 ?_
  rw [P4 (fun p=>absurd p.1 (of_decide_eq_false h1))]
  refine B2 A0 rfl rfl ?_
  exact At
 have h1:Fa g:=of_decide_eq_true (show I3 g=true by simpa using h1)
 repeat refine B7 ?_
 refine ⟨fun h2=>?_,fun h2=>?_⟩<;>conv=>whnf
 ·have h2:¬ l.length≤20:=by have:=of_decide_eq_true h2;omega
  repeat refine B7 ?_
  rw [P4 (fun p=>h2 p.2.1)]
  refine B2 A0 rfl rfl ?_
  exact At
 have h2:l.length≤20:=by have:=of_decide_eq_false h2;omega
 repeat refine B7 ?_
 have hwk:=h1.2.1
 obtain ⟨n,hn⟩:∃n:Nat,g.workers=n:=⟨g.workers.toNat,by omega⟩
 refine Bv A0 false [] (fun k:Nat=>[(6,.c (vi k))]) (fun k=>[⟨0,[.c (Br g.nodes),.c (vi g.workers),.c (vi g.cap)]⟩,⟨1,[.c (.val (.slice none 0 0)),.c (vi 0),.c (vi 0),.c (.val (.slice none 0 0)),.c (.val (.slice none 0 0)),.c (.val (.slice none 0 0)),.c (.val (.slice none 0 0))]⟩]) (fun k=>[])
  (fun k=>k≤l.length∧∀i,i<k→InP (l.getD i default)) (fun k=>l.length-k) 0 ⟨Nat.zero_le _,by first|rfl|assumption|simp⟩ ⟨F3,trivial⟩ Cf trivial Cj A7 (fun k hk=>?_)
 obtain ⟨hk,he⟩:=hk
 conv=>whnf
 conv=>whnf
 refine Es (fun h3=>?_) fun h3=>?_<;>conv=>whnf
 ·have h3:k<l.length:=by omega
  (repeat refine Am ?_)
  refine Az (H2 (l.getD k default)) rfl (A8 ?_)
  repeat refine B7 ?_
  refine ⟨fun h4=>?_,fun h4=>?_⟩<;>conv=>whnf
  ·have h4:I6 (l.getD k default)=false:=by simpa using h4
   repeat refine B7 ?_
   rw [P4 (fun p=>absurd (p.2.2 _ (B9 h3)).1 (of_decide_eq_false h4))]
   refine B2 A0 rfl rfl ?_
   exact At
  have h4:H7 (l.getD k default):=of_decide_eq_true (show I6 (l.getD k default)=true by simpa using h4)
  repeat refine B7 ?_
  (repeat refine Am ?_)
  refine ⟨fun h5=>have h5:=bne_iff_ne.1 h5;?_,fun h5=>have h5:=bne_eq_false_iff_eq.1 h5;?_⟩<;>conv=>whnf
  ·have h5:(l.getD k default).op≠0:=h5
   repeat refine B7 ?_
   rw [P4 (fun p=>h5 (p.2.2 _ (B9 h3)).2.1)]
   refine B2 A0 rfl rfl ?_
   exact At
  have h5:(l.getD k default).op=0:=h5
  repeat refine B7 ?_
  (repeat refine Am ?_)
  refine ⟨fun h6=>have h6:=bne_iff_ne.1 h6;?_,fun h6=>have h6:=bne_eq_false_iff_eq.1 h6;?_⟩<;>conv=>whnf
  ·have h6:(l.getD k default).stamp.turn≠0:=h6
   repeat refine B7 ?_
   rw [P4 (fun p=>h6 (p.2.2 _ (B9 h3)).2.2)]
   refine B2 A0 rfl rfl ?_
   exact At
  have h6:(l.getD k default).stamp.turn=0:=h6
  repeat refine B7 ?_
  (repeat refine Am ?_)
  refine B6 [] (k+1) ⟨by omega,fun i hi=>(Nat.lt_succ_iff_lt_or_eq.1 hi).elim (fun h7=>he i h7) (fun h7=>by subst h7;exact ⟨h4,h5,h6⟩)⟩ Ab ⟨rfl,trivial⟩ trivial Cf A7 Cj A7
 have hN:Vz g l:=⟨h1,h2,fun r hr=>by
  obtain ⟨i,hi,rfl⟩:=List.getElem_of_mem hr
  have:=he i Ab
  rw [show l.getD i default=l[i] by simp [List.getD,hi]] at this
  exact this⟩
 rw [Jm hN]
 refine B3v 3 ?_
 refine B5e A0 false (J:=Unit) [49,50,51,52] (fun _=>[(7,.box 2 0)]) (fun _=>[⟨2,[.own 3,.c (vi g.workers),.c (vi g.cap),.c (.val (.slice none 0 0)),.c (.val (.slice none 0 0)),.own 4,.c (.val (.slice none 0 0))]⟩,⟨0,[.c (Br g.nodes),.c (vi g.workers),.c (vi g.cap)]⟩,⟨1,[.c (.val (.slice none 0 0)),.c (vi 0),.c (vi 0),.c (.val (.slice none 0 0)),.c (.val (.slice none 0 0)),.c (.val (.slice none 0 0)),.c (.val (.slice none 0 0))]⟩]) (fun _=>[⟨3,Br g.nodes⟩,⟨4,C9 (List.replicate 4 default)⟩]) (fun _=>True) ?_ (fun _ _=>?_)
 ·conv=>whnf
  refine Fk rfl ?_
  repeat' (first
    |((first|refine A3 [0,2,4] (by decide+kernel) ⟨?_,?_,?_,trivial⟩|refine A3 [1,2,4] (by decide+kernel) ⟨?_,?_,?_,trivial⟩|refine A3 [2,4] (by decide+kernel) ⟨?_,?_,trivial⟩|refine A3 [3,4] (by decide+kernel) ⟨?_,?_,trivial⟩|refine A3 [4] (by decide+kernel) ⟨?_,trivial⟩|refine A3 [5] (by decide+kernel) ⟨?_,trivial⟩|refine A3 [3] (by decide+kernel) ⟨?_,trivial⟩|refine A3 [2] (by decide+kernel) ⟨?_,trivial⟩|refine A3 [1,4] (by decide+kernel) ⟨?_,?_,trivial⟩|refine A3 [1] (by decide+kernel) ⟨?_,trivial⟩|refine A3 [1,2] (by decide+kernel) ⟨?_,?_,trivial⟩|refine A3 [0,4] (by decide+kernel) ⟨?_,?_,trivial⟩|refine A3 [0] (by decide+kernel) ⟨?_,trivial⟩|refine A3 [0,2] (by decide+kernel) ⟨?_,?_,trivial⟩)<;>(refine go A0 false ?_;(conv=>whnf);(first|(refine Cx (L3 g hg) rfl (Jf ?_);(conv=>whnf))|(repeat (refine Gl ?_;(conv=>whnf))));refine A5 ?_))
    |refine Aq (by decide+kernel) (Ms.out ?_))
  all_goals
   refine Ms.mk (A8 ?_)
  all_goals first|exact B6 [(2,5),(3,6),(4,7)] (()) (trivial) (by exact Nat.zero_lt_one) ⟨rfl,trivial⟩ ⟨rfl,Jq,trivial⟩ Cf A7 Cj A7|exact B6 [(2,5),(3,7),(4,6)] (()) (trivial) (by exact Nat.zero_lt_one) ⟨rfl,trivial⟩ ⟨rfl,Jq,trivial⟩ Cf A7 Cj A7|exact B6 [(2,6),(3,5),(4,7)] (()) (trivial) (by exact Nat.zero_lt_one) ⟨rfl,trivial⟩ ⟨rfl,Jq,trivial⟩ Cf A7 Cj A7|exact B6 [(2,6),(3,7),(4,5)] (()) (trivial) (by exact Nat.zero_lt_one) ⟨rfl,trivial⟩ ⟨rfl,Jq,trivial⟩ Cf A7 Cj A7|exact B6 [(2,7),(3,5),(4,6)] (()) (trivial) (by exact Nat.zero_lt_one) ⟨rfl,trivial⟩ ⟨rfl,Jq,trivial⟩ Cf A7 Cj A7|exact B6 [(2,7),(3,6),(4,5)] (()) (trivial) (by exact Nat.zero_lt_one) ⟨rfl,trivial⟩ ⟨rfl,Jq,trivial⟩ Cf A7 Cj A7
 clear he
 refine A00 2 3 8 (fun i=>Ac.c (([]:List Ac).getD i default)) rfl rfl ?_
 refine A00 2 4 6 (fun i=>B8.c (([]:List B8).getD i default)) rfl rfl ?_
 refine Dv 6 (Ct (List.replicate (0 * n) (Gk g.cap))) rfl (by rw [Nat.zero_mul];exact Ds) ?_
 refine Bv A0 false [9,53,54,55,56,57,58,59,60,61,62,63,64,65,66,67,68,69,70,71,72,73,74,75,76,77,78,79,80,81,82,83] (fun k:Nat=>[(8,.c (vi k))]) (fun k=>[⟨2,[.own 3,.c (vi g.workers),.c (vi g.cap),.own 5,.own 6,.own 4,.c (.val (.slice none 0 0))]⟩,⟨0,[.c (Br g.nodes),.c (vi g.workers),.c (vi g.cap)]⟩,⟨1,[.c (.val (.slice none 0 0)),.c (vi 0),.c (vi 0),.c (.val (.slice none 0 0)),.c (.val (.slice none 0 0)),.c (.val (.slice none 0 0)),.c (.val (.slice none 0 0))]⟩]) (fun k=>[⟨3,Br g.nodes⟩,⟨4,C9 (List.replicate 4 default)⟩,⟨5,Ar (E4 g.workers l k)⟩,⟨6,Ct (List.replicate (k * n) (Gk g.cap))⟩])
  (fun k=>k≤n) (fun k=>n-k) 0 (Nat.zero_le _) ⟨F3,trivial⟩ Cf ⟨F2,F2,F2,F2,trivial⟩ Cj A7 (fun k hk=>?_)
 conv=>whnf
 conv=>whnf
 refine Es (fun hlt=>?_) fun hlt=>?_<;>conv=>whnf
 ·have hlt:k<n:=by omega
  have hkl:=Ud g.workers l k
  have hol:=Un g.workers l k 4
  first|(refine B5 8 rfl [0,1,2,3,4,5] A7 (A8 ?_))|(refine B5 12 rfl [0,1,2,3,4,5,6,7,8,9,10] A7 (A8 ?_))|(refine B5 16 rfl [0,1,2,3,4,5,6,7,8] A7 (A8 ?_))
  refine Cx (B3n g l k h2 Ab) rfl (A8 ?_)
  refine Cx (Og (Mt g.workers l k 4) Ab) rfl (A8 ?_)
  refine Ou A0 rfl rfl rfl rfl rfl rfl rfl rfl rfl (A8 ?_)
  refine Av A0 rfl rfl rfl rfl rfl rfl rfl rfl rfl rfl rfl (Ar (E4 g.workers l k++[H3 (Mt g.workers l k 4)])) (Ad rfl) Bj Ab (A8 ?_)
  rw [←X8]
  refine Bv A0 false [69,70,71,72,73,74,75,76,77,78,79,80,81,82] (fun j:Nat=>[(9,.c (vi j))]) (fun j=>[⟨2,[.own 3,.c (vi g.workers),.c (vi g.cap),.own 17,.own 6,.own 4,.c (.val (.slice none 0 0))]⟩,⟨0,[.c (Br g.nodes),.c (vi g.workers),.c (vi g.cap)]⟩,⟨1,[.c (.val (.slice none 0 0)),.c (vi 0),.c (vi 0),.c (.val (.slice none 0 0)),.c (.val (.slice none 0 0)),.c (.val (.slice none 0 0)),.c (.val (.slice none 0 0))]⟩]) (fun j=>[⟨3,Br g.nodes⟩,⟨4,C9 (List.replicate 4 default)⟩,⟨17,Ar (E4 g.workers l (k+1))⟩,⟨6,Ct (List.replicate (k * n+j) (Gk g.cap))⟩])
   (fun j=>j≤n) (fun j=>n-j) 0 (Nat.zero_le _) ⟨F3,trivial⟩ Cf ⟨F2,F2,F2,F2,trivial⟩ Cj A7 (fun j hj=>?_)
  conv=>whnf
  conv=>whnf
  refine Es (fun hlt2=>?_) fun hlt2=>?_<;>conv=>whnf
  ·have hlt2:j<n:=by omega
   have hkn:k * n≤16:=Nat.le_trans (Nat.mul_le_mul (show k≤4 by omega) (show n≤4 by omega)) Aw
   first|(refine B5 8 rfl [0,1,2,3,4,5] A7 (A8 ?_))|(refine B5 12 rfl [0,1,2,3,4,5,6,7,8,9,10] A7 (A8 ?_))|(refine B5 16 rfl [0,1,2,3,4,5,6,7,8] A7 (A8 ?_))
   refine Cx (Sd g.cap) rfl (A8 ?_)
   refine Ou A0 rfl rfl rfl rfl rfl rfl rfl rfl rfl (A8 ?_)
   refine Av A0 rfl rfl rfl rfl rfl rfl rfl rfl rfl rfl rfl (Ct (List.replicate (k * n+j) (Gk g.cap)++[Gk g.cap])) (Ad rfl) Bj (by (rw [List.length_replicate];omega)) (A8 ?_)
   (repeat refine Am ?_)
   refine B6 [(6,20)] (j+1) Ab Ab ⟨rfl,trivial⟩ ⟨rfl,rfl,rfl,congrArg Ct (by rw [show k * n+(j+1)=(k * n+j)+1 by omega,List.replicate_succ']),trivial⟩ Cf A7 Cj A7
  obtain rfl:j=n:=by omega
  (repeat refine Am ?_)
  refine B6 [(5,17)] (k+1) Ab Ab ⟨rfl,trivial⟩ ⟨rfl,rfl,rfl,congrArg (fun m=>Ct (List.replicate m (Gk g.cap))) (by rw [Nat.succ_mul]),trivial⟩ Cf A7 Cj A7
 obtain rfl:k=n:=by omega
 rw [show g.workers.toNat=k by omega]
 (repeat refine Am ?_)
 refine B2 A0 rfl rfl ?_
 exact At
theorem A17 (xs:List A9):(H3 xs).w=xs.length+12:=by simp [Ac.w,H3]
theorem B2t {n:Int}{l:List A9}{k:Nat}(hl:l.length≤20):((E4 n l k).map Ac.w).sum≤k * 92:=by
 induction k with
 |zero=>simp [E4]
 |succ k ih=>
  rw [X8,List.map_append,List.sum_append]
  have h1:=Un n l k 4
  simp only [List.map_cons,List.map_nil,List.sum_cons,List.sum_nil,A17]
  omega
theorem B4o (m:Nat)(n:Int):((List.replicate m (Gk n)).map B8.w).sum=0:=by
 induction m with
 |zero=>rfl
 |succ m ih=>
  rw [List.replicate_succ,List.map_cons,List.sum_cons,ih]
  rfl
theorem B3y {g:Ao}{l:List A9}:(Ca g l).1.w≤g.w+2000:=by
 by_cases h:Vz g l
 ·have hw:=h.1.2.1
  obtain ⟨n,hn⟩:∃n:Nat,g.workers=n:=⟨g.workers.toNat,by omega⟩
  have h1:=B2t (n:=g.workers) (l:=l) (k:=g.workers.toNat) h.2.1
  have h2:=B4o (g.workers.toNat * g.workers.toNat) g.cap
  have h3:=Ud g.workers l g.workers.toNat
  have h4:g.workers.toNat * g.workers.toNat≤16:=Nat.mul_le_mul (show g.workers.toNat≤4 by omega) (show g.workers.toNat≤4 by omega)
  rw [Jm h]
  simp only [A6.w,wS,List.length_replicate,List.length_nil]
  rw [h2,h3]
  have h5:g.workers.toNat≤4:=by omega
  omega
 rw [P4 h]
 show Ns.w≤_
 have:Ns.w=0:=rfl
 omega
end Go.Proofs.YtdendlkeiaccpaaGreat
