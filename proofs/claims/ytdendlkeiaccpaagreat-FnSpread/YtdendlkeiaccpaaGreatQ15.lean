/- Part 15 of the proof that each of the laws FnSpread returns true for every input. No conditions. -/
import Derived.Test.YtdendlkeiaccpaaGreatQ13
import Derived.Test.YtdendlkeiaccpaaGreatQ5
import Derived.Test.YtdendlkeiaccpaaGreatQ14
import Derived.Test.YtdendlkeiaccpaaGreatQ10
import Derived.Test.YtdendlkeiaccpaaGreatQ7
import Derived.Test.YtdendlkeiaccpaaGreatQ8
import Derived.Test.YtdendlkeiaccpaaGreatQ9

set_option linter.unusedSimpArgs false
set_option linter.unusedVariables false
set_option maxRecDepth 100000
namespace Go.Proofs.YtdendlkeiaccpaaGreat
open Go.Sx
def Hn (w f t:Int):Int:=if 0≤min f t∧max f t<w then IntKind.wrap .i64 (IntKind.wrap .i64 (f * w)+t) else-1
theorem Od (g:Ah)(f t:Int)(hg:Gk .i64 g.workers):B3 Tryz.prog 184 [.agg g.c,.one (vi f),.one (vi t)] [.one (vi (Hn g.workers f t))]:=by
 have hw:g.workers≤9223372036854775807:=hg.2;have hw1:1≤g.workers→IntKind.wrap .i64 (g.workers-1)=g.workers-1:=fun h=>Ix (by show _∧_;omega)
 refine Aw A0 true Tryz.func184 rfl B5 fun W=>?_;conv=>whnf
 repeat' (first|(refine L4 ?_;conv=>whnf)|(refine L5 ?_;conv=>whnf)|(refine ⟨fun h=>?_,fun h=>?_⟩<;>conv=>whnf)|(refine As (G9 _ _ _) rfl (go A0 true ?_);conv=>whnf)|(refine Gi ?_;conv=>whnf)|fail)
 all_goals (refine Am A0 rfl rfl ⟨congrArg vi ?_,trivial⟩;simp only [Bool.not_eq_true',Bool.not_eq_false',Go.Sx.Al,Go.Sx.B4,decide_eq_true_eq,decide_eq_false_iff_not] at *;unfold Hn)
 ·by_cases h1:1≤g.workers
  ·have h2:=hw1 h1;rw [if_neg Ad]
  rw [if_neg Ad]
 ·by_cases h1:1≤g.workers
  ·have h2:=hw1 h1;rw [if_neg Ad]
  rw [if_neg Ad]
 ·rw [if_neg Ad]
 have h2:=hw1 Ad;rw [if_pos Ad]
theorem Sv (g:Ah)(f t:Int):B3 Tryz.prog 226 [.agg g.c,.one (vi f),.one (vi t)] [.one (vi (Hn g.workers f t))]:=by
 refine Aw A0 true Tryz.func226 rfl B5 fun W=>?_;conv=>whnf
 repeat' (first|(refine L4 ?_;conv=>whnf)|(refine L5 ?_;conv=>whnf)|(refine ⟨fun h=>?_,fun h=>?_⟩<;>conv=>whnf)|(refine Gi ?_;conv=>whnf)|fail)
 all_goals (refine Am A0 rfl rfl ⟨congrArg vi ?_,trivial⟩;simp only [decide_eq_true_eq,decide_eq_false_iff_not] at *;unfold Hn)
 ·rw [if_neg Ad]
 ·rw [if_neg Ad]
 rw [if_pos Ad]
theorem O2 (key n:Int)(hn:n≤9223372036854775807):B3 Tryz.prog 60 [.one (vi key),.one (vi n)] [.one (vi (Bn key n))]:=by
 refine Aw A0 false Tryz.func60 rfl B5 fun W=>?_;conv=>whnf
 refine Eo (fun h=>?_) fun h=>?_<;>conv=>whnf
 ·exact Am A0 rfl rfl ⟨congrArg vi (by rw [Bn,if_pos h]),trivial⟩
 have h1:=Int.tmod_lt_of_pos key (show 0<n by omega)
 have h2:=Int.lt_tmod_of_pos key (show 0<n by omega)
 (repeat refine Ap ?_);refine Eo (fun h'=>?_) fun h'=>?_<;>conv=>whnf
 ·(repeat refine Ap ?_)
  exact Am A0 rfl rfl ⟨congrArg vi (by rw [Bn,if_neg h,if_pos h']),trivial⟩
 exact Am A0 rfl rfl ⟨congrArg vi (by rw [Bn,if_neg h,if_neg h']),trivial⟩
theorem Nx (key n:Int)(hn:n≤9223372036854775807):B3 Tryz.prog 58 [.one (vi key),.one (vi n)] [.one (vi (Bn key n))]:=by
 refine Aw A0 false Tryz.func58 rfl B5 fun W=>?_;conv=>whnf
 refine Eo (fun h=>?_) fun h=>?_<;>conv=>whnf
 ·exact Am A0 rfl rfl ⟨congrArg vi (by rw [Bn,if_pos h]),trivial⟩
 have h1:=Int.tmod_lt_of_pos key (show 0<n by omega)
 have h2:=Int.lt_tmod_of_pos key (show 0<n by omega)
 (repeat refine Ap ?_);refine Eo (fun h'=>?_) fun h'=>?_<;>conv=>whnf
 ·(repeat refine Ap ?_)
  exact Am A0 rfl rfl ⟨congrArg vi (by rw [Bn,if_neg h,if_pos h']),trivial⟩
 exact Am A0 rfl rfl ⟨congrArg vi (by rw [Bn,if_neg h,if_neg h']),trivial⟩
theorem Yc (n:Int):B3 Tryz.prog 116 [.one (vi n)] [.agg (F2 n).c]:=by
 refine Aw A0 false Tryz.func116 rfl B5 fun W=>?_;conv=>whnf
 refine As (M3 n 1 4) rfl (A7 ?_);refine Am A0 rfl rfl ?_;exact B0
theorem A8i (n:Int):B3 Tryz.prog 109 [.one (vi n)] [.agg (F2 n).c]:=by
 refine Aw A0 false Tryz.func109 rfl B5 fun W=>?_;conv=>whnf
 refine As (Nw n 1 4) rfl (A7 ?_);refine Am A0 rfl rfl ?_;exact B0
theorem A0v {α:Type} [Inhabited α] (x:α)(n i:Nat)(h:x=default):(List.replicate n x).getD i default=x:=by
 simp only [List.getD,List.getElem?_replicate]
 split
 ·rfl
 exact h.symm
theorem B3g:(Ai.sl 4 1 fun _=>[.val (.int .i64 0)])=Bh (List.replicate 4 0):=congrArg (Ai.sl 4 1) (funext fun i=>by rw [A0v (0:Int) 4 i rfl])
theorem V9:(Ai.sl 4 1 fun _=>[.val (.bool false)])=Dw (List.replicate 4 false):=congrArg (Ai.sl 4 1) (funext fun i=>by rw [A0v false 4 i rfl])
theorem H7:(Ai.sl 4 5 fun _=>[.val (.bool false),.val (.int .i64 0),.val (.int .i64 0),.val (.bool false),.val (.bool false)])=Bm (List.replicate 4 default):=congrArg (Ai.sl 4 5) (funext fun i=>by rw [A0v (default:Fs) 4 i rfl];rfl)
def Hr (xs:List Aa):Ab:=⟨[],[],xs,[],List.replicate 4 0,List.replicate 4 false,List.replicate 4 false,[]⟩
set_option maxHeartbeats 1600000 in
theorem Td (xs:List Aa)(hx:xs.length≤16777216):B3 Tryz.prog 114 [.one (Af xs)] [.agg (Hr xs).c]:=by
 refine Aw A0 false Tryz.func114 rfl B5 fun W=>?_;conv=>whnf
 refine Gs rfl ?_
 repeat' (first
   |(first|refine Bt A0 false 1 rfl rfl rfl (by decide+kernel) rfl (A4 Br) ?_|refine Bt A0 false 3 rfl rfl rfl (by decide+kernel) rfl (A4 Br) ?_|refine Bt A0 false 5 rfl rfl rfl (by decide+kernel) rfl (A4 Br) ?_|refine Bt A0 false 7 rfl rfl rfl (by decide+kernel) rfl (A4 Br) ?_)
   |((first|refine A5 [0,4,6,8] (by decide+kernel) ⟨?_,?_,?_,?_,trivial⟩|refine A5 [2,4,6,8] (by decide+kernel) ⟨?_,?_,?_,?_,trivial⟩|refine A5 [4,6,8] (by decide+kernel) ⟨?_,?_,?_,trivial⟩|refine A5 [6,8] (by decide+kernel) ⟨?_,?_,trivial⟩|refine A5 [8] (by decide+kernel) ⟨?_,trivial⟩|refine A5 [9] (by decide+kernel) ⟨?_,trivial⟩|refine A5 [10] (by decide+kernel) ⟨?_,trivial⟩|refine A5 [6] (by decide+kernel) ⟨?_,trivial⟩|refine A5 [4,8] (by decide+kernel) ⟨?_,?_,trivial⟩|refine A5 [4] (by decide+kernel) ⟨?_,trivial⟩|refine A5 [4,6] (by decide+kernel) ⟨?_,?_,trivial⟩|refine A5 [2,6,8] (by decide+kernel) ⟨?_,?_,?_,trivial⟩|refine A5 [2,8] (by decide+kernel) ⟨?_,?_,trivial⟩|refine A5 [2] (by decide+kernel) ⟨?_,trivial⟩|refine A5 [2,6] (by decide+kernel) ⟨?_,?_,trivial⟩|refine A5 [2,4,8] (by decide+kernel) ⟨?_,?_,?_,trivial⟩|refine A5 [2,4] (by decide+kernel) ⟨?_,?_,trivial⟩|refine A5 [2,4,6] (by decide+kernel) ⟨?_,?_,?_,trivial⟩|refine A5 [0,6,8] (by decide+kernel) ⟨?_,?_,?_,trivial⟩|refine A5 [0,8] (by decide+kernel) ⟨?_,?_,trivial⟩|refine A5 [0] (by decide+kernel) ⟨?_,trivial⟩|refine A5 [0,6] (by decide+kernel) ⟨?_,?_,trivial⟩|refine A5 [0,4,8] (by decide+kernel) ⟨?_,?_,?_,trivial⟩|refine A5 [0,4] (by decide+kernel) ⟨?_,?_,trivial⟩|refine A5 [0,4,6] (by decide+kernel) ⟨?_,?_,?_,trivial⟩)<;>(refine go A0 false ?_;(conv=>whnf);(first|(refine Bj A0 rfl rfl rfl rfl rfl rfl rfl rfl rfl rfl rfl (Af xs) (C9) (fun _=>G5 xs) Ad (G3 ?_);(conv=>whnf))|(repeat (refine Gi ?_;(conv=>whnf))));refine Ag ?_))
   |refine Gr (by decide+kernel) (Nf.out ?_))
 all_goals
  refine Nf.mk (A7 ?_)
 all_goals
  refine Am A0 rfl rfl ⟨⟨.inr ⟨rfl,rfl,_,_,rfl⟩,.inr ⟨rfl,rfl,_,_,rfl⟩,?_,.inr ⟨rfl,rfl,_,_,rfl⟩,?_,?_,?_,.inr ⟨rfl,rfl,_,_,rfl⟩,trivial⟩,trivial⟩
  ·exact (rfl:Af xs=Af xs)
  ·exact B3g
  ·exact V9
  exact V9
set_option maxHeartbeats 1600000 in
theorem A25 (xs:List Aa)(hx:xs.length≤16777216):B3 Tryz.prog 108 [.one (Af xs)] [.agg (Hr xs).c]:=by
 refine Aw A0 false Tryz.func108 rfl B5 fun W=>?_;conv=>whnf
 refine Gs rfl ?_
 repeat' (first
   |(first|refine Bt A0 false 0 rfl rfl rfl (by decide+kernel) rfl (A4 Br) ?_)
   |((first|refine A5 [1,2,3,4] (by decide+kernel) ⟨?_,?_,?_,?_,trivial⟩|refine A5 [2,3,4] (by decide+kernel) ⟨?_,?_,?_,trivial⟩|refine A5 [3,4] (by decide+kernel) ⟨?_,?_,trivial⟩|refine A5 [4] (by decide+kernel) ⟨?_,trivial⟩|refine A5 [5] (by decide+kernel) ⟨?_,trivial⟩|refine A5 [6] (by decide+kernel) ⟨?_,trivial⟩|refine A5 [3] (by decide+kernel) ⟨?_,trivial⟩|refine A5 [2,4] (by decide+kernel) ⟨?_,?_,trivial⟩|refine A5 [2] (by decide+kernel) ⟨?_,trivial⟩|refine A5 [2,3] (by decide+kernel) ⟨?_,?_,trivial⟩|refine A5 [1,3,4] (by decide+kernel) ⟨?_,?_,?_,trivial⟩|refine A5 [1,4] (by decide+kernel) ⟨?_,?_,trivial⟩|refine A5 [1] (by decide+kernel) ⟨?_,trivial⟩|refine A5 [1,3] (by decide+kernel) ⟨?_,?_,trivial⟩|refine A5 [1,2,4] (by decide+kernel) ⟨?_,?_,?_,trivial⟩|refine A5 [1,2] (by decide+kernel) ⟨?_,?_,trivial⟩|refine A5 [1,2,3] (by decide+kernel) ⟨?_,?_,?_,trivial⟩)<;>(refine go A0 false ?_;(conv=>whnf);(first|(refine Bd (I9 xs Ad) rfl (G3 ?_);(conv=>whnf))|(repeat (refine Gi ?_;(conv=>whnf))));refine Ag ?_))
   |refine Gr (by decide+kernel) (Nf.out ?_))
 all_goals
  refine Nf.mk (A7 ?_)
 all_goals
  refine Am A0 rfl rfl ⟨⟨.inr ⟨rfl,rfl,_,_,rfl⟩,.inr ⟨rfl,rfl,_,_,rfl⟩,?_,.inr ⟨rfl,rfl,_,_,rfl⟩,?_,?_,?_,.inr ⟨rfl,rfl,_,_,rfl⟩,trivial⟩,trivial⟩
  ·exact (rfl:Af xs=Af xs)
  ·exact B3g
  ·exact V9
  exact V9
def N8 (n:Int) (l:List Aa) (w:Int) (k:Nat):List Aa:=(List.range k).flatMap fun (e:Nat)=>(Cz l e).filter fun r=>Bn r.key n==w
theorem X5 (n:Int)(l:List Aa)(w:Int)(k:Nat):N8 n l w (k+1)=N8 n l w k++(Cz l k).filter fun r=>Bn r.key n==w:=by
 rw [N8,List.range_succ,List.flatMap_append]
 simp [N8]
theorem Rg (n:Int)(l:List Aa)(w:Int)(k:Nat):(N8 n l w k).length≤k * l.length:=by
 induction k with
 |zero=>simp [N8]
 |succ k ih=>
  rw [X5,List.length_append,Nat.succ_mul];have h1:=List.length_filter_le (fun r:Aa=>Bn r.key n==w) (Cz l k);have h2:=Ld l k;omega
def oP (n:Int) (w:Int) (e:Nat) (r:Aa):Bool:=(r.stamp.epoch==(e:Int))&&(Bn r.key n==w)
theorem B5l (n:Int)(l:List Aa)(w:Int)(e:Nat):l.filter (oP n w e)=(Cz l e).filter fun r=>Bn r.key n==w:=by
 show _=List.filter _ (List.filter _ l)
 rw [List.filter_filter]
 congr 1
 funext r
 rw [oP,Bool.and_comm]
set_option maxHeartbeats 1600000 in
theorem C2t (g:Ah)(l:List Aa)(w:Int)(hl:l.length≤20)(hg:g.workers≤4):B3 Tryz.prog 115 [.agg g.c,.one (Af l),.one (vi w)] [.one (Af (N8 g.workers l w 4))]:=by
 refine Aw A0 false Tryz.func115 rfl B5 fun W=>?_;conv=>whnf
 refine Es 1 (Af []) rfl Cq ?_
 refine Bk A0 false [9,10] (fun k:Nat=>[(8,.c (vi k))]) (fun k=>[⟨0,[.c (Bg g.nodes),.c (vi g.workers),.c (vi g.cap)]⟩]) (fun k=>[⟨1,Af (N8 g.workers l w k)⟩])
  (fun k=>k≤4) (fun k=>4-k) 0 (Nat.zero_le _) ⟨F0,trivial⟩ C2 ⟨Dm,trivial⟩ C1 A6 (fun k hk=>?_)
 conv=>whnf
 refine ⟨fun h=>?_,fun h=>?_⟩<;>conv=>whnf
 ·have h:k<4:=by have:=of_decide_eq_true h;omega
  have hk1:=Rg g.workers l w k;have hk2:k * l.length≤80:=Nat.le_trans (Nat.mul_le_mul (show k≤4 by omega) hl) B5
  refine Bk A0 false [] (fun j:Nat=>[(9,.c (vi j))]) (fun j=>[⟨0,[.c (Bg g.nodes),.c (vi g.workers),.c (vi g.cap)]⟩]) (fun j=>[⟨1,Af (N8 g.workers l w k++(l.take j).filter (oP g.workers w k))⟩])
   (fun j=>j≤l.length) (fun j=>l.length-j) 0 (Nat.zero_le _) ⟨F0,trivial⟩ C2 ⟨Dm,trivial⟩ C1 A6 (fun j hj=>?_)
  conv=>whnf
  conv=>whnf
  refine Eo (fun h2=>?_) fun h2=>?_<;>conv=>whnf
  ·have h2:j<l.length:=by omega
   have hs:=E4 (oP g.workers w k) l j h2;have hb:=Dd (oP g.workers w k) l j
   first|(refine Ax 8 rfl [0,1,2,3,4,5,6,7,8,9,10,11,12,13,14,15,17,16,18,19] A6 (A7 ?_))
   (repeat refine Ap ?_);refine ⟨fun h3=>?_,fun h3=>?_⟩<;>conv=>whnf
   ·rw [Int.toNat_natCast] at h3
    repeat refine B2 ?_
    refine As (O2 (l.getD j default).key g.workers Ad) rfl (A7 ?_)
    repeat refine B2 ?_
    refine ⟨fun h4=>?_,fun h4=>?_⟩<;>conv=>whnf
    ·have h5:oP g.workers w k (l.getD j default)=true:=by rw [oP,h3,h4];rfl
     (repeat refine Ap ?_);refine Bj A0 rfl rfl rfl rfl rfl rfl rfl rfl rfl rfl rfl (Af (N8 g.workers l w k++(l.take j).filter (oP g.workers w k)++[l.getD j default])) (An rfl) C6 (by (rw [List.length_append];omega)) (A7 ?_);(repeat refine Ap ?_);refine Az [(1,3)] (j+1) Ad Ad ⟨rfl,trivial⟩ ⟨congrArg Af (by rw [hs,if_pos h5,List.append_assoc]),trivial⟩ C2 A6 C1 A6
    have h5:oP g.workers w k (l.getD j default)=false:=by rw [oP,h4,Bool.and_false]
    repeat refine B2 ?_
    refine Az [] (j+1) Ad Ad ⟨rfl,trivial⟩ ⟨congrArg Af (by rw [hs,if_neg (by rw [h5];decide),List.append_nil]),trivial⟩ C2 A6 C1 A6
   rw [Int.toNat_natCast] at h3;have h5:oP g.workers w k (l.getD j default)=false:=by rw [oP,h3,Bool.false_and]
   repeat refine B2 ?_
   refine Az [] (j+1) Ad Ad ⟨rfl,trivial⟩ ⟨congrArg Af (by rw [hs,if_neg (by rw [h5];decide),List.append_nil]),trivial⟩ C2 A6 C1 A6
  (repeat refine Ap ?_);refine Az [] (k+1) Ad Ad ⟨rfl,trivial⟩ ⟨congrArg Af (by rw [X5,←B5l,List.take_of_length_le Ad]),trivial⟩ C2 A6 C1 A6
 have h:¬ k<4:=by have:=of_decide_eq_false h;omega
 obtain rfl:k=4:=by omega
 refine Am A0 rfl rfl ?_;exact B0
def InP (r:Aa):Prop:=H2 r∧r.op=0∧r.stamp.turn=0
theorem J8 {g:Ah}{l:List Aa}(h:¬ L3 g l):Aj g l=(Sb,false):=if_neg h
theorem J3 {g:Ah}{l:List Aa}(h:L3 g l):Aj g l=(⟨g,Du g.workers l g.workers.toNat,List.replicate (g.workers.toNat * g.workers.toNat) (F2 g.cap),List.replicate 4 default,[]⟩,true):=if_pos h
theorem Wz (n:Int)(l:List Aa)(k:Nat):Du n l (k+1)=Du n l k++[Hr (N8 n l k 4)]:=by
 rw [Du,List.range_succ,List.map_append];rfl
theorem Re (n:Int)(l:List Aa)(k:Nat):(Du n l k).length=k:=by rw [Du,List.length_map,List.length_range]
set_option maxHeartbeats 8000000 in
theorem Rv (g:Ah)(l:List Aa)(hg:g.w≤16777216)(hl:l.length≤16777216):B3 Tryz.prog 84 [.agg g.c,.one (Af l)] [.agg (Aj g l).1.c,.one (vb (Aj g l).2)]:=by
 refine Aw A0 false Tryz.func84 rfl B5 fun W=>?_;conv=>whnf
 refine As (Iw g Ad) rfl (A7 ?_);refine ⟨fun h1=>?_,fun h1=>?_⟩<;>conv=>whnf
 ·have h1:F1 g=false:=by simpa using h1
  repeat refine B2 ?_
  rw [J8 (fun p=>absurd p.1 (of_decide_eq_false h1))];refine Am A0 rfl rfl ?_;exact B0
 have h1:Ea g:=of_decide_eq_true (show F1 g=true by simpa using h1)
 repeat refine B2 ?_
 refine ⟨fun h2=>?_,fun h2=>?_⟩<;>conv=>whnf
 ·have h2:¬ l.length≤20:=by have:=of_decide_eq_true h2;omega
  repeat refine B2 ?_
  rw [J8 (fun p=>h2 p.2.1)];refine Am A0 rfl rfl ?_;exact B0
 have h2:l.length≤20:=by have:=of_decide_eq_false h2;omega
 repeat refine B2 ?_
 have hwk:=h1.2.1;obtain ⟨n,hn⟩:∃n:Nat,g.workers=n:=⟨g.workers.toNat,by omega⟩
 refine Bk A0 false [] (fun k:Nat=>[(6,.c (vi k))]) (fun k=>[⟨0,[.c (Bg g.nodes),.c (vi g.workers),.c (vi g.cap)]⟩,⟨1,[.c (.val (.slice none 0 0)),.c (vi 0),.c (vi 0),.c (.val (.slice none 0 0)),.c (.val (.slice none 0 0)),.c (.val (.slice none 0 0)),.c (.val (.slice none 0 0))]⟩]) (fun k=>[])
  (fun k=>k≤l.length∧∀i,i<k→InP (l.getD i default)) (fun k=>l.length-k) 0 ⟨Nat.zero_le _,by first|rfl|assumption|simp⟩ ⟨F0,trivial⟩ C2 trivial C1 A6 (fun k hk=>?_)
 obtain ⟨hk,he⟩:=hk;conv=>whnf
 conv=>whnf
 refine Eo (fun h3=>?_) fun h3=>?_<;>conv=>whnf
 ·have h3:k<l.length:=by omega
  (repeat refine Ap ?_);refine As (I1 (l.getD k default)) rfl (A7 ?_)
  repeat refine B2 ?_
  refine ⟨fun h4=>?_,fun h4=>?_⟩<;>conv=>whnf
  ·have h4:Ev (l.getD k default)=false:=by simpa using h4
   repeat refine B2 ?_
   rw [J8 (fun p=>absurd (p.2.2 _ (At h3)).1 (of_decide_eq_false h4))];refine Am A0 rfl rfl ?_;exact B0
  have h4:H2 (l.getD k default):=of_decide_eq_true (show Ev (l.getD k default)=true by simpa using h4)
  repeat refine B2 ?_
  refine ⟨fun h5=>have h5:=bne_iff_ne.1 h5;?_,fun h5=>have h5:=bne_eq_false_iff_eq.1 h5;?_⟩<;>conv=>whnf
  ·have h5:(l.getD k default).op≠0:=h5
   repeat refine B2 ?_
   rw [J8 (fun p=>h5 (p.2.2 _ (At h3)).2.1)];refine Am A0 rfl rfl ?_;exact B0
  have h5:(l.getD k default).op=0:=h5
  repeat refine B2 ?_
  refine ⟨fun h6=>have h6:=bne_iff_ne.1 h6;?_,fun h6=>have h6:=bne_eq_false_iff_eq.1 h6;?_⟩<;>conv=>whnf
  ·have h6:(l.getD k default).stamp.turn≠0:=h6
   repeat refine B2 ?_
   rw [J8 (fun p=>h6 (p.2.2 _ (At h3)).2.2)];refine Am A0 rfl rfl ?_;exact B0
  have h6:(l.getD k default).stamp.turn=0:=h6
  repeat refine B2 ?_
  refine Az [] (k+1) ⟨by omega,fun i hi=>(Nat.lt_succ_iff_lt_or_eq.1 hi).elim (fun h7=>he i h7) (fun h7=>by subst h7;exact ⟨h4,h5,h6⟩)⟩ Ad ⟨rfl,trivial⟩ trivial C2 A6 C1 A6
 have hN:L3 g l:=⟨h1,h2,fun r hr=>by
  obtain ⟨i,hi,rfl⟩:=List.getElem_of_mem hr
  have:=he i Ad
  rw [show l.getD i default=l[i] by simp [List.getD,hi]] at this
  exact this⟩
 rw [J3 hN];refine B2v 3 ?_;refine C05 A0 false (J:=Unit) [49,50,51,52] (fun _=>[(7,.box 2 0)]) (fun _=>[⟨2,[.own 3,.c (vi g.workers),.c (vi g.cap),.c (.val (.slice none 0 0)),.c (.val (.slice none 0 0)),.own 4,.c (.val (.slice none 0 0))]⟩,⟨0,[.c (Bg g.nodes),.c (vi g.workers),.c (vi g.cap)]⟩,⟨1,[.c (.val (.slice none 0 0)),.c (vi 0),.c (vi 0),.c (.val (.slice none 0 0)),.c (.val (.slice none 0 0)),.c (.val (.slice none 0 0)),.c (.val (.slice none 0 0))]⟩]) (fun _=>[⟨3,Bg g.nodes⟩,⟨4,Bm (List.replicate 4 default)⟩]) (fun _=>True) ?_ (fun _ _=>?_)
 ·conv=>whnf
  refine Gs rfl ?_
  repeat' (first
    |((first|refine A5 [0,2,4] (by decide+kernel) ⟨?_,?_,?_,trivial⟩|refine A5 [1,2,4] (by decide+kernel) ⟨?_,?_,?_,trivial⟩|refine A5 [2,4] (by decide+kernel) ⟨?_,?_,trivial⟩|refine A5 [3,4] (by decide+kernel) ⟨?_,?_,trivial⟩|refine A5 [4] (by decide+kernel) ⟨?_,trivial⟩|refine A5 [5] (by decide+kernel) ⟨?_,trivial⟩|refine A5 [3] (by decide+kernel) ⟨?_,trivial⟩|refine A5 [2] (by decide+kernel) ⟨?_,trivial⟩|refine A5 [1,4] (by decide+kernel) ⟨?_,?_,trivial⟩|refine A5 [1] (by decide+kernel) ⟨?_,trivial⟩|refine A5 [1,2] (by decide+kernel) ⟨?_,?_,trivial⟩|refine A5 [0,4] (by decide+kernel) ⟨?_,?_,trivial⟩|refine A5 [0] (by decide+kernel) ⟨?_,trivial⟩|refine A5 [0,2] (by decide+kernel) ⟨?_,?_,trivial⟩)<;>(refine go A0 false ?_;(conv=>whnf);(first|(refine Bd (Jk g hg) rfl (G3 ?_);(conv=>whnf))|(repeat (refine Gi ?_;(conv=>whnf))));refine Ag ?_))
    |refine Gr (by decide+kernel) (Nf.out ?_))
  all_goals
   refine Nf.mk (A7 ?_)
  all_goals first|exact Az [(2,5),(3,6),(4,7)] (()) (trivial) Ng ⟨rfl,trivial⟩ ⟨rfl,H7,trivial⟩ C2 A6 C1 A6|exact Az [(2,5),(3,7),(4,6)] (()) (trivial) Ng ⟨rfl,trivial⟩ ⟨rfl,H7,trivial⟩ C2 A6 C1 A6|exact Az [(2,6),(3,5),(4,7)] (()) (trivial) Ng ⟨rfl,trivial⟩ ⟨rfl,H7,trivial⟩ C2 A6 C1 A6|exact Az [(2,6),(3,7),(4,5)] (()) (trivial) Ng ⟨rfl,trivial⟩ ⟨rfl,H7,trivial⟩ C2 A6 C1 A6|exact Az [(2,7),(3,5),(4,6)] (()) (trivial) Ng ⟨rfl,trivial⟩ ⟨rfl,H7,trivial⟩ C2 A6 C1 A6|exact Az [(2,7),(3,6),(4,5)] (()) (trivial) Ng ⟨rfl,trivial⟩ ⟨rfl,H7,trivial⟩ C2 A6 C1 A6
 clear he
 refine X1 2 3 8 (fun i=>Ab.c (([]:List Ab).getD i default)) rfl rfl ?_;refine X1 2 4 6 (fun i=>Ca.c (([]:List Ca).getD i default)) rfl rfl ?_;refine Es 6 (C4 (List.replicate (0 * n) (F2 g.cap))) rfl (by rw [Nat.zero_mul];exact Cq) ?_
 refine Bk A0 false [9,53,54,55,56,57,58,59,60,61,62,63,64,65,66,67,68,69,70,71,72,73,74,75,76,77,78,79,80,81,82,83] (fun k:Nat=>[(8,.c (vi k))]) (fun k=>[⟨2,[.own 3,.c (vi g.workers),.c (vi g.cap),.own 5,.own 6,.own 4,.c (.val (.slice none 0 0))]⟩,⟨0,[.c (Bg g.nodes),.c (vi g.workers),.c (vi g.cap)]⟩,⟨1,[.c (.val (.slice none 0 0)),.c (vi 0),.c (vi 0),.c (.val (.slice none 0 0)),.c (.val (.slice none 0 0)),.c (.val (.slice none 0 0)),.c (.val (.slice none 0 0))]⟩]) (fun k=>[⟨3,Bg g.nodes⟩,⟨4,Bm (List.replicate 4 default)⟩,⟨5,Ar (Du g.workers l k)⟩,⟨6,C4 (List.replicate (k * n) (F2 g.cap))⟩])
  (fun k=>k≤n) (fun k=>n-k) 0 (Nat.zero_le _) ⟨F0,trivial⟩ C2 ⟨Dm,Dm,Dm,Dm,trivial⟩ C1 A6 (fun k hk=>?_)
 conv=>whnf
 conv=>whnf
 refine Eo (fun hlt=>?_) fun hlt=>?_<;>conv=>whnf
 ·have hlt:k<n:=by omega
  have hkl:=Re g.workers l k;have hol:=Rg g.workers l k 4
  first|(refine Ax 8 rfl [0,1,2,3,4,5] A6 (A7 ?_))|(refine Ax 12 rfl [0,1,2,3,4,5,6,7,8,9,10] A6 (A7 ?_))|(refine Ax 16 rfl [0,1,2,3,4,5,6,7,8] A6 (A7 ?_))
  refine Bd (C2t g l k h2 Ad) rfl (A7 ?_);refine Bd (Td (N8 g.workers l k 4) Ad) rfl (A7 ?_);refine Kg A0 rfl rfl rfl rfl rfl rfl rfl rfl rfl (A7 ?_);refine Bj A0 rfl rfl rfl rfl rfl rfl rfl rfl rfl rfl rfl (Ar (Du g.workers l k++[Hr (N8 g.workers l k 4)])) (An rfl) C6 Ad (A7 ?_);rw [←Wz]
  refine Bk A0 false [69,70,71,72,73,74,75,76,77,78,79,80,81,82] (fun j:Nat=>[(9,.c (vi j))]) (fun j=>[⟨2,[.own 3,.c (vi g.workers),.c (vi g.cap),.own 17,.own 6,.own 4,.c (.val (.slice none 0 0))]⟩,⟨0,[.c (Bg g.nodes),.c (vi g.workers),.c (vi g.cap)]⟩,⟨1,[.c (.val (.slice none 0 0)),.c (vi 0),.c (vi 0),.c (.val (.slice none 0 0)),.c (.val (.slice none 0 0)),.c (.val (.slice none 0 0)),.c (.val (.slice none 0 0))]⟩]) (fun j=>[⟨3,Bg g.nodes⟩,⟨4,Bm (List.replicate 4 default)⟩,⟨17,Ar (Du g.workers l (k+1))⟩,⟨6,C4 (List.replicate (k * n+j) (F2 g.cap))⟩])
   (fun j=>j≤n) (fun j=>n-j) 0 (Nat.zero_le _) ⟨F0,trivial⟩ C2 ⟨Dm,Dm,Dm,Dm,trivial⟩ C1 A6 (fun j hj=>?_)
  conv=>whnf
  conv=>whnf
  refine Eo (fun hlt2=>?_) fun hlt2=>?_<;>conv=>whnf
  ·have hlt2:j<n:=by omega
   have hkn:k * n≤16:=Nat.le_trans (Nat.mul_le_mul (show k≤4 by omega) (show n≤4 by omega)) B5
   first|(refine Ax 8 rfl [0,1,2,3,4,5] A6 (A7 ?_))|(refine Ax 12 rfl [0,1,2,3,4,5,6,7,8,9,10] A6 (A7 ?_))|(refine Ax 16 rfl [0,1,2,3,4,5,6,7,8] A6 (A7 ?_))
   refine Bd (Yc g.cap) rfl (A7 ?_);refine Kg A0 rfl rfl rfl rfl rfl rfl rfl rfl rfl (A7 ?_);refine Bj A0 rfl rfl rfl rfl rfl rfl rfl rfl rfl rfl rfl (C4 (List.replicate (k * n+j) (F2 g.cap)++[F2 g.cap])) (An rfl) C6 (by (rw [List.length_replicate];omega)) (A7 ?_);(repeat refine Ap ?_);refine Az [(6,20)] (j+1) Ad Ad ⟨rfl,trivial⟩ ⟨rfl,rfl,rfl,congrArg C4 (by rw [show k * n+(j+1)=(k * n+j)+1 by omega,List.replicate_succ']),trivial⟩ C2 A6 C1 A6
  obtain rfl:j=n:=by omega
  (repeat refine Ap ?_);refine Az [(5,17)] (k+1) Ad Ad ⟨rfl,trivial⟩ ⟨rfl,rfl,rfl,congrArg (fun m=>C4 (List.replicate m (F2 g.cap))) (by rw [Nat.succ_mul]),trivial⟩ C2 A6 C1 A6
 obtain rfl:k=n:=by omega
 rw [show g.workers.toNat=k by omega]
 (repeat refine Ap ?_);refine Am A0 rfl rfl ?_;exact B0
set_option maxHeartbeats 8000000 in
theorem A0y (g:Ah)(l:List Aa)(hg:g.w≤16777216)(hl:l.length≤16777216):B3 Tryz.prog 80 [.agg g.c,.one (Af l)] [.agg (Aj g l).1.c,.one (vb (Aj g l).2)]:=by
 refine Aw A0 false Tryz.func80 rfl B5 fun W=>?_;conv=>whnf
 refine As (K0 g Ad) rfl (A7 ?_);refine ⟨fun h1=>?_,fun h1=>?_⟩<;>conv=>whnf
 ·have h1:F1 g=false:=by simpa using h1
  repeat refine B2 ?_
  rw [J8 (fun p=>absurd p.1 (of_decide_eq_false h1))];refine Am A0 rfl rfl ?_;exact B0
 have h1:Ea g:=of_decide_eq_true (show F1 g=true by simpa using h1)
 repeat refine B2 ?_
 refine ⟨fun h2=>?_,fun h2=>?_⟩<;>conv=>whnf
 ·have h2:¬ l.length≤20:=by have:=of_decide_eq_true h2;omega
  repeat refine B2 ?_
  rw [J8 (fun p=>h2 p.2.1)];refine Am A0 rfl rfl ?_;exact B0
 have h2:l.length≤20:=by have:=of_decide_eq_false h2;omega
 repeat refine B2 ?_
 have hwk:=h1.2.1;obtain ⟨n,hn⟩:∃n:Nat,g.workers=n:=⟨g.workers.toNat,by omega⟩
 refine Bk A0 false [] (fun k:Nat=>[(26,.c (vi k))]) (fun k=>[⟨0,[.c (Bg g.nodes),.c (vi g.workers),.c (vi g.cap)]⟩,⟨1,[.c (.val (.slice none 0 0)),.c (vi 0),.c (vi 0),.c (.val (.slice none 0 0)),.c (.val (.slice none 0 0)),.c (.val (.slice none 0 0)),.c (.val (.slice none 0 0))]⟩]) (fun k=>[])
  (fun k=>k≤l.length∧∀i,i<k→InP (l.getD i default)) (fun k=>l.length-k) 0 ⟨Nat.zero_le _,by first|rfl|assumption|simp⟩ ⟨F0,trivial⟩ C2 trivial C1 A6 (fun k hk=>?_)
 obtain ⟨hk,he⟩:=hk;conv=>whnf
 conv=>whnf
 refine Eo (fun h3=>?_) fun h3=>?_<;>conv=>whnf
 ·have h3:k<l.length:=by omega
  (repeat refine Ap ?_);refine As (J0 (l.getD k default)) rfl (A7 ?_)
  repeat refine B2 ?_
  refine ⟨fun h4=>?_,fun h4=>?_⟩<;>conv=>whnf
  ·have h4:Ev (l.getD k default)=false:=by simpa using h4
   repeat refine B2 ?_
   rw [J8 (fun p=>absurd (p.2.2 _ (At h3)).1 (of_decide_eq_false h4))];refine Am A0 rfl rfl ?_;exact B0
  have h4:H2 (l.getD k default):=of_decide_eq_true (show Ev (l.getD k default)=true by simpa using h4)
  repeat refine B2 ?_
  refine ⟨fun h5=>have h5:=bne_iff_ne.1 h5;?_,fun h5=>have h5:=bne_eq_false_iff_eq.1 h5;?_⟩<;>conv=>whnf
  ·have h5:(l.getD k default).op≠0:=h5
   repeat refine B2 ?_
   rw [J8 (fun p=>h5 (p.2.2 _ (At h3)).2.1)];refine Am A0 rfl rfl ?_;exact B0
  have h5:(l.getD k default).op=0:=h5
  repeat refine B2 ?_
  refine ⟨fun h6=>have h6:=bne_iff_ne.1 h6;?_,fun h6=>have h6:=bne_eq_false_iff_eq.1 h6;?_⟩<;>conv=>whnf
  ·have h6:(l.getD k default).stamp.turn≠0:=h6
   repeat refine B2 ?_
   rw [J8 (fun p=>h6 (p.2.2 _ (At h3)).2.2)];refine Am A0 rfl rfl ?_;exact B0
  have h6:(l.getD k default).stamp.turn=0:=h6
  repeat refine B2 ?_
  refine Az [] (k+1) ⟨by omega,fun i hi=>(Nat.lt_succ_iff_lt_or_eq.1 hi).elim (fun h7=>he i h7) (fun h7=>by subst h7;exact ⟨h4,h5,h6⟩)⟩ Ad ⟨rfl,trivial⟩ trivial C2 A6 C1 A6
 have hN:L3 g l:=⟨h1,h2,fun r hr=>by
  obtain ⟨i,hi,rfl⟩:=List.getElem_of_mem hr
  have:=he i Ad
  rw [show l.getD i default=l[i] by simp [List.getD,hi]] at this
  exact this⟩
 rw [J3 hN];refine B2v 3 ?_;refine C05 A0 false (J:=Unit) [46,47,48,49] (fun _=>[(8,.box 2 0)]) (fun _=>[⟨2,[.own 3,.c (vi g.workers),.c (vi g.cap),.c (.val (.slice none 0 0)),.c (.val (.slice none 0 0)),.own 4,.c (.val (.slice none 0 0))]⟩,⟨0,[.c (Bg g.nodes),.c (vi g.workers),.c (vi g.cap)]⟩,⟨1,[.c (.val (.slice none 0 0)),.c (vi 0),.c (vi 0),.c (.val (.slice none 0 0)),.c (.val (.slice none 0 0)),.c (.val (.slice none 0 0)),.c (.val (.slice none 0 0))]⟩]) (fun _=>[⟨3,Bg g.nodes⟩,⟨4,Bm (List.replicate 4 default)⟩]) (fun _=>True) ?_ (fun _ _=>?_)
 ·conv=>whnf
  refine Gs rfl ?_
  repeat' (first
    |((first|refine A5 [0,2,4] (by decide+kernel) ⟨?_,?_,?_,trivial⟩|refine A5 [1,2,4] (by decide+kernel) ⟨?_,?_,?_,trivial⟩|refine A5 [2,4] (by decide+kernel) ⟨?_,?_,trivial⟩|refine A5 [3,4] (by decide+kernel) ⟨?_,?_,trivial⟩|refine A5 [4] (by decide+kernel) ⟨?_,trivial⟩|refine A5 [5] (by decide+kernel) ⟨?_,trivial⟩|refine A5 [3] (by decide+kernel) ⟨?_,trivial⟩|refine A5 [2] (by decide+kernel) ⟨?_,trivial⟩|refine A5 [1,4] (by decide+kernel) ⟨?_,?_,trivial⟩|refine A5 [1] (by decide+kernel) ⟨?_,trivial⟩|refine A5 [1,2] (by decide+kernel) ⟨?_,?_,trivial⟩|refine A5 [0,4] (by decide+kernel) ⟨?_,?_,trivial⟩|refine A5 [0] (by decide+kernel) ⟨?_,trivial⟩|refine A5 [0,2] (by decide+kernel) ⟨?_,?_,trivial⟩)<;>(refine go A0 false ?_;(conv=>whnf);(first|(refine Bd (Je g hg) rfl (G3 ?_);(conv=>whnf))|(repeat (refine Gi ?_;(conv=>whnf))));refine Ag ?_))
    |refine Gr (by decide+kernel) (Nf.out ?_))
  all_goals
   refine Nf.mk (A7 ?_)
  all_goals first|exact Az [(2,5),(3,6),(4,7)] (()) (trivial) Ng ⟨rfl,trivial⟩ ⟨rfl,H7,trivial⟩ C2 A6 C1 A6|exact Az [(2,5),(3,7),(4,6)] (()) (trivial) Ng ⟨rfl,trivial⟩ ⟨rfl,H7,trivial⟩ C2 A6 C1 A6|exact Az [(2,6),(3,5),(4,7)] (()) (trivial) Ng ⟨rfl,trivial⟩ ⟨rfl,H7,trivial⟩ C2 A6 C1 A6|exact Az [(2,6),(3,7),(4,5)] (()) (trivial) Ng ⟨rfl,trivial⟩ ⟨rfl,H7,trivial⟩ C2 A6 C1 A6|exact Az [(2,7),(3,5),(4,6)] (()) (trivial) Ng ⟨rfl,trivial⟩ ⟨rfl,H7,trivial⟩ C2 A6 C1 A6|exact Az [(2,7),(3,6),(4,5)] (()) (trivial) Ng ⟨rfl,trivial⟩ ⟨rfl,H7,trivial⟩ C2 A6 C1 A6
 clear he
 refine X1 2 3 8 (fun i=>Ab.c (([]:List Ab).getD i default)) rfl rfl ?_;refine X1 2 4 6 (fun i=>Ca.c (([]:List Ca).getD i default)) rfl rfl ?_;refine Es 6 (C4 (List.replicate (0 * n) (F2 g.cap))) rfl (by rw [Nat.zero_mul];exact Cq) ?_
 refine Bk A0 false [10,11,12,13,14,50,51,52,53,54,55,56,57,58,59,60,61,62,63,64,65,66,67,68,69,70,71,72,73,74,75,76,77,78,79,80,81,82,83,84,85,86,87,88,89,90,91,92,93,94,95,96,97,98,99,100] (fun k:Nat=>[(9,.c (vi k))]) (fun k=>[⟨2,[.own 3,.c (vi g.workers),.c (vi g.cap),.own 5,.own 6,.own 4,.c (.val (.slice none 0 0))]⟩,⟨0,[.c (Bg g.nodes),.c (vi g.workers),.c (vi g.cap)]⟩,⟨1,[.c (.val (.slice none 0 0)),.c (vi 0),.c (vi 0),.c (.val (.slice none 0 0)),.c (.val (.slice none 0 0)),.c (.val (.slice none 0 0)),.c (.val (.slice none 0 0))]⟩]) (fun k=>[⟨3,Bg g.nodes⟩,⟨4,Bm (List.replicate 4 default)⟩,⟨5,Ar (Du g.workers l k)⟩,⟨6,C4 (List.replicate (k * n) (F2 g.cap))⟩])
  (fun k=>k≤n) (fun k=>n-k) 0 (Nat.zero_le _) ⟨F0,trivial⟩ C2 ⟨Dm,Dm,Dm,Dm,trivial⟩ C1 A6 (fun k hk=>?_)
 conv=>whnf
 conv=>whnf
 refine Eo (fun hlt=>?_) fun hlt=>?_<;>conv=>whnf
 ·have hlt:k<n:=by omega
  have hkl:=Re g.workers l k;have hol:=Rg g.workers l k 4;refine Yl 10 5 (fun i=>Aa.c (([]:List Aa).getD i default)) rfl ?_
  refine Bk A0 false [] (fun e:Nat=>[(11,.c (vi e))]) (fun e=>[⟨2,[.own 3,.c (vi g.workers),.c (vi g.cap),.own 5,.own 6,.own 4,.c (.val (.slice none 0 0))]⟩,⟨0,[.c (Bg g.nodes),.c (vi g.workers),.c (vi g.cap)]⟩,⟨1,[.c (.val (.slice none 0 0)),.c (vi 0),.c (vi 0),.c (.val (.slice none 0 0)),.c (.val (.slice none 0 0)),.c (.val (.slice none 0 0)),.c (.val (.slice none 0 0))]⟩]) (fun e=>[⟨3,Bg g.nodes⟩,⟨4,Bm (List.replicate 4 default)⟩,⟨5,Ar (Du g.workers l k)⟩,⟨6,C4 (List.replicate (k * n) (F2 g.cap))⟩,⟨7,Af (N8 g.workers l k e)⟩])
   (fun e=>e≤4) (fun e=>4-e) 0 (Nat.zero_le _) ⟨F0,trivial⟩ C2 ⟨Dm,Dm,Dm,Dm,Dm,trivial⟩ C1 A6 (fun e he=>?_)
  conv=>whnf
  conv=>whnf
  refine ⟨fun hE=>?_,fun hE=>?_⟩<;>conv=>whnf
  ·have hE:e<4:=by have:=of_decide_eq_true hE;omega
   have hk1:=Rg g.workers l k e;have hk2:e * l.length≤80:=Nat.le_trans (Nat.mul_le_mul (show e≤4 by omega) h2) B5
   have hel:=Ld l e;refine Bd (R7 l e Ad) rfl (A7 ?_)
   refine Bk A0 false [] (fun j:Nat=>[(64,.c (vi j))]) (fun j=>[⟨2,[.own 3,.c (vi g.workers),.c (vi g.cap),.own 5,.own 6,.own 4,.c (.val (.slice none 0 0))]⟩,⟨0,[.c (Bg g.nodes),.c (vi g.workers),.c (vi g.cap)]⟩,⟨1,[.c (.val (.slice none 0 0)),.c (vi 0),.c (vi 0),.c (.val (.slice none 0 0)),.c (.val (.slice none 0 0)),.c (.val (.slice none 0 0)),.c (.val (.slice none 0 0))]⟩]) (fun j=>[⟨3,Bg g.nodes⟩,⟨4,Bm (List.replicate 4 default)⟩,⟨5,Ar (Du g.workers l k)⟩,⟨6,C4 (List.replicate (k * n) (F2 g.cap))⟩,⟨8,Af (Cz l e)⟩,⟨7,Af (N8 g.workers l k e++((Cz l e).take j).filter (fun r=>Bn r.key g.workers==k))⟩])
    (fun j=>j≤(Cz l e).length) (fun j=>(Cz l e).length-j) 0 (Nat.zero_le _) ⟨F0,trivial⟩ C2 ⟨Dm,Dm,Dm,Dm,Dm,Dm,trivial⟩ C1 A6 (fun j hj=>?_)
   conv=>whnf
   conv=>whnf
   refine Eo (fun hj2=>?_) fun hj2=>?_<;>conv=>whnf
   ·have hj2:j<(Cz l e).length:=by omega
    have hs:=E4 (fun r=>Bn r.key g.workers==(k:Int)) (Cz l e) j hj2;have hb:=Dd (fun r=>Bn r.key g.workers==(k:Int)) (Cz l e) j;(repeat refine Ap ?_);refine As (Nx ((Cz l e).getD j default).key g.workers Ad) rfl (A7 ?_);refine ⟨fun h4=>?_,fun h4=>?_⟩<;>conv=>whnf
    ·(repeat refine Ap ?_)
     refine Bj A0 rfl rfl rfl rfl rfl rfl rfl rfl rfl rfl rfl (Af (N8 g.workers l k e++((Cz l e).take j).filter (fun r=>Bn r.key g.workers==k)++[(Cz l e).getD j default])) (An rfl) C6 (by (rw [List.length_append];omega)) (A7 ?_);(repeat refine Ap ?_);refine Az [(7,11)] (j+1) Ad Ad ⟨rfl,trivial⟩ ⟨rfl,rfl,rfl,rfl,rfl,congrArg Af (by rw [hs,if_pos h4,List.append_assoc]),trivial⟩ C2 A6 C1 A6
    (repeat refine Ap ?_);refine Az [] (j+1) Ad Ad ⟨rfl,trivial⟩ ⟨rfl,rfl,rfl,rfl,rfl,congrArg Af (by rw [hs,if_neg (by rw [h4];decide),List.append_nil]),trivial⟩ C2 A6 C1 A6
   (repeat refine Ap ?_);refine Az [] (e+1) Ad Ad ⟨rfl,trivial⟩ ⟨rfl,rfl,rfl,rfl,congrArg Af (by rw [X5,List.take_of_length_le Ad]),trivial⟩ C2 A6 C1 A6
  have hE:¬ e<4:=by have:=of_decide_eq_false hE;omega
  obtain rfl:e=4:=by omega
  first|(refine Ax 9 rfl [0,1,2,3,4,5] A6 (A7 ?_))|(refine Ax 23 rfl [0,1,2,3,4,5,6,7] A6 (A7 ?_))|(refine Ax 27 rfl [0,1,2,3,4,5,6,7,8] A6 (A7 ?_))
  refine Bd (A25 (N8 g.workers l k 4) Ad) rfl (A7 ?_);refine Kg A0 rfl rfl rfl rfl rfl rfl rfl rfl rfl (A7 ?_);refine Bj A0 rfl rfl rfl rfl rfl rfl rfl rfl rfl rfl rfl (Ar (Du g.workers l k++[Hr (N8 g.workers l k 4)])) (An rfl) C6 Ad (A7 ?_);rw [←Wz]
  refine Bk A0 false [] (fun j:Nat=>[(14,.c (vi j))]) (fun j=>[⟨2,[.own 3,.c (vi g.workers),.c (vi g.cap),.own 17,.own 6,.own 4,.c (.val (.slice none 0 0))]⟩,⟨0,[.c (Bg g.nodes),.c (vi g.workers),.c (vi g.cap)]⟩,⟨1,[.c (.val (.slice none 0 0)),.c (vi 0),.c (vi 0),.c (.val (.slice none 0 0)),.c (.val (.slice none 0 0)),.c (.val (.slice none 0 0)),.c (.val (.slice none 0 0))]⟩]) (fun j=>[⟨3,Bg g.nodes⟩,⟨4,Bm (List.replicate 4 default)⟩,⟨17,Ar (Du g.workers l (k+1))⟩,⟨6,C4 (List.replicate (k * n+j) (F2 g.cap))⟩])
   (fun j=>j≤n) (fun j=>n-j) 0 (Nat.zero_le _) ⟨F0,trivial⟩ C2 ⟨Dm,Dm,Dm,Dm,trivial⟩ C1 A6 (fun j hj=>?_)
  conv=>whnf
  conv=>whnf
  refine Eo (fun hlt2=>?_) fun hlt2=>?_<;>conv=>whnf
  ·have hlt2:j<n:=by omega
   have hkn:k * n≤16:=Nat.le_trans (Nat.mul_le_mul (show k≤4 by omega) (show n≤4 by omega)) B5
   first|(refine Ax 9 rfl [0,1,2,3,4,5] A6 (A7 ?_))|(refine Ax 23 rfl [0,1,2,3,4,5,6,7] A6 (A7 ?_))|(refine Ax 27 rfl [0,1,2,3,4,5,6,7,8] A6 (A7 ?_))
   refine Bd (A8i g.cap) rfl (A7 ?_);refine Kg A0 rfl rfl rfl rfl rfl rfl rfl rfl rfl (A7 ?_);refine Bj A0 rfl rfl rfl rfl rfl rfl rfl rfl rfl rfl rfl (C4 (List.replicate (k * n+j) (F2 g.cap)++[F2 g.cap])) (An rfl) C6 (by (rw [List.length_replicate];omega)) (A7 ?_);(repeat refine Ap ?_);refine Az [(6,20)] (j+1) Ad Ad ⟨rfl,trivial⟩ ⟨rfl,rfl,rfl,congrArg C4 (by rw [show k * n+(j+1)=(k * n+j)+1 by omega,List.replicate_succ']),trivial⟩ C2 A6 C1 A6
  obtain rfl:j=n:=by omega
  (repeat refine Ap ?_);refine Az [(5,17)] (k+1) Ad Ad ⟨rfl,trivial⟩ ⟨rfl,rfl,rfl,congrArg (fun m=>C4 (List.replicate m (F2 g.cap))) (by rw [Nat.succ_mul]),trivial⟩ C2 A6 C1 A6
 obtain rfl:k=n:=by omega
 rw [show g.workers.toNat=k by omega]
 (repeat refine Ap ?_);refine Am A0 rfl rfl ?_;exact B0
theorem A8u {g:Ah}{a b:Int}{ins:List Aa}(hN:L3 g ins)(hI:Ui ins):Lq g a b ins (Aj g ins).1:=by
 have hwk:=Vb hN;refine ⟨by unfold Aj;rw [if_pos hN],fun i hi r hr=>?_,fun i hi r hr=>?_,fun i hi r hr=>?_,fun j hj r hr=>?_⟩
 ·rw [hwk i hi] at hr;cases hr
 ·rw [hwk i hi] at hr;cases hr
 ·rw [hwk i hi] at hr
  obtain ⟨h1,h2⟩:=Se hr;obtain ⟨o1,o2,_⟩:=hI.2 r h1;exact ⟨⟨r,h1,0,0,rfl,o2,by omega,.inl ⟨.inl o1,rfl,rfl,rfl⟩⟩,h2⟩
 rw [Va hN _ (At (d:=default) hj)] at hr
 cases hr
theorem A8v {g:Ah}{ins:List Aa}{e:Int}(hN:L3 g ins):Og g ins e (Aj g ins).1 (fun _ _ _=>False):=by
 have hwk:=Vb hN;have hlen:=A1k hN;have hn:=hN.1.2.1
 have hp:∀q,Im (Aj g ins).1 q→q∈ins:=by
  rintro q (⟨i,hi,hq⟩|⟨j,hj,hq⟩)
  ·rw [hwk i hi] at hq
   rcases hq with hq|hq|hq
   ·cases hq
   ·cases hq
   exact (Se hq).1
  rw [Va hN _ (At (d:=default) hj)] at hq
  cases hq
 refine ⟨by unfold Aj;rw [if_pos hN],fun r hr he=>⟨r.val,Int.le_refl _,.inl ⟨r,.inl ⟨(Bn r.key g.workers).toNat,?_,.inr (.inr ?_)⟩,(hN.2.2 r hr).2.1,he,rfl,rfl⟩⟩,fun _ _ _ _ h=>h.elim,?_,fun i hi x hx _=>?_,fun _ _ _ h=>h.elim,fun i hi x hx=>?_⟩
 ·have hb:=Q1 (k:=r.key) (n:=g.workers) (hN.2.2 r hr).1.2.2.2.1.1 hn.1
  omega
 ·have hb:=Q1 (k:=r.key) (n:=g.workers) (hN.2.2 r hr).1.2.2.2.1.1 hn.1
  rw [hwk _ Ad];have he4:=(hN.2.2 r hr).1.2.1
  show r∈Rf g.workers ins _
  refine List.mem_flatMap.2 ⟨r.stamp.epoch.toNat,List.mem_range.2 Ad,List.mem_filter.2 ⟨Lx.2 ⟨hr,by omega⟩,?_⟩⟩;rw [beq_iff_eq];omega
 ·rintro op k v (⟨q,hq,h1,h2,h3,h4⟩|h)
  ·have hm:=hp q hq
   have:=Drv.inp (g:=g) (ins:=ins) (e:=e) q hm h2
   rw [h3,h4] at this;have h0:op=0:=by rw [←h1];exact (hN.2.2 q hm).2.1
   rw [h0];exact this
  exact h.elim
 ·rw [hwk i hi] at hx
  cases hx
 rw [hwk i hi] at hx
 cases hx
theorem A1j {g:Ah}{ins:List Aa}(hN:L3 g ins):Lp (Aj g ins).1:=fun i hi x hx=>by
 rw [Vb hN i hi] at hx
 cases hx
theorem B9x {g:Ah}{a b:Int}{ins:List Aa}{e:Int}{c:A3}{p:D7}(hC:B7 c)(hD:Lq g a b ins c)(hO:Lp c)(h:∃H,Og g ins e c H)(he:0≤e∧e≤3):∃H,Og g ins e (Aq c p).1 H:=by
 obtain ⟨H,h⟩:=h
 by_cases hp:p.kind=1
 ·have e0:Aq c p=Dk c p.a:=by unfold Aq;rw [if_pos hp]
  rw [e0];exact B9y hC hD hO h he
 exact ⟨H,B5x hC hp h⟩
theorem Vo {g:Ah}{a b:Int}{ins:List Aa}{e:Int}(hF:GrF g a b)(hI:Ui ins)(he:0≤e∧e≤3):∀(l:List D7) {k:Nat} (s:A3×List Bool),M7 k s.1→k+l.length≤200000→Lq g a b ins s.1→Lp s.1→(∃H,Og g ins e s.1 H)→
  Lq g a b ins (l.foldl G8 s).1∧Lp (l.foldl G8 s).1∧∃H,Og g ins e (l.foldl G8 s).1 H
 | [],_,_,_,_,hD,hO,h=>⟨hD,hO,h⟩
 |p::l,k,s,hR,hk,hD,hO,h=>by
  simp only [List.length_cons] at hk;exact Vo hF hI he l (k:=k+1) (G8 s p) (hR.step Ad) Ad (B9p hF hI hR.ok hD).1 (B0n hD hO) (B9x hR.ok hD hO h he)
theorem A6m {g:Ah}{a b:Int}{ins:List Aa}{e:Int}(hF:GrF g a b)(hI:Ui ins)(he:0≤e∧e≤3){k:Nat}{c:A3}(hR:M7 k c)(hD:Lq g a b ins c)(hO:Lp c)(h:∃H,Og g ins e c H):∀n,k+44 * n≤200000→
  Lq g a b ins (frN c n)∧Lp (frN c n)∧∃H,Og g ins e (frN c n) H
 | 0,_=>⟨hD,hO,h⟩
 |n+1,hk=>by
  obtain ⟨i1,i2,i3⟩:=A6m hF hI he hR hD hO h n Ad
  have:=Oi (frN c n)
  exact Vo hF hI he (Mh (H1 (frN c n))) (frN c n,[]) (hR.frN n Ad) Ad i1 i2 i3
theorem B28 {g:Ah}{ins:List Aa}(hN:L3 g ins):Yj ins:=fun r hr=>hN.2.2 r hr
theorem B1w {g:Ah}{ins:List Aa}{pk:List D7}(N:Nat)(hN3:N≤3000)(hS:Z9 g.nodes)(hN:L3 g ins)(hI:Ui ins)(hp:pk.length≤80){e:Int}(he:0≤e∧e≤3){best:List Ae}(hF:Sp g ins e best [])
  (hd:(Ee (wk (Cy N (Bb (Aj g ins).1 pk).1).1 0) e).2=true)(hc:(Ee (wk (Cy N (Bb (Aj g ins).1 pk).1).1 0) e).1.capped=false):It (Cy N (Bb (Aj g ins).1 pk).1).1 e=Dn g best:=by
 obtain ⟨a,b,hG⟩:=B8b hS;have hR0:=A8w hN;obtain ⟨hD,hO,hRs⟩:=Vo hG hI he pk ((Aj g ins).1,[]) hR0 Ad (A8u (a:=a) (b:=b) hN hI) (A1j hN) ⟨_,A8v hN⟩;have hR:M7 80 (Bb (Aj g ins).1 pk).1:=(hR0.runs (l:=pk) Ad).more Ad;have hD:Lq g a b ins (Bb (Aj g ins).1 pk).1:=hD;have hO:Lp (Bb (Aj g ins).1 pk).1:=hO;have hRs:∃H,Og g ins e (Bb (Aj g ins).1 pk).1 H:=hRs;generalize (Bb (Aj g ins).1 pk).1=c at *;obtain ⟨m,hm,hf,_⟩:=Uu N c;rw [hf] at hd hc ⊢
 dsimp only at hd hc ⊢
 have hRm:=hR.frN m Ad;obtain ⟨hDm,hOm,H,hRm2⟩:=A6m hG hI he hR hD hO hRs m Ad;obtain ⟨d1,d2,d3⟩:=(hRm.sf e he.1 he.2).2.2 hd;refine C2e hRm2 hN.1 (B28 hN) hOm (fun q hq hqe=>?_) (d3 hc) hF
 rcases hq with ⟨i,hi,hq⟩|⟨j,hj,hq⟩
 ·obtain ⟨p1,p2,p3⟩:=Fm.1 (d1 i hi)
  rcases hq with hq|hq|hq
  ·exact p2 q hq hqe
  ·exact p3 q hq hqe
  have:=p1 q hq;omega
 have:=B3d (List.mem_map_of_mem (f:=fun l:Ca=>(Cz l.queue e).length) (At (d:=default) hj))
 have hz:(Cz ((frN c m).links.getD j default).queue e).length≤0:=by rw [←d2];exact this
 have:=List.length_pos_of_mem (Lx.2 ⟨hq,hqe⟩)
 omega
theorem Fj {α:Type} [Inhabited α] {l:List α}{k:Nat}(hk:k<l.length):l.take (k+1)=l.take k++[l.getD k default]:=by
 rw [List.take_succ_eq_append_getElem hk]
 simp [List.getD,hk]
theorem Pz {l:List Ae}{k:Nat}(hk:k<l.length)(op e key:Int):Io (l.take (k+1)) op e key=N3 op e key (Io (l.take k) op e key) (l.getD k default):=by
 unfold Io;rw [Fj hk,List.foldl_append];rfl
set_option maxHeartbeats 1000000 in
theorem Yb (l:List Ae)(op e key:Int)(hl:l.length≤16000000):B3 Tryz.prog 167 [.one (Ak l),.one (vi op),.one (vi e),.one (vi key)] [.one (vi (Io l op e key).1),.one (vb (Io l op e key).2)]:=by
 refine Aw A0 false Tryz.func167 rfl B5 fun W=>?_;conv=>whnf
 refine Bk A0 false [] (fun k:Nat=>[(12,.c (vi k)),(10,.c (vi (Io (l.take k) op e key).1)),(11,.c (vb (Io (l.take k) op e key).2))]) (fun k=>[]) (fun k=>[])
  (fun k=>k≤l.length) (fun k=>l.length-k) 0 (Nat.zero_le _) ⟨F0,F0,F0,trivial⟩ trivial trivial C1 A6 (fun k hk=>?_)
 conv=>whnf
 refine Eo (fun h0=>?_) fun h0=>?_<;>conv=>whnf
 ·have h0:k<l.length:=by omega
  (repeat refine Ap ?_)
  repeat' (first|(refine L4 ?_;conv=>whnf)|(refine L5 ?_;conv=>whnf)|(refine ⟨fun h=>?_,fun h=>?_⟩<;>conv=>whnf)|(refine Gi ?_;conv=>whnf)|fail)
  all_goals
   refine Az [] (k+1) Ad Ad ⟨rfl,congrArg (fun n=>AV.c (vi n)) (by rw [Pz h0];simp_all [N3]<;>rw [if_neg Ad]<;>assumption),congrArg (fun n=>AV.c (vb n)) (by rw [Pz h0];simp_all [N3]<;>rw [if_neg Ad]<;>assumption),trivial⟩ trivial trivial A6 C1 A6
 refine Am A0 rfl rfl ⟨?_,?_,trivial⟩
 ·rw [show l.take k=l from List.take_of_length_le Ad];rfl
 rw [show l.take k=l from List.take_of_length_le Ad];rfl
theorem V2 (a b:Ae):B3 Tryz.prog 268 [.agg a.c,.agg b.c] [.one (vb (Bq a b))]:=by
 refine Aw A0 false Tryz.func268 rfl B5 fun W=>?_;conv=>whnf
 repeat' (first|(refine L4 ?_;conv=>whnf)|(refine L5 ?_;conv=>whnf)|(refine ⟨fun h=>?_,fun h=>?_⟩<;>conv=>whnf)|(refine Am A0 rfl rfl ⟨?_,trivial⟩;conv=>whnf)|(refine Gi ?_;conv=>whnf)|fail)
 all_goals (refine congrArg vb ?_;simp_all [Bq]<;>rfl)
set_option maxHeartbeats 1000000 in
theorem A8h (l:List Ae)(op e key:Int)(hl:l.length≤16000000):B3 Tryz.prog 265 [.one (Ak l),.one (vi op),.one (vi e),.one (vi key)] [.one (vi (Io l op e key).1),.one (vb (Io l op e key).2)]:=by
 refine Aw A0 false Tryz.func265 rfl B5 fun W=>?_;conv=>whnf
 refine Bk A0 false [] (fun k:Nat=>[(16,.c (vi k)),(10,.c (vi (Io (l.take k) op e key).1)),(11,.c (vb (Io (l.take k) op e key).2))]) (fun k=>[]) (fun k=>[])
  (fun k=>k≤l.length) (fun k=>l.length-k) 0 (Nat.zero_le _) ⟨F0,F0,F0,trivial⟩ trivial trivial C1 A6 (fun k hk=>?_)
 conv=>whnf
 refine Eo (fun h0=>?_) fun h0=>?_<;>conv=>whnf
 ·have h0:k<l.length:=by omega
  (repeat refine Ap ?_);refine As (V2 (l.getD k default) ⟨op,e,key,0⟩) rfl (A7 ?_)
  repeat' (first|(refine L4 ?_;conv=>whnf)|(refine L5 ?_;conv=>whnf)|(refine ⟨fun h=>?_,fun h=>?_⟩<;>conv=>whnf)|(refine Gi ?_;conv=>whnf)|fail)
  all_goals
   refine Az [] (k+1) Ad Ad ⟨rfl,congrArg (fun n=>AV.c (vi n)) (by rw [Pz h0];simp_all [N3,Bq]<;>rw [if_neg Ad]<;>assumption),congrArg (fun n=>AV.c (vb n)) (by rw [Pz h0];simp_all [N3,Bq]<;>rw [if_neg Ad]<;>assumption),trivial⟩ trivial trivial A6 C1 A6
 refine Am A0 rfl rfl ⟨?_,?_,trivial⟩
 ·rw [show l.take k=l from List.take_of_length_le Ad];rfl
 rw [show l.take k=l from List.take_of_length_le Ad];rfl
theorem B8h (xs:List Ae)(hx:xs.length≤16777216)(f:Nat)(cs:List Ai)(p:Ae→Bool)(hf:∀x∈xs,B3 Tryz.prog f [.agg x.c,.ptr cs] [.one (vb (p x))]):
  B3 Tryz.prog 269 [.one (Ak xs),.fn f [.ptr cs]] [.one (vi (Me p xs))]:=by
 refine Aw A0 false Tryz.func269 rfl B5 fun W=>?_;conv=>whnf
 refine Bk A0 false [] (fun k:Nat=>[(8,.c (vi k))]) (fun k=>[]) (fun k=>[])
  (fun k=>k≤xs.length∧(xs.take k).any p=false) (fun k=>xs.length-k) 0 ⟨Nat.zero_le _,by first|rfl|assumption|simp⟩ ⟨F0,trivial⟩ trivial trivial C1 A6 (fun k hk=>?_)
 obtain ⟨hk,he⟩:=hk;conv=>whnf
 refine Eo (fun h=>?_) fun h=>?_<;>conv=>whnf
 ·have h:k<xs.length:=by omega
  (repeat refine Ap ?_);refine As (hf (xs.getD k default) (At h)) rfl (A7 ?_);refine ⟨fun hc=>?_,fun hc=>?_⟩<;>conv=>whnf
  ·exact Am A0 rfl rfl ⟨congrArg vi (On p xs k he h hc),trivial⟩
  (repeat refine Ap ?_);refine Az [] (k+1) ⟨by omega,Fw he h hc⟩ Ad ⟨rfl,trivial⟩ trivial trivial A6 C1 A6
 exact Am A0 rfl rfl ⟨congrArg vi (Jp p xs (by rw [Da xs k Ad] at he;exact he)),trivial⟩
def K7 (q:Ae→Bool) (l:List Ae) (j:Nat):Nat:=((l.take j).filter q).length
def My (q:Ae→Bool) (l:List Ae) (j:Nat):List Ae:=(l.take j).filter q++l.drop (K7 q l j)
theorem B7f (q:Ae→Bool)(l:List Ae)(j:Nat):K7 q l j≤j:=Nat.le_trans (List.length_filter_le _ _) (List.length_take_le _ _)
theorem B2y (q:Ae→Bool)(l:List Ae)(j:Nat):K7 q l j≤l.length:=Nat.le_trans (List.length_filter_le _ _) (List.length_take_le' _ _)
theorem Zy {q:Ae→Bool}{l:List Ae}{j:Nat}(hj:j<l.length):K7 q l (j+1)=K7 q l j+if q (l.getD j default)=true then 1 else 0:=by
 unfold K7;rw [E4 q l j hj,List.length_append]
 split<;>rfl
theorem B7i {q:Ae→Bool}{l:List Ae}{j:Nat}:(My q l j).length=l.length:=by
 have:=B2y q l j
 rw [My,List.length_append,List.length_drop]
 show K7 q l j+_=_
 omega
theorem B7h {q:Ae→Bool}{l:List Ae}{j i:Nat}(h:K7 q l j≤i):(My q l j).getD i default=l.getD i default:=by
 have e:((l.take j).filter q).length≤i:=h;simp only [My,List.getD,List.getElem?_append_right e,List.getElem?_drop];rw [show K7 q l j+(i-((l.take j).filter q).length)=i by show K7 q l j+(i-K7 q l j)=i;omega]
theorem B4t {q:Ae→Bool}{l:List Ae}{j:Nat}(hj:j<l.length)(hq:q (l.getD j default)=true):My q l (j+1)=(My q l j).set (K7 q l j) (l.getD j default):=by
 have h1:=B7f q l j;have e:K7 q l (j+1)=K7 q l j+1:=by rw [Zy hj,if_pos hq]
 unfold My;rw [e,E4 q l j hj,if_pos hq,List.set_append_right _ _ (show ((l.take j).filter q).length≤K7 q l j from Nat.le_refl _),show K7 q l j-((l.take j).filter q).length=0 from Nat.sub_self _,List.append_assoc]
 congr 1
 rw [show l.drop (K7 q l j)=l.getD (K7 q l j) default::l.drop (K7 q l j+1) by rw [List.drop_eq_getElem_cons Ad];simp [List.getD,show K7 q l j<l.length by omega]]
 rfl
theorem Wn {q:Ae→Bool}{l:List Ae}{j:Nat}(hj:j<l.length)(hq:q (l.getD j default)=false):My q l (j+1)=My q l j∧K7 q l (j+1)=K7 q l j:=by
 have e:K7 q l (j+1)=K7 q l j:=by rw [Zy hj,if_neg (by rw [hq];decide)];rfl
 refine ⟨?_,e⟩;unfold My;rw [e,E4 q l j hj,if_neg (by rw [hq];decide),List.append_nil]
theorem Zk {q:Ae→Bool}{l:List Ae}{k:Nat}(h:(l.take k).any (fun y=>!q y)=false):(l.take k).filter q=l.take k:=by
 rw [List.filter_eq_self];intro y hy
 have:=List.any_eq_false.1 h y hy
 simpa using this
theorem B0s {q:Ae→Bool}{l:List Ae}{k:Nat}(hk:k<l.length)(h:(l.take k).any (fun y=>!q y)=false)(hq:q (l.getD k default)=false):My q l (k+1)=l∧K7 q l (k+1)=k:=by
 have e:=Wn hk hq;have c:K7 q l k=k:=by rw [K7,Zk h,List.length_take];omega
 rw [e.1,e.2,c,My,c,Zk h,List.take_append_drop];exact ⟨rfl,rfl⟩
theorem B7g {q:Ae→Bool}{l:List Ae}{j:Nat}(h:l.length≤j):My q l j=l.filter q++l.drop (l.filter q).length∧K7 q l j=(l.filter q).length:=by
 rw [My,K7,List.take_of_length_le h];exact ⟨rfl,rfl⟩
theorem B70 (p:Ae→Bool)(l:List Ae)(h:l.any p=true):∃k,k<l.length∧(l.take k).any p=false∧p (l.getD k default)=true:=by
 induction l with
 |nil=>simp at h
 |cons y r ih=>
  by_cases hy:p y=true
  ·exact ⟨0,by simp,by simp,hy⟩
  have hy:p y=false:=by simpa using hy
  rw [List.any_cons,hy,Bool.false_or] at h;obtain ⟨k,h1,h2,h3⟩:=ih h;exact ⟨k+1,by simpa using h1,by rw [List.take_succ_cons,List.any_cons,hy,h2];rfl,h3⟩
theorem A73 (p:Ae→Bool)(l:List Ae):(Me p l= -1∧l.any p=false)∨∃k,k<l.length∧Me p l=(k:Int)∧(l.take k).any p=false∧p (l.getD k default)=true:=by
 cases h:l.any p with
 |false=>exact .inl ⟨Jp p l h,rfl⟩
 |true=>
  right
  have ex:=B70 p l h;obtain ⟨k,h1,h2,h3⟩:=ex;exact ⟨k,h1,On p l k h2 h1 h3,h2,h3⟩
theorem B45 {q:Ae→Bool}{l:List Ae}{k:Nat}(hk:k<l.length)(hq:q (l.getD k default)=false):(l.filter q).length<l.length:=by
 exact List.length_filter_lt_length_iff_exists.2 ⟨_,At (d:=default) hk,by rw [hq];decide⟩
theorem C3c (l:List Ae):(He Ae.c l).length=l.length * 4:=A60 (es:=4) (fun _=>rfl) l
set_option maxHeartbeats 4000000 in
theorem R6 (l:List Ae)(f:Nat)(cs:List Ai)(p:Ae→Bool)(hl:l.length≤16777216)(hf:∀y:Ae,B3 Tryz.prog f [.agg y.c,.ptr cs] [.one (vb (p y))]):
  J6 Tryz.prog (fun _=>True) 266 [] [.one (Ak l)] [.fn f [.ptr cs]] (fun _:Unit=>True) (fun _=>[.one (Ak (l.filter fun y=>!p y))]):=by
 refine O6 A0 false Tryz.func266 rfl B5 fun B hH hp=>?_;conv=>whnf
 refine As (B8h l hl f cs p (fun y _=>hf y)) rfl (A7 ?_)
 rcases A73 p l with ⟨hi,ha⟩|⟨k0,hk0,hi,ha,hp0⟩
 ·rw [hi]
  repeat refine B2 ?_
  rw [show l.filter (fun y=>!p y)=l by rw [List.filter_eq_self];intro y hy;have:=List.any_eq_false.1 ha y hy;simpa using this]
  exact Vq A0 () trivial rfl rfl B0
 rw [hi];have hpn:(fun y=>!(fun y=>!p y) y)=p:=by funext y;simp
 obtain ⟨c1,c2⟩:=B0s (q:=fun y=>!p y) hk0 (by rw [hpn];exact ha) (by show (!p (l.getD k0 default))=false;rw [hp0];rfl)
 refine A1c B6x ?_;conv=>whnf
 (repeat refine Ap ?_);refine Bk A0 false [] (fun j:Nat×Nat×List Ae=>[(6,.c (vi j.1)),(5,.c (vi j.2.1))]) (fun j=>[]) (fun j=>[⟨0,Ak j.2.2⟩]) (fun j=>j.1≤l.length∧k0<j.1∧j.2.1=K7 (fun y=>!p y) l j.1∧j.2.2=My (fun y=>!p y) l j.1) (fun j=>l.length-j.1) ((k0+1,k0,l)) (⟨hk0,Nat.lt_succ_self _,c2.symm,c1.symm⟩) ⟨F0,F0,trivial⟩ trivial ⟨Dm,trivial⟩ C1 A6 (fun j hj=>?_);conv=>whnf
 obtain ⟨hj1,hjk,hj2,hj3⟩:=hj;have hxl:j.2.2.length=l.length:=by rw [hj3];exact B7i
 have hcj:=B7f (fun y=>!p y) l j.1;have hcl:=B2y (fun y=>!p y) l j.1;refine Eo (fun h=>?_) fun h=>?_<;>conv=>whnf
 ·have h:j.1<l.length:=by omega
  have hg:j.2.2.getD j.1 default=l.getD j.1 default:=by rw [hj3];exact B7h hcj
  (repeat refine Ap ?_);refine As (hf (j.2.2.getD j.1 default)) rfl (A7 ?_);refine ⟨fun hc=>?_,fun hc=>?_⟩<;>conv=>whnf
  ·have hc:(fun y=>!p y) (l.getD j.1 default)=true:=by rw [←hg];exact hc
   (repeat refine Ap ?_);refine Bv (j:=(j.2.1:Int)) A0 rfl rfl rfl rfl rfl rfl rfl rfl (Ak (j.2.2.set j.2.1 (j.2.2.getD j.1 default))) (Ck (by rw [Int.toNat_natCast];omega) rfl) (A7 ?_);(repeat refine Ap ?_);refine Az [] ((j.1+1,j.2.1+1,j.2.2.set j.2.1 (j.2.2.getD j.1 default))) (⟨h,by show k0<j.1+1;omega,by show j.2.1+1=_;rw [Zy h,if_pos hc,hj2],by show j.2.2.set j.2.1 _=_;rw [B4t h hc,hg,hj2,hj3]⟩) (by show l.length-(j.1+1)<_;omega) ⟨rfl,rfl,trivial⟩ ⟨rfl,trivial⟩ trivial A6 C1 A6
  have hc:(fun y=>!p y) (l.getD j.1 default)=false:=by rw [←hg];exact hc
  (repeat refine Ap ?_);refine Az [] ((j.1+1,j.2.1,j.2.2)) (⟨h,by show k0<j.1+1;omega,by show j.2.1=_;rw [(Wn h hc).2,hj2],by show j.2.2=_;rw [(Wn h hc).1,hj3]⟩) (by show l.length-(j.1+1)<_;omega) ⟨rfl,rfl,trivial⟩ ⟨rfl,trivial⟩ trivial A6 C1 A6
 have h:l.length≤j.1:=by omega
 obtain ⟨e1,e2⟩:=B7g (q:=fun y=>!p y) h;have hlt:=B45 (q:=fun y=>!p y) hk0 (by show (!p (l.getD k0 default))=false;rw [hp0];rfl)
 rw [e1] at hj3;rw [e2] at hj2;rw [hj3] at hxl;rw [hj2,hj3];generalize hf':l.filter (fun y=>!p y)=F at *;generalize hD:l.drop F.length=D at *;have hxl2:F.length+D.length=l.length:=by rw [←hxl,List.length_append]
 refine Z1 0 4 Ae.c (F++D) rfl (by rw [hxl];omega) (Ki _ _) (fun b off cap pre D5 p1 p2 p3 p4=>?_);rw [hxl] at p2 p4;refine N6 0 0 rfl rfl ?_;refine N6 36 0 rfl rfl ?_;refine J9 A0 rfl rfl rfl rfl rfl rfl (l:=(F.length:Int)) (h:=((F++D).length:Int)) rfl rfl ⟨by omega,by rw [hxl];omega,by rw [hxl];omega,fun _=>by rw [hxl];omega,by omega⟩ (off * 4+F.length * 4) D.length (cap-F.length) C8 (by rw [hxl];omega) C8 (N2 A0 false ?_);conv=>whnf
 refine B0q (kb:=1) A0 rfl rfl rfl rfl rfl rfl rfl rfl Ad (pre++He Ae.c F) (He Ae.c D) D5 (by show pre++He Ae.c (F++D)++D5=_;rw [I4];simp only [List.append_assoc]) (by rw [List.length_append,C3c,p1]) (C3c D) (N2 A0 false ?_)
 conv=>whnf
 refine J9 A0 rfl rfl rfl rfl rfl rfl (l:=0) (h:=(F.length:Int)) rfl rfl ⟨by omega,by omega,by omega,(fun h=>by cases h),by omega⟩ (off * 4) F.length cap C8 C8 C8 (N2 A0 false ?_);conv=>whnf
 refine A84 Tryz.prog 4 1 off 4 Ae.c F pre (List.replicate (D.length * 4) .any++D5) rfl (by simp only [List.append_assoc]) (by exact p1) (fun _=>rfl) (Ki _ _) (by exact p3) (by exact ⟨by omega,by rw [List.length_append,List.length_replicate];omega⟩) rfl rfl rfl rfl ?_;exact Vq A0 () trivial rfl rfl B0
end Go.Proofs.YtdendlkeiaccpaaGreat
