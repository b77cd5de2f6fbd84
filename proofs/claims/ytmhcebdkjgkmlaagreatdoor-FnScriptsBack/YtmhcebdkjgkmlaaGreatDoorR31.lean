/- Part 31 of the proof that each of the laws FnScriptsBack returns true for every input. No conditions. -/
import Derived.Test.YtmhcebdkjgkmlaaGreatDoorR12
import Derived.Test.YtmhcebdkjgkmlaaGreatDoorR25

set_option linter.unusedSimpArgs false
set_option linter.unusedVariables false
set_option maxRecDepth 100000
namespace Go.Proofs.YtmhcebdkjgkmlaaGreatDoor
open Go.Sx
theorem B55 (n:Int):Df 126 [.one (vi n)] [.agg (Hj n).c]:=by
 refine Dy Tryz.func126 fun W=>?_;refine Fh (Ou n 1 4) ?_;exact Dk
theorem B4j (n:Int):Df 121 [.one (vi n)] [.agg (Hj n).c]:=by
 refine Dy Tryz.func121 fun W=>?_;refine Fh (Vh n 1 4) ?_;exact Dk
theorem A5n {α:Type} [Inhabited α] (x:α)(n i:Nat)(h:x=default):(List.replicate n x).getD i default=x:=by
 simp only [List.getD,List.getElem?_replicate]
 split
 ·rfl
 exact h.symm
theorem B9v:(Ad.sl 4 1 fun _=>[.val (.int .i64 0)])=De (List.replicate 4 0):=A6 (Ad.sl 4 1) (funext fun i=>by rw [A5n (0:Int) 4 i rfl])
theorem A0i:(Ad.sl 4 1 fun _=>[.val (.bool false)])=Dz (List.replicate 4 false):=A6 (Ad.sl 4 1) (funext fun i=>by rw [A5n false 4 i rfl])
theorem Ic:(Ad.sl 4 5 fun _=>[.val (.bool false),.val (.int .i64 0),.val (.int .i64 0),.val (.bool false),.val (.bool false)])=B4 (List.replicate 4 default):=A6 (Ad.sl 4 5) (funext fun i=>by rw [A5n (default:I9) 4 i rfl];rfl)
def O6 (xs:List A9):Aj:=⟨[],[],xs,[],List.replicate 4 0,List.replicate 4 false,List.replicate 4 false,[]⟩
set_option maxHeartbeats 1600000 in
theorem A9g (xs:List A9)(hx:xs.length≤16777216):Df 124 [.one (Aa xs)] [.agg (O6 xs).c]:=by
 refine Dy Tryz.func124 fun W=>?_;refine Oj rfl ?_
 repeat' (first
   |(first|refine C2u A0 false 1 rfl rfl rfl (by decide+kernel) rfl (Q7 B6r) ?_|refine C2u A0 false 3 rfl rfl rfl (by decide+kernel) rfl (Q7 B6r) ?_|refine C2u A0 false 5 rfl rfl rfl (by decide+kernel) rfl (Q7 B6r) ?_|refine C2u A0 false 7 rfl rfl rfl (by decide+kernel) rfl (Q7 B6r) ?_)
   |((first|refine Au [0,4,6,8] (by decide+kernel) ⟨?_,?_,?_,?_,trivial⟩|refine Au [2,4,6,8] (by decide+kernel) ⟨?_,?_,?_,?_,trivial⟩|refine Au [4,6,8] (by decide+kernel) ⟨?_,?_,?_,trivial⟩|refine Au [6,8] (by decide+kernel) ⟨?_,?_,trivial⟩|refine Au [8] (by decide+kernel) ⟨?_,trivial⟩|refine Au [9] (by decide+kernel) ⟨?_,trivial⟩|refine Au [10] (by decide+kernel) ⟨?_,trivial⟩|refine Au [6] (by decide+kernel) ⟨?_,trivial⟩|refine Au [4,8] (by decide+kernel) ⟨?_,?_,trivial⟩|refine Au [4] (by decide+kernel) ⟨?_,trivial⟩|refine Au [4,6] (by decide+kernel) ⟨?_,?_,trivial⟩|refine Au [2,6,8] (by decide+kernel) ⟨?_,?_,?_,trivial⟩|refine Au [2,8] (by decide+kernel) ⟨?_,?_,trivial⟩|refine Au [2] (by decide+kernel) ⟨?_,trivial⟩|refine Au [2,6] (by decide+kernel) ⟨?_,?_,trivial⟩|refine Au [2,4,8] (by decide+kernel) ⟨?_,?_,?_,trivial⟩|refine Au [2,4] (by decide+kernel) ⟨?_,?_,trivial⟩|refine Au [2,4,6] (by decide+kernel) ⟨?_,?_,?_,trivial⟩|refine Au [0,6,8] (by decide+kernel) ⟨?_,?_,?_,trivial⟩|refine Au [0,8] (by decide+kernel) ⟨?_,?_,trivial⟩|refine Au [0] (by decide+kernel) ⟨?_,trivial⟩|refine Au [0,6] (by decide+kernel) ⟨?_,?_,trivial⟩|refine Au [0,4,8] (by decide+kernel) ⟨?_,?_,?_,trivial⟩|refine Au [0,4] (by decide+kernel) ⟨?_,?_,trivial⟩|refine Au [0,4,6] (by decide+kernel) ⟨?_,?_,?_,trivial⟩)<;>(refine go A0 false ?_;(conv=>whnf);(first|(refine Bg A0 rfl (Aa xs) (Bw) (fun _=>J1 xs) A7 (I7 ?_);(conv=>whnf))|(repeat (refine Ew ?_;(conv=>whnf))));refine Aq ?_))
   |refine Oi (by decide+kernel) (B3h.out ?_))
 all_goals
  refine B3h.mk (Ag ?_)
 all_goals
  refine Af A0 rfl rfl ⟨⟨.inr ⟨rfl,rfl,_,_,rfl⟩,.inr ⟨rfl,rfl,_,_,rfl⟩,?_,.inr ⟨rfl,rfl,_,_,rfl⟩,?_,?_,?_,.inr ⟨rfl,rfl,_,_,rfl⟩,trivial⟩,trivial⟩
  ·exact (rfl:Aa xs=Aa xs)
  ·exact B9v
  ·exact A0i
  exact A0i
set_option maxHeartbeats 1600000 in
theorem A82 (xs:List A9)(hx:xs.length≤16777216):Df 120 [.one (Aa xs)] [.agg (O6 xs).c]:=by
 refine Dy Tryz.func120 fun W=>?_;refine Oj rfl ?_
 repeat' (first
   |(first|refine C2u A0 false 0 rfl rfl rfl (by decide+kernel) rfl (Q7 B6r) ?_)
   |((first|refine Au [1,2,3,4] (by decide+kernel) ⟨?_,?_,?_,?_,trivial⟩|refine Au [2,3,4] (by decide+kernel) ⟨?_,?_,?_,trivial⟩|refine Au [3,4] (by decide+kernel) ⟨?_,?_,trivial⟩|refine Au [4] (by decide+kernel) ⟨?_,trivial⟩|refine Au [5] (by decide+kernel) ⟨?_,trivial⟩|refine Au [6] (by decide+kernel) ⟨?_,trivial⟩|refine Au [3] (by decide+kernel) ⟨?_,trivial⟩|refine Au [2,4] (by decide+kernel) ⟨?_,?_,trivial⟩|refine Au [2] (by decide+kernel) ⟨?_,trivial⟩|refine Au [2,3] (by decide+kernel) ⟨?_,?_,trivial⟩|refine Au [1,3,4] (by decide+kernel) ⟨?_,?_,?_,trivial⟩|refine Au [1,4] (by decide+kernel) ⟨?_,?_,trivial⟩|refine Au [1] (by decide+kernel) ⟨?_,trivial⟩|refine Au [1,3] (by decide+kernel) ⟨?_,?_,trivial⟩|refine Au [1,2,4] (by decide+kernel) ⟨?_,?_,?_,trivial⟩|refine Au [1,2] (by decide+kernel) ⟨?_,?_,trivial⟩|refine Au [1,2,3] (by decide+kernel) ⟨?_,?_,?_,trivial⟩)<;>(refine go A0 false ?_;(conv=>whnf);(first|(refine Nm (Jr xs A7) rfl (I7 ?_);(conv=>whnf))|(repeat (refine Ew ?_;(conv=>whnf))));refine Aq ?_))
   |refine Oi (by decide+kernel) (B3h.out ?_))
 all_goals
  refine B3h.mk (Ag ?_)
 all_goals
  refine Af A0 rfl rfl ⟨⟨.inr ⟨rfl,rfl,_,_,rfl⟩,.inr ⟨rfl,rfl,_,_,rfl⟩,?_,.inr ⟨rfl,rfl,_,_,rfl⟩,?_,?_,?_,.inr ⟨rfl,rfl,_,_,rfl⟩,trivial⟩,trivial⟩
  ·exact (rfl:Aa xs=Aa xs)
  ·exact B9v
  ·exact A0i
  exact A0i
def Qm (n:Int) (l:List A9) (w:Int) (k:Nat):List A9:=(List.range k).flatMap fun (e:Nat)=>(F6 l e).filter fun r=>Ej r.key n==w
theorem A1s (n:Int)(l:List A9)(w:Int)(k:Nat):Qm n l w (k+1)=Qm n l w k++(F6 l k).filter fun r=>Ej r.key n==w:=by
 rw [Qm,Za,Wo]
 simp [Qm]
theorem Vs (n:Int)(l:List A9)(w:Int)(k:Nat):(Qm n l w k).length≤k * l.length:=by
 induction k with
 |zero=>simp [Qm]
 |succ k ih=>
  rw [A1s,Dn,Pj];have h1:=Pm (fun r:A9=>Ej r.key n==w) (F6 l k);have h2:=O0 l k;omega
def oP (n:Int) (w:Int) (e:Nat) (r:A9):Bool:=(r.af.am==(e:Int))&&(Ej r.key n==w)
theorem C2m (n:Int)(l:List A9)(w:Int)(e:Nat):l.filter (oP n w e)=(F6 l e).filter fun r=>Ej r.key n==w:=by
 show _=List.filter _ (List.filter _ l)
 rw [List.filter_filter]
 congr 1
 funext r
 rw [oP,Bool.and_comm]
set_option maxHeartbeats 1600000 in
theorem C96 (g:Ax)(l:List A9)(w:Int)(hl:l.length≤20)(hg:g.aq≤4):Df 125 [.agg g.c,.one (Aa l),.one (vi w)] [.one (Aa (Qm g.aq l w 4))]:=by
 refine Dy Tryz.func125 fun W=>?_;refine Fi 1 (Aa []) rfl Dx ?_;refine Fs [9,10] (fun k:Nat=>[(8,.c (vi k))]) (fun k=>[⟨0,[.c (Ay g.ay),.c (vi g.aq),.c (vi g.cap)]⟩]) (fun k=>[⟨1,Aa (Qm g.aq l w k)⟩]) (fun k=>k≤4) (fun k=>4-k) fun k hk=>?_;refine C2 (fun h=>?_) fun h=>?_
 ·have h:k<4:=by have:=Bp h;omega
  have hk1:=Vs g.aq l w k;have hk2:k * l.length≤80:=G0 (Wd (show k≤4 by omega) hl) Bk
  refine Fs [] (fun j:Nat=>[(9,.c (vi j))]) (fun j=>[⟨0,[.c (Ay g.ay),.c (vi g.aq),.c (vi g.cap)]⟩]) (fun j=>[⟨1,Aa (Qm g.aq l w k++(l.take j).filter (oP g.aq w k))⟩]) (fun j=>j≤l.length) (fun j=>l.length-j) fun j hj=>?_;conv=>whnf
  refine E3 (fun h2=>?_) fun h2=>?_
  ·have h2:j<l.length:=by omega
   have hs:=G5 (oP g.aq w k) l j h2;have hb:=G6 (oP g.aq w k) l j
   first|(refine Ae 8 rfl [0,1,2,3,4,5,6,7,8,9,10,11,12,13,14,15,17,16,18,19] Ak (Ag ?_))
   refine B6 ?_;refine C2 (fun h3=>?_) fun h3=>?_
   ·rw [Cp] at h3
    refine Ar ?_;refine Ao (A3m (l.getD j default).key g.aq A7) rfl (Ft ?_);refine C2 (fun h4=>?_) fun h4=>?_
    ·have h5:oP g.aq w k (l.getD j default)=true:=by rw [oP,h3,h4];rfl
     refine B6 ?_;refine Bg A0 rfl (Aa (Qm g.aq l w k++(l.take j).filter (oP g.aq w k)++[l.getD j default])) (An rfl) Ij (by (rw [Dn];omega)) (F1 ?_);refine Co [(1,3)] (j+1) A7 A7 ⟨rfl,trivial⟩ ⟨A6 Aa (by rw [hs,Ah h5,Ci]),trivial⟩
    have h5:oP g.aq w k (l.getD j default)=false:=by rw [oP,h4,Wq]
    refine Ar ?_;refine Co [] (j+1) A7 A7 ⟨rfl,trivial⟩ ⟨A6 Aa (by rw [hs,Ab (by rw [h5];decide),Gw]),trivial⟩
   rw [Cp] at h3;have h5:oP g.aq w k (l.getD j default)=false:=by rw [oP,h3,Wr]
   refine Ar ?_;refine Co [] (j+1) A7 A7 ⟨rfl,trivial⟩ ⟨A6 Aa (by rw [hs,Ab (by rw [h5];decide),Gw]),trivial⟩
  refine B6 ?_;refine Co [] (k+1) A7 A7 ⟨rfl,trivial⟩ ⟨A6 Aa (by rw [A1s,←C2m,Pn A7]),trivial⟩
 have h:¬ k<4:=by have:=Cy h;omega
 obtain rfl:k=4:=by omega
 exact Dk
end Go.Proofs.YtmhcebdkjgkmlaaGreatDoor
