/- Part 18 of the proof that each of the laws FnExactWhoIsDone, FnExactResultText, FnExactRunText returns true for every input. No conditions. -/
import Derived.Test.YtmhcebdkjgkmlaaGreatDoorP17

set_option linter.unusedSimpArgs false
set_option linter.unusedVariables false
set_option maxRecDepth 100000
namespace Go.Proofs.YtmhcebdkjgkmlaaGreatDoor
open Go.Sx
theorem A6r {l:List Bool}{k:Nat}(hk:k<l.length):((l.take (k+1)).filter id).length=((l.take k).filter id).length+if l.getD k default=true then 1 else 0:=by
 rw [Em id l k hk,D7];simp only [id]
 split<;>rfl
set_option maxHeartbeats 8000000 in
theorem A97 (x:A3)(h:x.w≤7000000)(hgo:M0 x):Dj 104 [.agg x.c] [.agg (C5 x).1.c,.one (vi (C5 x).2)]:=by
 have hal:=A0v x;have hrl:=Wp (c:=x) (l:=Qw (It x));have hF:C5 x=((Aw x (Qw (It x))).1,((Aw x (Qw (It x))).2.filter id).length):=rfl;refine E3 Tryz.func104 fun W=>?_;refine Iy rfl ?_;refine Of 0 ?_;refine Of 1 ?_;refine zt2 2 7 ?_ ?_
 focus
  refine Gg (A1d x) ?_;refine E6 (zt2 3 7 ?_ ?_)
  focus
   refine Gg (Pm x (Qw (It x)) A7 hgo) ?_;refine E6 (Dw 4 rfl ?_);refine zoF 5 ?_;refine zoF 6 ?_;refine splitB [7] Ah ⟨?_,trivial⟩;refine Er ?_;refine E6 ?_
  rotate_left 1
  focus
   refine B8 ?_;refine E6 ?_;refine splitB [3] Ah ⟨?_,trivial⟩;refine Aj ?_;refine Gg (Pm x (Qw (It x)) A7 hgo) ?_;refine E6 (Dw 4 rfl ?_);refine zoF 5 ?_;refine zoF 6 ?_
 rotate_left 2
 focus
  refine B8 ?_;refine E6 ?_;refine splitB [2] Ah ⟨?_,trivial⟩;refine Aj ?_;refine Gg (A1d x) ?_;refine E6 ?_;refine splitB [3] Ah ⟨?_,trivial⟩;refine Aj ?_;refine Gg (Pm x (Qw (It x)) A7 hgo) ?_;refine E6 (Dw 4 rfl ?_);refine zoF 5 ?_;refine zoF 6 ?_
 all_goals
  refine splitB [8] Ah ⟨?_,trivial⟩;refine Er ?_;refine E6 (Dw 9 rfl ?_);refine A01 Ah (Aj ?_)
 all_goals generalize Aw x (Qw (It x))=R at *
 ·refine Fv [8] (fun k:Nat=>[(18,.c (vi k)),(6,.c (vi ((R.2.take k).filter id).length))]) (fun k=>[⟨2,[.own 4,.c (vi R.1.az.aq),.c (vi R.1.az.cap),.own 5,.own 6,.own 7,.own 8]⟩,⟨1,[.c (.val (.slice none 0 0)),.c (vi 0),.c (vi 0),.c (.val (.slice none 0 0)),.c (.val (.slice none 0 0)),.c (.val (.slice none 0 0)),.c (.val (.slice none 0 0))]⟩]) (fun k=>[⟨9,D9 R.2⟩,⟨4,Ax R.1.az.ak⟩,⟨5,Af R.1.aq⟩,⟨6,B7 R.1.ay⟩,⟨7,Au R.1.ap⟩,⟨8,Bd R.1.ac⟩]) (fun k=>k≤R.2.length) (fun k=>R.2.length-k) fun k hk=>?_
  conv=>whnf
  refine Eh (fun hlt=>?_) fun hlt=>?_
  ·have hlt:k<R.2.length:=by omega
   have hc:=A6r hlt;have hle:((R.2.take k).filter id).length≤k:=Ew (Ni _ _) (by rw [Eo];omega);refine B8 ?_;refine Cc (fun hb=>?_) fun hb=>?_
   ·rw [Bu] at hb
    rw [Ak hb] at hc;refine B8 ?_;refine Ci [] (k+1) A7 A7 ⟨rfl,A6 (fun n:Nat=>AV.c (vi (n:Int))) hc.symm,trivial⟩ ⟨rfl,rfl,rfl,rfl,rfl,rfl,trivial⟩
   rw [Bu] at hb;rw [Ab (by rw [hb];decide)] at hc;refine B8 ?_;refine Ci [] (k+1) A7 A7 ⟨rfl,A6 (fun n:Nat=>AV.c (vi (n:Int))) hc.symm,trivial⟩ ⟨rfl,rfl,rfl,rfl,rfl,rfl,trivial⟩
  obtain rfl:k=R.2.length:=by omega
  rw [hF,Hx];exact D0
 ·refine Fv [8] (fun k:Nat=>[(18,.c (vi k)),(6,.c (vi ((R.2.take k).filter id).length))]) (fun k=>[⟨3,[.own 4,.c (vi R.1.az.aq),.c (vi R.1.az.cap),.own 5,.own 6,.own 7,.own 8]⟩,⟨1,[.c (.val (.slice none 0 0)),.c (vi 0),.c (vi 0),.c (.val (.slice none 0 0)),.c (.val (.slice none 0 0)),.c (.val (.slice none 0 0)),.c (.val (.slice none 0 0))]⟩]) (fun k=>[⟨9,D9 R.2⟩,⟨4,Ax R.1.az.ak⟩,⟨5,Af R.1.aq⟩,⟨6,B7 R.1.ay⟩,⟨7,Au R.1.ap⟩,⟨8,Bd R.1.ac⟩]) (fun k=>k≤R.2.length) (fun k=>R.2.length-k) fun k hk=>?_
  conv=>whnf
  refine Eh (fun hlt=>?_) fun hlt=>?_
  ·have hlt:k<R.2.length:=by omega
   have hc:=A6r hlt;have hle:((R.2.take k).filter id).length≤k:=Ew (Ni _ _) (by rw [Eo];omega);refine B8 ?_;refine Cc (fun hb=>?_) fun hb=>?_
   ·rw [Bu] at hb
    rw [Ak hb] at hc;refine B8 ?_;refine Ci [] (k+1) A7 A7 ⟨rfl,A6 (fun n:Nat=>AV.c (vi (n:Int))) hc.symm,trivial⟩ ⟨rfl,rfl,rfl,rfl,rfl,rfl,trivial⟩
   rw [Bu] at hb;rw [Ab (by rw [hb];decide)] at hc;refine B8 ?_;refine Ci [] (k+1) A7 A7 ⟨rfl,A6 (fun n:Nat=>AV.c (vi (n:Int))) hc.symm,trivial⟩ ⟨rfl,rfl,rfl,rfl,rfl,rfl,trivial⟩
  obtain rfl:k=R.2.length:=by omega
  rw [hF,Hx];exact D0
 refine Fv [8] (fun k:Nat=>[(18,.c (vi k)),(6,.c (vi ((R.2.take k).filter id).length))]) (fun k=>[⟨9,[.own 3,.c (vi R.1.az.aq),.c (vi R.1.az.cap),.own 4,.own 5,.own 6,.own 7]⟩,⟨1,[.c (.val (.slice none 0 0)),.c (vi 0),.c (vi 0),.c (.val (.slice none 0 0)),.c (.val (.slice none 0 0)),.c (.val (.slice none 0 0)),.c (.val (.slice none 0 0))]⟩]) (fun k=>[⟨8,D9 R.2⟩,⟨3,Ax R.1.az.ak⟩,⟨4,Af R.1.aq⟩,⟨5,B7 R.1.ay⟩,⟨6,Au R.1.ap⟩,⟨7,Bd R.1.ac⟩]) (fun k=>k≤R.2.length) (fun k=>R.2.length-k) fun k hk=>?_;conv=>whnf
 refine Eh (fun hlt=>?_) fun hlt=>?_
 ·have hlt:k<R.2.length:=by omega
  have hc:=A6r hlt;have hle:((R.2.take k).filter id).length≤k:=Ew (Ni _ _) (by rw [Eo];omega);refine B8 ?_;refine Cc (fun hb=>?_) fun hb=>?_
  ·rw [Bu] at hb
   rw [Ak hb] at hc;refine B8 ?_;refine Ci [] (k+1) A7 A7 ⟨rfl,A6 (fun n:Nat=>AV.c (vi (n:Int))) hc.symm,trivial⟩ ⟨rfl,rfl,rfl,rfl,rfl,rfl,trivial⟩
  rw [Bu] at hb;rw [Ab (by rw [hb];decide)] at hc;refine B8 ?_;refine Ci [] (k+1) A7 A7 ⟨rfl,A6 (fun n:Nat=>AV.c (vi (n:Int))) hc.symm,trivial⟩ ⟨rfl,rfl,rfl,rfl,rfl,rfl,trivial⟩
 obtain rfl:k=R.2.length:=by omega
 rw [hF,Hx];exact D0
set_option maxHeartbeats 8000000 in
theorem A38 (x:A3)(most:Int)(h:x.w≤6000000)(hgo:M0 x):Dj 49 [.agg x.c,.one (vi most)] [.agg (E5 (Dl most 0 3000).toNat x).1.c,.one (vi (E5 (Dl most 0 3000).toNat x).2)]:=by
 have hb:=Hc most 0 3000 Cw;obtain ⟨n,hn⟩:∃n:Nat,Dl most 0 3000=n:=⟨(Dl most 0 3000).toNat,by omega⟩;rw [hn,Bu];refine E3 Tryz.func49 fun W=>?_;refine Gg (F3 x A7) ?_;refine Fv [11] (fun k:Nat=>[(7,.c (vi k))]) (fun k=>[⟨7,[.own 2,.c (vi (P9 x k).az.aq),.c (vi (P9 x k).az.cap),.own 3,.own 4,.own 5,.own 6]⟩,⟨1,[.c (.val (.slice none 0 0)),.c (vi 0),.c (vi 0),.c (.val (.slice none 0 0)),.c (.val (.slice none 0 0)),.c (.val (.slice none 0 0)),.c (.val (.slice none 0 0))]⟩]) (fun k=>[⟨2,Ax (P9 x k).az.ak⟩,⟨3,Af (P9 x k).aq⟩,⟨4,B7 (P9 x k).ay⟩,⟨5,Au (P9 x k).ap⟩,⟨6,Bd (P9 x k).ac⟩]) (fun k=>k≤n∧∀i,i<k→(C5 (P9 x i)).2≠0) (fun k=>n-k) fun k hk=>?_;obtain ⟨hk,he⟩:=hk;conv=>whnf
 refine F0 (Vv most 0 3000) ?_;rw [hn];refine Eh (fun hlt=>?_) fun hlt=>?_
 ·have hlt:k<n:=by omega
  have hw:=D09 x k;refine Ll (A97 (P9 x k) A7 (C9p hgo k)) rfl (Er ?_);refine L8 (fun h0=>?_) fun h0=>?_
  ·have h0:(C5 (P9 x k)).2=0:=by omega
   rw [A05 hlt he h0];exact D0
  have h0:(C5 (P9 x k)).2≠0:=by omega
  refine Ci [(2,8),(3,9),(4,10),(5,11),(6,12)] (k+1) ⟨by omega,fun i hi=>(X3.1 hi).elim (fun h4=>he i h4) (fun h4=>by subst h4;exact h0)⟩ A7 ⟨rfl,trivial⟩ ⟨rfl,rfl,rfl,rfl,rfl,trivial⟩
 obtain rfl:k=n:=by omega
 rw [A04 he];exact D0
structure B48 (p:Prop):Prop where
 out:p
theorem B70 (n:Int):Dj 126 [.one (vi n)] [.agg (Gx n).c]:=by
 refine E3 Tryz.func126 fun W=>?_;refine F0 (Wr n 1 4) ?_;exact D0
theorem B6c (n:Int):Dj 121 [.one (vi n)] [.agg (Gx n).c]:=by
 refine E3 Tryz.func121 fun W=>?_;refine F0 (Vv n 1 4) ?_;exact D0
theorem A7g {α:Type} [Inhabited α] (x:α)(n i:Nat)(h:x=default):(List.replicate n x).getD i default=x:=by
 simp only [List.getD,List.getElem?_replicate]
 split
 ·rfl
 exact h.symm
theorem C1u:(Ag.sl 4 1 fun _=>[.val (.int .i64 0)])=Ej (List.replicate 4 0):=A6 (Ag.sl 4 1) (funext fun i=>by rw [A7g (0:Int) 4 i rfl])
theorem A1n:(Ag.sl 4 1 fun _=>[.val (.bool false)])=D9 (List.replicate 4 false):=A6 (Ag.sl 4 1) (funext fun i=>by rw [A7g false 4 i rfl])
theorem Ic:(Ag.sl 4 5 fun _=>[.val (.bool false),.val (.int .i64 0),.val (.int .i64 0),.val (.bool false),.val (.bool false)])=Au (List.replicate 4 default):=A6 (Ag.sl 4 5) (funext fun i=>by rw [A7g (default:G9) 4 i rfl];rfl)
def O3 (xs:List Aa):Ae:=⟨[],[],xs,[],List.replicate 4 0,List.replicate 4 false,List.replicate 4 false,[]⟩
set_option maxHeartbeats 1600000 in
theorem B0t (xs:List Aa)(hx:xs.length≤16777216):Dj 124 [.one (A9 xs)] [.agg (O3 xs).c]:=by
 refine E3 Tryz.func124 fun W=>?_;refine Ux rfl ?_
 repeat' (first
   |(first|refine C4f A0 false 1 rfl rfl rfl (by decide+kernel) rfl (Q0 B8n) ?_|refine C4f A0 false 3 rfl rfl rfl (by decide+kernel) rfl (Q0 B8n) ?_|refine C4f A0 false 5 rfl rfl rfl (by decide+kernel) rfl (Q0 B8n) ?_|refine C4f A0 false 7 rfl rfl rfl (by decide+kernel) rfl (Q0 B8n) ?_)
   |((first|refine Ay [0,4,6,8] (by decide+kernel) ⟨?_,?_,?_,?_,trivial⟩|refine Ay [2,4,6,8] (by decide+kernel) ⟨?_,?_,?_,?_,trivial⟩|refine Ay [4,6,8] (by decide+kernel) ⟨?_,?_,?_,trivial⟩|refine Ay [6,8] (by decide+kernel) ⟨?_,?_,trivial⟩|refine Ay [8] (by decide+kernel) ⟨?_,trivial⟩|refine Ay [9] (by decide+kernel) ⟨?_,trivial⟩|refine Ay [10] (by decide+kernel) ⟨?_,trivial⟩|refine Ay [6] (by decide+kernel) ⟨?_,trivial⟩|refine Ay [4,8] (by decide+kernel) ⟨?_,?_,trivial⟩|refine Ay [4] (by decide+kernel) ⟨?_,trivial⟩|refine Ay [4,6] (by decide+kernel) ⟨?_,?_,trivial⟩|refine Ay [2,6,8] (by decide+kernel) ⟨?_,?_,?_,trivial⟩|refine Ay [2,8] (by decide+kernel) ⟨?_,?_,trivial⟩|refine Ay [2] (by decide+kernel) ⟨?_,trivial⟩|refine Ay [2,6] (by decide+kernel) ⟨?_,?_,trivial⟩|refine Ay [2,4,8] (by decide+kernel) ⟨?_,?_,?_,trivial⟩|refine Ay [2,4] (by decide+kernel) ⟨?_,?_,trivial⟩|refine Ay [2,4,6] (by decide+kernel) ⟨?_,?_,?_,trivial⟩|refine Ay [0,6,8] (by decide+kernel) ⟨?_,?_,?_,trivial⟩|refine Ay [0,8] (by decide+kernel) ⟨?_,?_,trivial⟩|refine Ay [0] (by decide+kernel) ⟨?_,trivial⟩|refine Ay [0,6] (by decide+kernel) ⟨?_,?_,trivial⟩|refine Ay [0,4,8] (by decide+kernel) ⟨?_,?_,?_,trivial⟩|refine Ay [0,4] (by decide+kernel) ⟨?_,?_,trivial⟩|refine Ay [0,4,6] (by decide+kernel) ⟨?_,?_,?_,trivial⟩)<;>(refine go A0 false ?_;(conv=>whnf);(first|(refine B9 A0 rfl (A9 xs) (Bs) (fun _=>Iz xs) A7 (Iv ?_);(conv=>whnf))|(repeat (refine H8 ?_;(conv=>whnf))));refine Az ?_))
   |refine Uw (by decide+kernel) (B48.out ?_))
 all_goals
  refine B48.mk (Aj ?_)
 all_goals
  refine An A0 rfl rfl ⟨⟨.inr ⟨rfl,rfl,_,_,rfl⟩,.inr ⟨rfl,rfl,_,_,rfl⟩,?_,.inr ⟨rfl,rfl,_,_,rfl⟩,?_,?_,?_,.inr ⟨rfl,rfl,_,_,rfl⟩,trivial⟩,trivial⟩
  ·exact (rfl:A9 xs=A9 xs)
  ·exact C1u
  ·exact A1n
  exact A1n
set_option maxHeartbeats 1600000 in
theorem B0f (xs:List Aa)(hx:xs.length≤16777216):Dj 120 [.one (A9 xs)] [.agg (O3 xs).c]:=by
 refine E3 Tryz.func120 fun W=>?_;refine Ux rfl ?_
 repeat' (first
   |(first|refine C4f A0 false 0 rfl rfl rfl (by decide+kernel) rfl (Q0 B8n) ?_)
   |((first|refine Ay [1,2,3,4] (by decide+kernel) ⟨?_,?_,?_,?_,trivial⟩|refine Ay [2,3,4] (by decide+kernel) ⟨?_,?_,?_,trivial⟩|refine Ay [3,4] (by decide+kernel) ⟨?_,?_,trivial⟩|refine Ay [4] (by decide+kernel) ⟨?_,trivial⟩|refine Ay [5] (by decide+kernel) ⟨?_,trivial⟩|refine Ay [6] (by decide+kernel) ⟨?_,trivial⟩|refine Ay [3] (by decide+kernel) ⟨?_,trivial⟩|refine Ay [2,4] (by decide+kernel) ⟨?_,?_,trivial⟩|refine Ay [2] (by decide+kernel) ⟨?_,trivial⟩|refine Ay [2,3] (by decide+kernel) ⟨?_,?_,trivial⟩|refine Ay [1,3,4] (by decide+kernel) ⟨?_,?_,?_,trivial⟩|refine Ay [1,4] (by decide+kernel) ⟨?_,?_,trivial⟩|refine Ay [1] (by decide+kernel) ⟨?_,trivial⟩|refine Ay [1,3] (by decide+kernel) ⟨?_,?_,trivial⟩|refine Ay [1,2,4] (by decide+kernel) ⟨?_,?_,?_,trivial⟩|refine Ay [1,2] (by decide+kernel) ⟨?_,?_,trivial⟩|refine Ay [1,2,3] (by decide+kernel) ⟨?_,?_,?_,trivial⟩)<;>(refine go A0 false ?_;(conv=>whnf);(first|(refine Ll (Jv xs A7) rfl (Iv ?_);(conv=>whnf))|(repeat (refine H8 ?_;(conv=>whnf))));refine Az ?_))
   |refine Uw (by decide+kernel) (B48.out ?_))
 all_goals
  refine B48.mk (Aj ?_)
 all_goals
  refine An A0 rfl rfl ⟨⟨.inr ⟨rfl,rfl,_,_,rfl⟩,.inr ⟨rfl,rfl,_,_,rfl⟩,?_,.inr ⟨rfl,rfl,_,_,rfl⟩,?_,?_,?_,.inr ⟨rfl,rfl,_,_,rfl⟩,trivial⟩,trivial⟩
  ·exact (rfl:A9 xs=A9 xs)
  ·exact C1u
  ·exact A1n
  exact A1n
def Qg (n:Int) (l:List Aa) (w:Int) (k:Nat):List Aa:=(List.range k).flatMap fun (e:Nat)=>(F6 l e).filter fun r=>Es r.key n==w
theorem A21 (n:Int)(l:List Aa)(w:Int)(k:Nat):Qg n l w (k+1)=Qg n l w k++(F6 l k).filter fun r=>Es r.key n==w:=by
 rw [Qg,Sj,A0k]
 simp [Qg]
theorem W7 (n:Int)(l:List Aa)(w:Int)(k:Nat):(Qg n l w k).length≤k * l.length:=by
 induction k with
 |zero=>simp [Qg]
 |succ k ih=>
  rw [A21,D7,Pc];have h1:=Ni (fun r:Aa=>Es r.key n==w) (F6 l k);have h2:=Ny l k;omega
def oP (n:Int) (w:Int) (e:Nat) (r:Aa):Bool:=(r.am.ab==(e:Int))&&(Es r.key n==w)
theorem C36 (n:Int)(l:List Aa)(w:Int)(e:Nat):l.filter (oP n w e)=(F6 l e).filter fun r=>Es r.key n==w:=by
 show _=List.filter _ (List.filter _ l)
 rw [List.filter_filter]
 congr 1
 funext r
 rw [oP,Bool.and_comm]
set_option maxHeartbeats 1600000 in
theorem D0x (g:B2)(l:List Aa)(w:Int)(hl:l.length≤20)(hg:g.aq≤4):Dj 125 [.agg g.c,.one (A9 l),.one (vi w)] [.one (A9 (Qg g.aq l w 4))]:=by
 refine E3 Tryz.func125 fun W=>?_;refine H5 1 (A9 []) rfl C3 ?_;refine Fv [9,10] (fun k:Nat=>[(8,.c (vi k))]) (fun k=>[⟨0,[.c (Ax g.ak),.c (vi g.aq),.c (vi g.cap)]⟩]) (fun k=>[⟨1,A9 (Qg g.aq l w k)⟩]) (fun k=>k≤4) (fun k=>4-k) fun k hk=>?_;refine Cc (fun h=>?_) fun h=>?_
 ·have h:k<4:=by have:=Bj h;omega
  have hk1:=W7 g.aq l w k;have hk2:k * l.length≤80:=Ew (Wx (show k≤4 by omega) hl) Cw
  refine Fv [] (fun j:Nat=>[(9,.c (vi j))]) (fun j=>[⟨0,[.c (Ax g.ak),.c (vi g.aq),.c (vi g.cap)]⟩]) (fun j=>[⟨1,A9 (Qg g.aq l w k++(l.take j).filter (oP g.aq w k))⟩]) (fun j=>j≤l.length) (fun j=>l.length-j) fun j hj=>?_;conv=>whnf
  refine Eh (fun h2=>?_) fun h2=>?_
  ·have h2:j<l.length:=by omega
   have hs:=Em (oP g.aq w k) l j h2;have hb:=Dx (oP g.aq w k) l j
   first|(refine Al 8 rfl [0,1,2,3,4,5,6,7,8,9,10,11,12,13,14,15,17,16,18,19] Ah (Aj ?_))
   refine B8 ?_;refine Cc (fun h3=>?_) fun h3=>?_
   ·rw [Bu] at h3
    refine Ar ?_;refine As (A44 (l.getD j default).key g.aq A7) rfl (Hd ?_);refine Cc (fun h4=>?_) fun h4=>?_
    ·have h5:oP g.aq w k (l.getD j default)=true:=by rw [oP,h3,h4];rfl
     refine B8 ?_;refine B9 A0 rfl (A9 (Qg g.aq l w k++(l.take j).filter (oP g.aq w k)++[l.getD j default])) (Ao rfl) Hy (by (rw [D7];omega)) (Er ?_);refine Ci [(1,3)] (j+1) A7 A7 ⟨rfl,trivial⟩ ⟨A6 A9 (by rw [hs,Ak h5,Cv]),trivial⟩
    have h5:oP g.aq w k (l.getD j default)=false:=by rw [oP,h4,Bool.and_false]
    refine Ar ?_;refine Ci [] (j+1) A7 A7 ⟨rfl,trivial⟩ ⟨A6 A9 (by rw [hs,Ab (by rw [h5];decide),Hw]),trivial⟩
   rw [Bu] at h3;have h5:oP g.aq w k (l.getD j default)=false:=by rw [oP,h3,Bool.false_and]
   refine Ar ?_;refine Ci [] (j+1) A7 A7 ⟨rfl,trivial⟩ ⟨A6 A9 (by rw [hs,Ab (by rw [h5];decide),Hw]),trivial⟩
  refine B8 ?_;refine Ci [] (k+1) A7 A7 ⟨rfl,trivial⟩ ⟨A6 A9 (by rw [A21,←C36,K0 A7]),trivial⟩
 have h:¬ k<4:=by have:=Cr h;omega
 obtain rfl:k=4:=by omega
 exact D0
def InP (r:Aa):Prop:=Gu r∧r.op=0∧r.am.turn=0
variable {l : List Aa}
theorem N3 {g:B2}(h:¬ A49 g l):Bg g l=(L3,false):=Ab h
theorem Xl {g:B2}(h:A49 g l):Bg g l=(⟨g,Ef g.aq l g.aq.toNat,List.replicate (g.aq.toNat * g.aq.toNat) (Gx g.cap),List.replicate 4 default,[]⟩,true):=Ak h
theorem A2y (n:Int)(l:List Aa)(k:Nat):Ef n l (k+1)=Ef n l k++[O3 (Qg n l k 4)]:=by
 rw [Ef,Sj,Qs];rfl
theorem A76 (n:Int)(l:List Aa)(k:Nat):(Ef n l k).length=k:=by rw [Ef,J8,Rt]
set_option maxHeartbeats 8000000 in
theorem A84 (g:B2)(l:List Aa)(hg:g.w≤16777216)(hl:l.length≤16777216):Dj 62 [.agg g.c,.one (A9 l)] [.agg (Bg g l).1.c,.one (vb (Bg g l).2)]:=by
 refine E3 Tryz.func62 fun W=>?_;refine F0 (Oq g A7) ?_;refine Cc (fun h1=>?_) fun h1=>?_
 ·have h1:F5 g=false:=by simpa using h1
  refine Ar ?_;rw [N3 (fun p=>absurd p.1 (Cr h1))];exact D0
 have h1:I4 g:=Bj (show F5 g=true by simpa using h1)
 refine Ar ?_;refine Cc (fun h2=>?_) fun h2=>?_
 ·have h2:¬ l.length≤20:=by have:=Bj h2;omega
  refine Ar ?_;rw [N3 (fun p=>h2 p.2.1)];exact D0
 have h2:l.length≤20:=by have:=Cr h2;omega
 refine Ar ?_;have hwk:=h1.2.1;obtain ⟨n,hn⟩:∃n:Nat,g.aq=n:=⟨g.aq.toNat,by omega⟩;refine Fv [] (fun k:Nat=>[(6,.c (vi k))]) (fun k=>[⟨0,[.c (Ax g.ak),.c (vi g.aq),.c (vi g.cap)]⟩,⟨1,[.c (.val (.slice none 0 0)),.c (vi 0),.c (vi 0),.c (.val (.slice none 0 0)),.c (.val (.slice none 0 0)),.c (.val (.slice none 0 0)),.c (.val (.slice none 0 0))]⟩]) (fun k=>[]) (fun k=>k≤l.length∧∀i,i<k→InP (l.getD i default)) (fun k=>l.length-k) fun k hk=>?_;obtain ⟨hk,he⟩:=hk;conv=>whnf
 refine Eh (fun h3=>?_) fun h3=>?_
 ·have h3:k<l.length:=by omega
  refine B8 ?_;refine As (Jo (l.getD k default)) rfl (Hd ?_);refine Cc (fun h4=>?_) fun h4=>?_
  ·have h4:F8 (l.getD k default)=false:=by simpa using h4
   refine Ar ?_;rw [N3 (fun p=>absurd (p.2.2 _ (Am h3)).1 (Cr h4))];exact D0
  have h4:Gu (l.getD k default):=Bj (show F8 (l.getD k default)=true by simpa using h4)
  refine Ar ?_;refine zne (fun h5=>?_) fun h5=>?_
  ·have h5:(l.getD k default).op≠0:=h5
   refine Ar ?_;rw [N3 (fun p=>h5 (p.2.2 _ (Am h3)).2.1)];exact D0
  have h5:(l.getD k default).op=0:=h5;refine Ar ?_;refine zne (fun h6=>?_) fun h6=>?_
  ·have h6:(l.getD k default).am.turn≠0:=h6
   refine Ar ?_;rw [N3 (fun p=>h6 (p.2.2 _ (Am h3)).2.2)];exact D0
  have h6:(l.getD k default).am.turn=0:=h6;refine Ar ?_;refine Ci [] (k+1) ⟨by omega,fun i hi=>(X3.1 hi).elim (fun h7=>he i h7) (fun h7=>by subst h7;exact ⟨h4,h5,h6⟩)⟩ A7 ⟨rfl,trivial⟩ trivial
 have hN:A49 g l:=⟨h1,h2,fun r hr=>by
  obtain ⟨i,hi,rfl⟩:=Ry hr
  have:=he i A7
  rw [show l.getD i default=l[i] by simp [List.getD,hi]] at this
  exact this⟩
 rw [Xl hN];refine C09 3 ?_;refine C9e A0 false (J:=Unit) [49,50,51,52] (fun _=>[(7,.box 2 0)]) (fun _=>[⟨2,[.own 3,.c (vi g.aq),.c (vi g.cap),.c (.val (.slice none 0 0)),.c (.val (.slice none 0 0)),.own 4,.c (.val (.slice none 0 0))]⟩,⟨0,[.c (Ax g.ak),.c (vi g.aq),.c (vi g.cap)]⟩,⟨1,[.c (.val (.slice none 0 0)),.c (vi 0),.c (vi 0),.c (.val (.slice none 0 0)),.c (.val (.slice none 0 0)),.c (.val (.slice none 0 0)),.c (.val (.slice none 0 0))]⟩]) (fun _=>[⟨3,Ax g.ak⟩,⟨4,Au (List.replicate 4 default)⟩]) (fun _=>True) ?_ (fun _ _=>?_)
 ·conv=>whnf
  refine Ux rfl ?_
  repeat' (first
    |((first|refine Ay [0,2,4] (by decide+kernel) ⟨?_,?_,?_,trivial⟩|refine Ay [1,2,4] (by decide+kernel) ⟨?_,?_,?_,trivial⟩|refine Ay [2,4] (by decide+kernel) ⟨?_,?_,trivial⟩|refine Ay [3,4] (by decide+kernel) ⟨?_,?_,trivial⟩|refine Ay [4] (by decide+kernel) ⟨?_,trivial⟩|refine Ay [5] (by decide+kernel) ⟨?_,trivial⟩|refine Ay [3] (by decide+kernel) ⟨?_,trivial⟩|refine Ay [2] (by decide+kernel) ⟨?_,trivial⟩|refine Ay [1,4] (by decide+kernel) ⟨?_,?_,trivial⟩|refine Ay [1] (by decide+kernel) ⟨?_,trivial⟩|refine Ay [1,2] (by decide+kernel) ⟨?_,?_,trivial⟩|refine Ay [0,4] (by decide+kernel) ⟨?_,?_,trivial⟩|refine Ay [0] (by decide+kernel) ⟨?_,trivial⟩|refine Ay [0,2] (by decide+kernel) ⟨?_,?_,trivial⟩)<;>(refine go A0 false ?_;(conv=>whnf);(first|(refine Ll (Sf g hg) rfl (Iv ?_);(conv=>whnf))|(repeat (refine H8 ?_;(conv=>whnf))));refine Az ?_))
    |refine Uw (by decide+kernel) (B48.out ?_))
  all_goals
   refine B48.mk (Aj ?_)
  all_goals first|exact Ci [(2,5),(3,6),(4,7)] (()) (trivial) Qu ⟨rfl,trivial⟩ ⟨rfl,Ic,trivial⟩|exact Ci [(2,5),(3,7),(4,6)] (()) (trivial) Qu ⟨rfl,trivial⟩ ⟨rfl,Ic,trivial⟩|exact Ci [(2,6),(3,5),(4,7)] (()) (trivial) Qu ⟨rfl,trivial⟩ ⟨rfl,Ic,trivial⟩|exact Ci [(2,6),(3,7),(4,5)] (()) (trivial) Qu ⟨rfl,trivial⟩ ⟨rfl,Ic,trivial⟩|exact Ci [(2,7),(3,5),(4,6)] (()) (trivial) Qu ⟨rfl,trivial⟩ ⟨rfl,Ic,trivial⟩|exact Ci [(2,7),(3,6),(4,5)] (()) (trivial) Qu ⟨rfl,trivial⟩ ⟨rfl,Ic,trivial⟩
 clear he
 refine Xy 2 3 8 (fun i=>Ae.c (([]:List Ae).getD i default)) rfl rfl ?_;refine Xy 2 4 6 (fun i=>D4.c (([]:List D4).getD i default)) rfl rfl ?_;refine H5 6 (B7 (List.replicate (0 * n) (Gx g.cap))) rfl (by rw [Nat.zero_mul];exact C3) ?_;refine Fv [9,53,54,55,56,57,58,59,60,61,62,63,64,65,66,67,68,69,70,71,72,73,74,75,76,77,78,79,80,81,82,83] (fun k:Nat=>[(8,.c (vi k))]) (fun k=>[⟨2,[.own 3,.c (vi g.aq),.c (vi g.cap),.own 5,.own 6,.own 4,.c (.val (.slice none 0 0))]⟩,⟨0,[.c (Ax g.ak),.c (vi g.aq),.c (vi g.cap)]⟩,⟨1,[.c (.val (.slice none 0 0)),.c (vi 0),.c (vi 0),.c (.val (.slice none 0 0)),.c (.val (.slice none 0 0)),.c (.val (.slice none 0 0)),.c (.val (.slice none 0 0))]⟩]) (fun k=>[⟨3,Ax g.ak⟩,⟨4,Au (List.replicate 4 default)⟩,⟨5,Af (Ef g.aq l k)⟩,⟨6,B7 (List.replicate (k * n) (Gx g.cap))⟩]) (fun k=>k≤n) (fun k=>n-k) fun k hk=>?_;conv=>whnf
 refine Eh (fun hlt=>?_) fun hlt=>?_
 ·have hlt:k<n:=by omega
  have hkl:=A76 g.aq l k;have hol:=W7 g.aq l k 4
  first|(refine Al 8 rfl [0,1,2,3,4,5] Ah (Aj ?_))|(refine Al 12 rfl [0,1,2,3,4,5,6,7,8,9,10] Ah (Aj ?_))|(refine Al 16 rfl [0,1,2,3,4,5,6,7,8] Ah (Aj ?_))
  refine Gg (D0x g l k h2 A7) ?_;refine Gg (B0t (Qg g.aq l k 4) A7) ?_;refine Mv A0 rfl (Aj ?_);refine B9 A0 rfl (Af (Ef g.aq l k++[O3 (Qg g.aq l k 4)])) (Ao rfl) Hy A7 (Aj ?_);rw [←A2y];refine Fv [69,70,71,72,73,74,75,76,77,78,79,80,81,82] (fun j:Nat=>[(9,.c (vi j))]) (fun j=>[⟨2,[.own 3,.c (vi g.aq),.c (vi g.cap),.own 17,.own 6,.own 4,.c (.val (.slice none 0 0))]⟩,⟨0,[.c (Ax g.ak),.c (vi g.aq),.c (vi g.cap)]⟩,⟨1,[.c (.val (.slice none 0 0)),.c (vi 0),.c (vi 0),.c (.val (.slice none 0 0)),.c (.val (.slice none 0 0)),.c (.val (.slice none 0 0)),.c (.val (.slice none 0 0))]⟩]) (fun j=>[⟨3,Ax g.ak⟩,⟨4,Au (List.replicate 4 default)⟩,⟨17,Af (Ef g.aq l (k+1))⟩,⟨6,B7 (List.replicate (k * n+j) (Gx g.cap))⟩]) (fun j=>j≤n) (fun j=>n-j) fun j hj=>?_;conv=>whnf
  refine Eh (fun hlt2=>?_) fun hlt2=>?_
  ·have hlt2:j<n:=by omega
   have hkn:k * n≤16:=Ew (Wx (show k≤4 by omega) (show n≤4 by omega)) Cw
   first|(refine Al 8 rfl [0,1,2,3,4,5] Ah (Aj ?_))|(refine Al 12 rfl [0,1,2,3,4,5,6,7,8,9,10] Ah (Aj ?_))|(refine Al 16 rfl [0,1,2,3,4,5,6,7,8] Ah (Aj ?_))
   refine Gg (B70 g.cap) ?_;refine Mv A0 rfl (Aj ?_);refine B9 A0 rfl (B7 (List.replicate (k * n+j) (Gx g.cap)++[Gx g.cap])) (Ao rfl) Hy (by (rw [X7];omega)) (Er ?_);refine Ci [(6,20)] (j+1) A7 A7 ⟨rfl,trivial⟩ ⟨rfl,rfl,rfl,A6 B7 (by rw [show k * n+(j+1)=(k * n+j)+1 by omega,List.replicate_succ']),trivial⟩
  obtain rfl:j=n:=by omega
  refine B8 ?_;refine Ci [(5,17)] (k+1) A7 A7 ⟨rfl,trivial⟩ ⟨rfl,rfl,rfl,A6 (fun m=>B7 (List.replicate m (Gx g.cap))) (by rw [Pc]),trivial⟩
 obtain rfl:k=n:=by omega
 rw [show g.aq.toNat=k by omega]
 refine B8 ?_;exact D0
set_option maxHeartbeats 8000000 in
theorem A7i (g:B2)(l:List Aa)(hg:g.w≤16777216)(hl:l.length≤16777216):Dj 60 [.agg g.c,.one (A9 l)] [.agg (Bg g l).1.c,.one (vb (Bg g l).2)]:=by
 refine E3 Tryz.func60 fun W=>?_;refine F0 (Kj g A7) ?_;refine Cc (fun h1=>?_) fun h1=>?_
 ·have h1:F5 g=false:=by simpa using h1
  refine Ar ?_;rw [N3 (fun p=>absurd p.1 (Cr h1))];exact D0
 have h1:I4 g:=Bj (show F5 g=true by simpa using h1)
 refine Ar ?_;refine Cc (fun h2=>?_) fun h2=>?_
 ·have h2:¬ l.length≤20:=by have:=Bj h2;omega
  refine Ar ?_;rw [N3 (fun p=>h2 p.2.1)];exact D0
 have h2:l.length≤20:=by have:=Cr h2;omega
 refine Ar ?_;have hwk:=h1.2.1;obtain ⟨n,hn⟩:∃n:Nat,g.aq=n:=⟨g.aq.toNat,by omega⟩;refine Fv [] (fun k:Nat=>[(26,.c (vi k))]) (fun k=>[⟨0,[.c (Ax g.ak),.c (vi g.aq),.c (vi g.cap)]⟩,⟨1,[.c (.val (.slice none 0 0)),.c (vi 0),.c (vi 0),.c (.val (.slice none 0 0)),.c (.val (.slice none 0 0)),.c (.val (.slice none 0 0)),.c (.val (.slice none 0 0))]⟩]) (fun k=>[]) (fun k=>k≤l.length∧∀i,i<k→InP (l.getD i default)) (fun k=>l.length-k) fun k hk=>?_;obtain ⟨hk,he⟩:=hk;conv=>whnf
 refine Eh (fun h3=>?_) fun h3=>?_
 ·have h3:k<l.length:=by omega
  refine B8 ?_;refine As (Ih (l.getD k default)) rfl (Hd ?_);refine Cc (fun h4=>?_) fun h4=>?_
  ·have h4:F8 (l.getD k default)=false:=by simpa using h4
   refine Ar ?_;rw [N3 (fun p=>absurd (p.2.2 _ (Am h3)).1 (Cr h4))];exact D0
  have h4:Gu (l.getD k default):=Bj (show F8 (l.getD k default)=true by simpa using h4)
  refine Ar ?_;refine zne (fun h5=>?_) fun h5=>?_
  ·have h5:(l.getD k default).op≠0:=h5
   refine Ar ?_;rw [N3 (fun p=>h5 (p.2.2 _ (Am h3)).2.1)];exact D0
  have h5:(l.getD k default).op=0:=h5;refine Ar ?_;refine zne (fun h6=>?_) fun h6=>?_
  ·have h6:(l.getD k default).am.turn≠0:=h6
   refine Ar ?_;rw [N3 (fun p=>h6 (p.2.2 _ (Am h3)).2.2)];exact D0
  have h6:(l.getD k default).am.turn=0:=h6;refine Ar ?_;refine Ci [] (k+1) ⟨by omega,fun i hi=>(X3.1 hi).elim (fun h7=>he i h7) (fun h7=>by subst h7;exact ⟨h4,h5,h6⟩)⟩ A7 ⟨rfl,trivial⟩ trivial
 have hN:A49 g l:=⟨h1,h2,fun r hr=>by
  obtain ⟨i,hi,rfl⟩:=Ry hr
  have:=he i A7
  rw [show l.getD i default=l[i] by simp [List.getD,hi]] at this
  exact this⟩
 rw [Xl hN];refine C09 3 ?_;refine C9e A0 false (J:=Unit) [46,47,48,49] (fun _=>[(8,.box 2 0)]) (fun _=>[⟨2,[.own 3,.c (vi g.aq),.c (vi g.cap),.c (.val (.slice none 0 0)),.c (.val (.slice none 0 0)),.own 4,.c (.val (.slice none 0 0))]⟩,⟨0,[.c (Ax g.ak),.c (vi g.aq),.c (vi g.cap)]⟩,⟨1,[.c (.val (.slice none 0 0)),.c (vi 0),.c (vi 0),.c (.val (.slice none 0 0)),.c (.val (.slice none 0 0)),.c (.val (.slice none 0 0)),.c (.val (.slice none 0 0))]⟩]) (fun _=>[⟨3,Ax g.ak⟩,⟨4,Au (List.replicate 4 default)⟩]) (fun _=>True) ?_ (fun _ _=>?_)
 ·conv=>whnf
  refine Ux rfl ?_
  repeat' (first
    |((first|refine Ay [0,2,4] (by decide+kernel) ⟨?_,?_,?_,trivial⟩|refine Ay [1,2,4] (by decide+kernel) ⟨?_,?_,?_,trivial⟩|refine Ay [2,4] (by decide+kernel) ⟨?_,?_,trivial⟩|refine Ay [3,4] (by decide+kernel) ⟨?_,?_,trivial⟩|refine Ay [4] (by decide+kernel) ⟨?_,trivial⟩|refine Ay [5] (by decide+kernel) ⟨?_,trivial⟩|refine Ay [3] (by decide+kernel) ⟨?_,trivial⟩|refine Ay [2] (by decide+kernel) ⟨?_,trivial⟩|refine Ay [1,4] (by decide+kernel) ⟨?_,?_,trivial⟩|refine Ay [1] (by decide+kernel) ⟨?_,trivial⟩|refine Ay [1,2] (by decide+kernel) ⟨?_,?_,trivial⟩|refine Ay [0,4] (by decide+kernel) ⟨?_,?_,trivial⟩|refine Ay [0] (by decide+kernel) ⟨?_,trivial⟩|refine Ay [0,2] (by decide+kernel) ⟨?_,?_,trivial⟩)<;>(refine go A0 false ?_;(conv=>whnf);(first|(refine Ll (S3 g hg) rfl (Iv ?_);(conv=>whnf))|(repeat (refine H8 ?_;(conv=>whnf))));refine Az ?_))
    |refine Uw (by decide+kernel) (B48.out ?_))
  all_goals
   refine B48.mk (Aj ?_)
  all_goals first|exact Ci [(2,5),(3,6),(4,7)] (()) (trivial) Qu ⟨rfl,trivial⟩ ⟨rfl,Ic,trivial⟩|exact Ci [(2,5),(3,7),(4,6)] (()) (trivial) Qu ⟨rfl,trivial⟩ ⟨rfl,Ic,trivial⟩|exact Ci [(2,6),(3,5),(4,7)] (()) (trivial) Qu ⟨rfl,trivial⟩ ⟨rfl,Ic,trivial⟩|exact Ci [(2,6),(3,7),(4,5)] (()) (trivial) Qu ⟨rfl,trivial⟩ ⟨rfl,Ic,trivial⟩|exact Ci [(2,7),(3,5),(4,6)] (()) (trivial) Qu ⟨rfl,trivial⟩ ⟨rfl,Ic,trivial⟩|exact Ci [(2,7),(3,6),(4,5)] (()) (trivial) Qu ⟨rfl,trivial⟩ ⟨rfl,Ic,trivial⟩
 clear he
 refine Xy 2 3 8 (fun i=>Ae.c (([]:List Ae).getD i default)) rfl rfl ?_;refine Xy 2 4 6 (fun i=>D4.c (([]:List D4).getD i default)) rfl rfl ?_;refine H5 6 (B7 (List.replicate (0 * n) (Gx g.cap))) rfl (by rw [Nat.zero_mul];exact C3) ?_;refine Fv [10,11,12,13,14,50,51,52,53,54,55,56,57,58,59,60,61,62,63,64,65,66,67,68,69,70,71,72,73,74,75,76,77,78,79,80,81,82,83,84,85,86,87,88,89,90,91,92,93,94,95,96,97,98,99,100] (fun k:Nat=>[(9,.c (vi k))]) (fun k=>[⟨2,[.own 3,.c (vi g.aq),.c (vi g.cap),.own 5,.own 6,.own 4,.c (.val (.slice none 0 0))]⟩,⟨0,[.c (Ax g.ak),.c (vi g.aq),.c (vi g.cap)]⟩,⟨1,[.c (.val (.slice none 0 0)),.c (vi 0),.c (vi 0),.c (.val (.slice none 0 0)),.c (.val (.slice none 0 0)),.c (.val (.slice none 0 0)),.c (.val (.slice none 0 0))]⟩]) (fun k=>[⟨3,Ax g.ak⟩,⟨4,Au (List.replicate 4 default)⟩,⟨5,Af (Ef g.aq l k)⟩,⟨6,B7 (List.replicate (k * n) (Gx g.cap))⟩]) (fun k=>k≤n) (fun k=>n-k) fun k hk=>?_;conv=>whnf
 refine Eh (fun hlt=>?_) fun hlt=>?_
 ·have hlt:k<n:=by omega
  have hkl:=A76 g.aq l k;have hol:=W7 g.aq l k 4;refine U4 10 5 (fun i=>Aa.c (([]:List Aa).getD i default)) rfl ?_;refine Fv [] (fun e:Nat=>[(11,.c (vi e))]) (fun e=>[⟨2,[.own 3,.c (vi g.aq),.c (vi g.cap),.own 5,.own 6,.own 4,.c (.val (.slice none 0 0))]⟩,⟨0,[.c (Ax g.ak),.c (vi g.aq),.c (vi g.cap)]⟩,⟨1,[.c (.val (.slice none 0 0)),.c (vi 0),.c (vi 0),.c (.val (.slice none 0 0)),.c (.val (.slice none 0 0)),.c (.val (.slice none 0 0)),.c (.val (.slice none 0 0))]⟩]) (fun e=>[⟨3,Ax g.ak⟩,⟨4,Au (List.replicate 4 default)⟩,⟨5,Af (Ef g.aq l k)⟩,⟨6,B7 (List.replicate (k * n) (Gx g.cap))⟩,⟨7,A9 (Qg g.aq l k e)⟩]) (fun e=>e≤4) (fun e=>4-e) fun e he=>?_;conv=>whnf
  refine Cc (fun hE=>?_) fun hE=>?_
  ·have hE:e<4:=by have:=Bj hE;omega
   have hk1:=W7 g.aq l k e;have hk2:e * l.length≤80:=Ew (Wx (show e≤4 by omega) h2) Cw
   have hel:=Ny l e;refine Gg (Vx l e A7) ?_;refine Fv [] (fun j:Nat=>[(64,.c (vi j))]) (fun j=>[⟨2,[.own 3,.c (vi g.aq),.c (vi g.cap),.own 5,.own 6,.own 4,.c (.val (.slice none 0 0))]⟩,⟨0,[.c (Ax g.ak),.c (vi g.aq),.c (vi g.cap)]⟩,⟨1,[.c (.val (.slice none 0 0)),.c (vi 0),.c (vi 0),.c (.val (.slice none 0 0)),.c (.val (.slice none 0 0)),.c (.val (.slice none 0 0)),.c (.val (.slice none 0 0))]⟩]) (fun j=>[⟨3,Ax g.ak⟩,⟨4,Au (List.replicate 4 default)⟩,⟨5,Af (Ef g.aq l k)⟩,⟨6,B7 (List.replicate (k * n) (Gx g.cap))⟩,⟨8,A9 (F6 l e)⟩,⟨7,A9 (Qg g.aq l k e++((F6 l e).take j).filter (fun r=>Es r.key g.aq==k))⟩]) (fun j=>j≤(F6 l e).length) (fun j=>(F6 l e).length-j) fun j hj=>?_;conv=>whnf
   refine Eh (fun hj2=>?_) fun hj2=>?_
   ·have hj2:j<(F6 l e).length:=by omega
    have hs:=Em (fun r=>Es r.key g.aq==(k:Int)) (F6 l e) j hj2;have hb:=Dx (fun r=>Es r.key g.aq==(k:Int)) (F6 l e) j;refine B8 ?_;refine F0 (A4a ((F6 l e).getD j default).key g.aq A7) ?_;refine Cc (fun h4=>?_) fun h4=>?_
    ·refine B8 ?_
     refine B9 A0 rfl (A9 (Qg g.aq l k e++((F6 l e).take j).filter (fun r=>Es r.key g.aq==k)++[(F6 l e).getD j default])) (Ao rfl) Hy (by (rw [D7];omega)) (Er ?_);refine Ci [(7,11)] (j+1) A7 A7 ⟨rfl,trivial⟩ ⟨rfl,rfl,rfl,rfl,rfl,A6 A9 (by rw [hs,Ak h4,Cv]),trivial⟩
    refine B8 ?_;refine Ci [] (j+1) A7 A7 ⟨rfl,trivial⟩ ⟨rfl,rfl,rfl,rfl,rfl,A6 A9 (by rw [hs,Ab (by rw [h4];decide),Hw]),trivial⟩
   refine B8 ?_;refine Ci [] (e+1) A7 A7 ⟨rfl,trivial⟩ ⟨rfl,rfl,rfl,rfl,A6 A9 (by rw [A21,K0 A7]),trivial⟩
  have hE:¬ e<4:=by have:=Cr hE;omega
  obtain rfl:e=4:=by omega
  first|(refine Al 9 rfl [0,1,2,3,4,5] Ah (Aj ?_))|(refine Al 23 rfl [0,1,2,3,4,5,6,7] Ah (Aj ?_))|(refine Al 27 rfl [0,1,2,3,4,5,6,7,8] Ah (Aj ?_))
  refine Gg (B0f (Qg g.aq l k 4) A7) ?_;refine Mv A0 rfl (Aj ?_);refine B9 A0 rfl (Af (Ef g.aq l k++[O3 (Qg g.aq l k 4)])) (Ao rfl) Hy A7 (Aj ?_);rw [←A2y];refine Fv [] (fun j:Nat=>[(14,.c (vi j))]) (fun j=>[⟨2,[.own 3,.c (vi g.aq),.c (vi g.cap),.own 17,.own 6,.own 4,.c (.val (.slice none 0 0))]⟩,⟨0,[.c (Ax g.ak),.c (vi g.aq),.c (vi g.cap)]⟩,⟨1,[.c (.val (.slice none 0 0)),.c (vi 0),.c (vi 0),.c (.val (.slice none 0 0)),.c (.val (.slice none 0 0)),.c (.val (.slice none 0 0)),.c (.val (.slice none 0 0))]⟩]) (fun j=>[⟨3,Ax g.ak⟩,⟨4,Au (List.replicate 4 default)⟩,⟨17,Af (Ef g.aq l (k+1))⟩,⟨6,B7 (List.replicate (k * n+j) (Gx g.cap))⟩]) (fun j=>j≤n) (fun j=>n-j) fun j hj=>?_;conv=>whnf
  refine Eh (fun hlt2=>?_) fun hlt2=>?_
  ·have hlt2:j<n:=by omega
   have hkn:k * n≤16:=Ew (Wx (show k≤4 by omega) (show n≤4 by omega)) Cw
   first|(refine Al 9 rfl [0,1,2,3,4,5] Ah (Aj ?_))|(refine Al 23 rfl [0,1,2,3,4,5,6,7] Ah (Aj ?_))|(refine Al 27 rfl [0,1,2,3,4,5,6,7,8] Ah (Aj ?_))
   refine Gg (B6c g.cap) ?_;refine Mv A0 rfl (Aj ?_);refine B9 A0 rfl (B7 (List.replicate (k * n+j) (Gx g.cap)++[Gx g.cap])) (Ao rfl) Hy (by (rw [X7];omega)) (Er ?_);refine Ci [(6,20)] (j+1) A7 A7 ⟨rfl,trivial⟩ ⟨rfl,rfl,rfl,A6 B7 (by rw [show k * n+(j+1)=(k * n+j)+1 by omega,List.replicate_succ']),trivial⟩
  obtain rfl:j=n:=by omega
  refine B8 ?_;refine Ci [(5,17)] (k+1) A7 A7 ⟨rfl,trivial⟩ ⟨rfl,rfl,rfl,A6 (fun m=>B7 (List.replicate m (Gx g.cap))) (by rw [Pc]),trivial⟩
 obtain rfl:k=n:=by omega
 rw [show g.aq.toNat=k by omega]
 refine B8 ?_;exact D0
def Ek (s:Db):A3×List Bool×Bool:=
 if (Bg s.az s.au).2=true then ((E5 (Dl s.bq 0 3000).toNat (Aw (Bg s.az s.au).1 s.aa).1).1,(Aw (Bg s.az s.au).1 s.aa).2,true) else (L3,[],false)
theorem A8w {s:Db}(h:(Bg s.az s.au).2=false):Ek s=(L3,[],false):=Ab (by rw [h];decide)
theorem A5z {s:Db}(h:(Bg s.az s.au).2=true):Ek s=((E5 (Dl s.bq 0 3000).toNat (Aw (Bg s.az s.au).1 s.aa).1).1,(Aw (Bg s.az s.au).1 s.aa).2,true):=Ak h
theorem B8g (xs:List Aa):(O3 xs).w=xs.length+12:=by simp [Ae.w,O3]
variable {l : List Aa}
theorem C97 {n:Int}{k:Nat}(hl:l.length≤20):((Ef n l k).map Ae.w).sum≤k * 92:=by
 induction k with
 |zero=>simp [Ef]
 |succ k ih=>
  rw [A2y,Qs,List.sum_append];have h1:=W7 n l k 4;simp only [Gz,Wz,V9,List.sum_nil,B8g];omega
theorem D1v (m:Nat)(n:Int):((List.replicate m (Gx n)).map D4.w).sum=0:=by
 induction m with
 |zero=>rfl
 |succ m ih=>
  rw [List.replicate_succ,Gz,V9,ih];rfl
theorem C7k {g:B2}:(Bg g l).1.w≤g.w+2000:=by
 by_cases h:A49 g l
 ·have hw:=h.1.2.1
  obtain ⟨n,hn⟩:∃n:Nat,g.aq=n:=⟨g.aq.toNat,by omega⟩;have h1:=C97 (n:=g.aq) (l:=l) (k:=g.aq.toNat) h.2.1;have h2:=D1v (g.aq.toNat * g.aq.toNat) g.cap;have h3:=A76 g.aq l g.aq.toNat;have h4:g.aq.toNat * g.aq.toNat≤16:=Wx (show g.aq.toNat≤4 by omega) (show g.aq.toNat≤4 by omega)
  rw [Xl h];simp only [A3.w,wS,X7,Ld];rw [h2,h3];have h5:g.aq.toNat≤4:=by omega
  omega
 rw [N3 h]
 show L3.w≤_
 have:L3.w=0:=rfl
 omega
theorem B30 {g:B2}:M0 (Bg g l).1:=by
 by_cases h:A49 g l
 ·rw [Xl h]
  intro k hk
  have:=Te hk
  rw [this]
  show (0:Int)≤_
  decide
 rw [N3 h];intro k hk
 cases hk
set_option maxHeartbeats 1000000 in
theorem A5b (x:Db)(hx:x.w≤1040000+8576):Dj 23 [.agg x.c] [.agg (Ek x).1.c,.one (D9 (Ek x).2.1),.one (vb (Ek x).2.2)]:=by
 have hw:x.az.w+x.au.length+x.aa.length≤1040000+8576:=hx;have h1:=C7k (g:=x.az) (l:=x.au);have h2:=Zq (c:=(Bg x.az x.au).1) (l:=x.aa);refine E3 Tryz.func23 fun W=>?_;refine Gg (A7i x.az x.au A7 A7) ?_;refine Cc (fun hk=>?_) fun hk=>?_
 ·have hk:(Bg x.az x.au).2=false:=by simpa using hk
  rw [A8w hk];exact D0
 have hk:(Bg x.az x.au).2=true:=by simpa using hk
 refine Ar ?_;refine Gg (Pm (Bg x.az x.au).1 x.aa A7 B30) ?_;refine Gg (A38 (Aw (Bg x.az x.au).1 x.aa).1 x.bq A7 (A11 B30)) ?_;rw [A5z hk];exact D0
theorem C7j {g:B2}{l:List Aa}(h:(Bg g l).2=true):Gt .i64 (Bg g l).1.az.aq:=by
 by_cases hN:A49 g l
 ·rw [Xl hN]
  have:=hN.1.2.1
  show (_:Int)≤g.aq∧g.aq≤_
  omega
 rw [N3 hN] at h
 cases h
set_option maxHeartbeats 4000000 in
theorem A40 (x:A3)(most:Int)(h:x.w≤6000000)(og:Gt .i64 x.az.aq):Dj 47 [.agg x.c,.one (vi most)] [.agg (E5 (Dl most 0 3000).toNat x).1.c,.one (vi (E5 (Dl most 0 3000).toNat x).2)]:=by
 have hb:=Hc most 0 3000 Cw;have hal:=A0v x;obtain ⟨n,hn⟩:∃n:Nat,Dl most 0 3000=n:=⟨(Dl most 0 3000).toNat,by omega⟩;rw [hn,Bu];refine E3 Tryz.func47 fun W=>?_;have hp:Py ⟨W,fun _=>False⟩ []:=fun _ h=>by cases h
 have hH:∀w,Fa.rel ⟨W,fun _=>False⟩ w→True:=fun _ _=>trivial
 refine D05 (B2k x A7) hp rfl (fun r hr=>go A0 false ?_);conv=>whnf
 refine Gg (B4i x) ?_;refine F0 (Wr most 0 3000) ?_;rw [hn];refine Fv [] (fun k:Nat=>[(8,.c (vi (k+1)))]) (fun k=>[⟨2,[.own 3,.c (vi (P9 x k).az.aq),.c (vi (P9 x k).az.cap),.own 4,.own 5,.own 6,.own 7,.c (vb (At (P9 x k)))]⟩,⟨1,[.c (.val (.slice none 0 0)),.c (vi 0),.c (vi 0),.c (.val (.slice none 0 0)),.c (.val (.slice none 0 0)),.c (.val (.slice none 0 0)),.c (.val (.slice none 0 0))]⟩]) (fun k=>[⟨8,E9 (Qw (It x))⟩,⟨3,Ax (P9 x k).az.ak⟩,⟨4,Af (P9 x k).aq⟩,⟨5,B7 (P9 x k).ay⟩,⟨6,Au (P9 x k).ap⟩,⟨7,Bd (P9 x k).ac⟩]) (fun k=>k≤n∧∀i,i<k→(C5 (P9 x i)).2≠0) (fun k=>n-k) fun k hk=>?_;obtain ⟨hk,he⟩:=hk;conv=>whnf
 refine Cc (fun hlt=>?_) fun hlt=>?_
 ·have hlt:k<n:=by have:=Bj hlt;omega
  have hw:=D09 x k;have hP:It (P9 x k)=It x:=C7w (B1n x k)
  have hF1:(Aw (P9 x k) (Qw (It x))).1=P9 x (k+1):=by
   show _=(C5 (P9 x k)).1
   unfold C5;rw [hP]
  have hF2:cnt (P9 x k) (Qw (It x))=(C5 (P9 x k)).2:=by
   unfold C5 cnt;rw [hP]
  refine zcP (C4r (P9 x k) (Qw (It x)) A7 (by rw [B1n];exact og)) hH hp fun r2 hr2=>?_;rw [hF1,hF2];refine L8 (fun h0=>?_) fun h0=>?_
  ·have h0:(C5 (P9 x k)).2=0:=by omega
   refine Ar ?_;rw [A05 hlt he h0];exact D0
  have h0:(C5 (P9 x k)).2≠0:=by omega
  refine B8 ?_;refine Ci [(3,9),(4,10),(5,11),(6,12),(7,13)] (k+1) ⟨by omega,fun i hi=>(X3.1 hi).elim (fun h4=>he i h4) (fun h4=>by subst h4;exact h0)⟩ A7 ⟨rfl,trivial⟩ ⟨rfl,rfl,rfl,rfl,rfl,rfl,trivial⟩
 have hlt:¬ k<n:=by have:=Cr hlt;omega
 obtain rfl:k=n:=by omega
 refine Ar ?_;rw [A04 he];exact D0
set_option maxHeartbeats 1000000 in
theorem A5f (x:Db)(hx:x.w≤1040000+8576):Dj 24 [.agg x.c] [.agg (Ek x).1.c,.one (D9 (Ek x).2.1),.one (vb (Ek x).2.2)]:=by
 have hw:x.az.w+x.au.length+x.aa.length≤1040000+8576:=hx;have h1:=C7k (g:=x.az) (l:=x.au);have h2:=Zq (c:=(Bg x.az x.au).1) (l:=x.aa);refine E3 Tryz.func24 fun W=>?_;refine Gg (A84 x.az x.au A7 A7) ?_;refine Cc (fun hk=>?_) fun hk=>?_
 ·have hk:(Bg x.az x.au).2=false:=by simpa using hk
  rw [A8w hk];refine Q2 8 (D9 []) rfl C3 ?_;exact D0
 have hk:(Bg x.az x.au).2=true:=by simpa using hk
 refine Ar ?_;refine Gg (B4q (Bg x.az x.au).1 x.aa A7 (C7j hk)) ?_;refine Gg (A40 (Aw (Bg x.az x.au).1 x.aa).1 x.bq A7 (by rw [Ud];exact C7j hk)) ?_;rw [A5z hk];exact D0
def B02 (x:Ad):Prop:=x.ok
def H1 (c:A3):Prop:=∀w∈c.aq,∀x∈w.cells,B02 x
variable {x : Ad} {y : Ad}
theorem B8t {l:List Ad}(h:y∈(Kg l x).1):y∈l∨y=x:=by
 unfold Kg at h
 split at h
 ·exact .inl h
 rcases C1r.1 h with h|h
 ·exact .inl (Uu.1 h).1
 exact .inr h
theorem A8s {k:Int}{l:List Ad}(h:y∈(Cs k l x).1):y∈l∨y=x:=by
 unfold Cs at h
 split at h
 ·exact B8t h
 split at h
 ·split at h
  ·exact .inl h
  exact C1r.1 h
 exact .inl h
variable {g : B2} {r : Aa}
theorem C0r {cs:List Ad}(h:y∈(Gr g cs r).1):y∈cs∨(Gu r∧y=Fh r):=by
 unfold Gr at h
 split at h
 ·rename_i hs
  split at h
  ·exact .inl h
  split at h
  ·rcases A8s h with h|h
   ·exact .inl h
   exact .inr ⟨hs.2.1,h⟩
  rcases A8s h with h|h
  ·exact .inl h
  exact .inr ⟨hs.2.1,h⟩
 exact .inl h
theorem Zm (h:Gu r):r.ok:=by
 simp only [Gu] at h;simp only [Aa.ok,Jg.ok,Gt];omega
theorem C5w (h:Gu r):B02 (Fh r):=⟨(Zm h).1,(Zm h).2.1.1,(Zm h).2.2⟩
variable {c : A3} {w : Ae}
theorem Jj {j:Int}(h:H1 c)(hw:∀x∈w.cells,B02 x):H1 (Bc c j w):=fun v hv=>by
 rcases Lm hv with hv|rfl
 ·exact h v hv
 exact hw
theorem K1 {w:Int}(h:H1 c):∀x∈(A8 c w).cells,B02 x:=by
 unfold A8
 by_cases hl:w.toNat<c.aq.length
 ·exact h _ (Am hl)
 rw [show c.aq.getD w.toNat default=default by simp only [List.getD,T9 (A0b hl),Option.getD_none]]
 intro x hx
 cases hx
variable {p : Ea}
theorem B5j (h:H1 c):H1 (Ap c p).1:=by
 unfold Ap
 split
 ·unfold Fp
  split
  ·refine Jj h ?_
   unfold Ma
   split
   ·intro x hx
    rcases C0r (show x∈(Gr c.az (A8 c p.a).cells ((A8 c p.a).ar.getD 0 default)).1 from hx) with hx|⟨hr,rfl⟩
    ·exact K1 h x hx
    exact C5w hr
   exact K1 h
  exact h
 split
 ·unfold Eu
  split
  ·refine Jj h ?_
   unfold Gy
   split<;>exact K1 h
  exact h
 split
 ·unfold Cg
  split
  ·split
   ·exact Jj h (K1 h)
   split
   ·refine Jj (show H1 (D6 c _ _) from h) ?_
    unfold Jx
    split<;>exact K1 h
   exact h
  exact h
 split
 ·unfold Dz
  split
  ·refine Jj (show H1 (D6 c _ _) from h) ?_
   unfold Ik
   split<;>exact K1 h
  exact h
 split
 ·unfold Ez
  split<;>exact h
 split
 ·unfold Ct
  dsimp only
  split
  ·split
   ·exact Jj (show H1 (Fy c _ _) from h) (K1 h)
   split
   ·split
    ·exact Jj (show H1 (Fy c _ _) from h) (K1 h)
    exact h
   unfold Kr
   split
   ·exact Jj (show H1 (Fy c _ _) from h) (K1 h)
   exact h
  exact h
 split
 ·unfold Fi
  split
  ·split
   ·exact h
   exact Jj (show H1 (V1 c _) from h) (K1 h)
  exact h
 exact h
def B8m (c:A3):Prop:=Av c∨∃(d:A3) (j:Int) (v:Ae) (e k:Int),Av d∧Cp d.az.ak.length v∧(k=1∨k= -1)∧c=Bc d j (Is v e k)
theorem B6x (h:B8m c):B8m (Ap c p).1:=by
 by_cases hc:Av c
 ·by_cases hk:At (Ap c p).1=true
  ·exact .inl (Bj hk)
  rw [A46 hc] at hk
  split at hk
  ·rename_i h3
   split at hk
   ·rename_i hm
    obtain ⟨hm,hne⟩:=hm
    have e:(Ap c p).1=(Cg c p.a).1:=by
     unfold Ap;rw [Ab A7,Ab A7,Ak h3]
    rw [e];unfold Cg at hm ⊢
    split at hm
    ·rename_i hM
     split at hm
     ·rename_i hS
      rw [Ak hM,Ab hne,Ak hS];have hv:=Zy (Ul hM.1.1 hM.1.2);exact .inr ⟨_,_,_,_,1,Zg hM.1 hM.2 hne,hv,.inl rfl,by rw [A4x hv (A08 hM.1 hM.2).1.2.1]⟩
     cases hm
    cases hm
   exact absurd rfl hk
  split at hk
  ·rename_i h3 h4
   split at hk
   ·rename_i hm
    have e:(Ap c p).1=(Dz c p.a p.b).1:=by
     unfold Ap;rw [Ab A7,Ab A7,Ab h3,Ak h4]
    rw [e];unfold Dz at hm ⊢
    split at hm
    ·rename_i hT
     rw [Ak hT];have hr:=B8a hT.1 hT.2;have ht:0≤p.b∧p.b<c.aq.length:=⟨hT.1.2.2.2.1,by rw [hc.1.2.1];exact hT.1.2.2.2.2⟩;have hv:=B3u (Ul hc ht) hr;have hw:=Ul hc ht;refine .inr ⟨_,p.b,_,(P4 c p.a p.b).am.ab,-1,Zw hT.1,(B08 (e:=(P4 c p.a p.b).am.ab) (b:=true)).2 hv,.inr rfl,?_⟩
     show Bc _ p.b (Ik (A8 c p.b) (P4 c p.a p.b))=_
     rw [A4u hw hr.1.2.1];rfl
    cases hm
   exact absurd rfl hk
  exact absurd rfl hk
 rw [Xo hc];exact h
theorem C9a (h:B02 x):x.ok:=h
theorem C99 {x:D5}(h:Jc x):x.ok:=by
 obtain ⟨hk,h2,h3,h4,h0,ho,_,_,hn⟩:=h
 have hab:(-1000≤x.a∧x.a≤1000)∧(-1000≤x.b∧x.b≤1000):=by
  by_cases k2:x.kind=2
  ·have:=h2 k2;omega
  by_cases k3:x.kind=3
  ·have:=h3 k3;omega
  by_cases k4:x.kind=4
  ·have:=h4 k4;omega
  have:=h0 k2 k3 k4;omega
 refine ⟨?_,?_,?_,by simp only [maxLen];omega,fun y hy=>?_⟩
 ·simp only [Gt];omega
 ·simp only [Gt];omega
 ·simp only [Gt];omega
 have:=hn y hy
 simp only [Gt];omega
theorem B9s {α:Type} [Inhabited α] {l:List α}{x:α}(h:x∈l):∃i,i<l.length∧l.getD i default=x:=by
 obtain ⟨i,hi,rfl⟩:=Ry h;exact ⟨i,hi,by simp only [List.getD,Cl hi,Nn]⟩
theorem C6n (h:I4 g):g.ok:=by
 obtain ⟨h1,h2,h3,h4⟩:=h;refine ⟨⟨by simp only [maxLen];omega,fun y hy=>?_⟩,?_,?_⟩
 ·obtain ⟨i,hi,rfl⟩:=B9s hy
  exact C99 (h4 i hi).1
 ·simp only [Gt];omega
 simp only [Gt];omega
theorem C9y {l:D4}(h:Hm l):l.ok:=by
 obtain ⟨⟨h1,h2,h3,h4,h5,h6,h7⟩,hq⟩:=h;refine ⟨?_,⟨by simp only [maxLen];omega,fun y hy=>Zm (hq y hy)⟩,?_,?_,?_,?_⟩<;>(simp only [Gt];omega)
def A5l (n:Nat) (w:Ae):Prop:=R3 n w∧B2r w.ai∧∀k∈w.ah,-1000001≤k∧k≤1000001
theorem Zz {n:Nat}(h:Cp n w):A5l n w:=⟨h.1,h.2.2.2.2,fun k hk=>by
 have:=h.2.2.2.1 k hk
 simp only [Jh] at this
 omega⟩
theorem C41 {n:Nat}(h:A5l n w)(hc:∀x∈w.cells,B02 x)(hw:w.w≤100000000):w.ok:=by
 obtain ⟨⟨hq,hs,hi,_⟩,hd,hn⟩:=h;simp only [Ae.w] at hw;refine ⟨⟨?_,fun y hy=>Zm (hq y hy).1⟩,⟨?_,fun y hy=>Zm (hs y hy).1⟩,⟨?_,fun y hy=>Zm (hi y hy).1⟩,⟨?_,fun y hy=>C9a (hc y hy)⟩,⟨?_,fun y hy=>?_⟩,?_,?_,?_,fun y hy=>?_⟩
 any_goals (simp only [maxLen];omega)
 ·have:=hn y hy
  simp only [Gt];omega
 obtain ⟨i,hi,rfl⟩:=B9s hy
 have:=(hd i hi).1
 simp only [Gv.ok,Gt];omega
theorem D19 {α:Type}{w:α→Nat}{l:List α}{x:α}(h:x∈l):w x≤wS w l:=by
 rw [C8v]
 induction l with
 |nil=>cases h
 |cons y l ih=>
  simp only [Gz,V9,Gi]
  rcases Ca.1 h with rfl|h
  ·omega
  have:=ih h;omega
theorem B82 (hg:I4 c.az)(hw:∀w∈c.aq,A5l c.az.ak.length w)(hl:∀i,i<c.ay.length→Hm (c.ay.getD i default))(ht:∀t∈c.ap,Qt c.az.aq t)(hn:∀x∈c.ac,Og c.az.aq x)(hb:H1 c)(hs:c.w≤100000000):c.ok:=by
 have hgw:=hg.2.1;simp only [A3.w] at hs;have h1:=C8v Ae.w c.aq;have h2:=C8v D4.w c.ay;refine ⟨C6n hg,⟨?_,fun y hy=>C41 (hw y hy) (hb y hy) ?_⟩,⟨?_,fun y hy=>?_⟩,⟨?_,fun y hy=>?_⟩,⟨?_,fun y hy=>?_⟩⟩
 ·simp only [maxLen];omega
 ·have:=D19 (w:=Ae.w) hy
  omega
 ·simp only [maxLen];omega
 ·obtain ⟨i,hi,rfl⟩:=B9s hy
  exact C9y (hl i hi)
 ·simp only [maxLen];omega
 ·have:=ht y hy
  simp only [Qt] at this;simp only [G9.ok,Gt];omega
 ·simp only [maxLen];omega
 have:=hn y hy
 simp only [Og] at this;simp only [D8.ok,Gt];omega
def OkQ (c:A3):Prop:=I4 c.az∧(∀w∈c.aq,A5l c.az.ak.length w)∧(∀i,i<c.ay.length→Hm (c.ay.getD i default))∧(∀t∈c.ap,Qt c.az.aq t)∧(∀x∈c.ac,Og c.az.aq x)
theorem C7m (h:OkQ c∧H1 c)(hs:c.w≤100000000):c.ok:=B82 h.1.1 h.1.2.1 h.1.2.2.1 h.1.2.2.2.1 h.1.2.2.2.2 h.2 hs
theorem B9t (h:B8m c):OkQ c:=by
 rcases h with h|⟨d,j,v,e,k,hd,hv,hk,rfl⟩
 ·obtain ⟨hh,hw,hl,ht,hn⟩:=h
  exact ⟨hh.1,fun w hw'=>Zz (hw w hw'),fun i hi=>(hl i hi).1,ht,hn⟩
 obtain ⟨hh,hw,hl,ht,hn⟩:=hd;refine ⟨hh.1,fun w hw'=>?_,fun i hi=>(hl i hi).1,ht,hn⟩
 rcases Lm hw' with hw'|rfl
 ·exact Zz (hw w hw')
 have hq:=Zz hv;refine ⟨hq.1,hq.2.1,fun n hn=>?_⟩
 rcases Lm hn with hn|rfl
 ·exact hq.2.2 n hn
 by_cases hl:e.toNat<v.ah.length
 ·have:=hv.2.2.2.1 _ (Am (d:=default) hl)
  simp only [Jh] at this;omega
 rw [show v.ah.getD e.toNat default=0 by simp only [List.getD,T9 (A0b hl),Option.getD_none];rfl]
 omega
theorem C7n (h:OkQ c∧H1 c):OkQ (Ap c p).1∧H1 (Ap c p).1:=by
 refine ⟨?_,B5j h.2⟩
 by_cases hc:Av c
 ·exact B9t (B6x (.inl hc))
 rw [Xo hc];exact h.1
theorem B7r {l:List Ea}(h:OkQ c∧H1 c):OkQ (Aw c l).1∧H1 (Aw c l).1:=by
 have:∀(l:List Ea) (s:A3×List Bool),OkQ s.1∧H1 s.1→OkQ (l.foldl J3 s).1∧H1 (l.foldl J3 s).1:=by
  intro l
  induction l with
  |nil=>intro s hs;exact hs
  |cons p l ih=>intro s hs;exact ih (J3 s p) (C7n hs)
 exact this l (c,[]) h
theorem B5v (n:Nat):∀{c:A3},OkQ c∧H1 c→OkQ (E5 n c).1∧H1 (E5 n c).1:=by
 induction n with
 |zero=>intro c h;exact h
 |succ n ih=>
  intro c h;have h1:OkQ (C5 c).1∧H1 (C5 c).1:=B7r h;unfold E5
  split
  ·exact h1
  exact ih h1
variable {l : List Aa}
theorem B9z {n:Int}{w:Nat}(h:r∈B9y n l w):r∈l:=by
 simp only [B9y,Ds,Uu] at h;obtain ⟨e,_,h,_⟩:=h;simp only [F6,Uu] at h;exact h.1
theorem C98 (h:(Bg g l).2=true):OkQ (Bg g l).1∧H1 (Bg g l).1:=by
 have hN:A49 g l:=by
  by_cases hN:A49 g l
  ·exact hN
  rw [N3 hN] at h
  cases h
 rw [Xl hN];obtain ⟨hg,hl,hr⟩:=hN;have hg1:=hg.1;have hg2:=hg.2.1
 have hw:∀w∈Ef g.aq l g.aq.toNat,(w.ar=[]∧w.ae=[]∧w.cells=[]∧w.ai=[]∧w.ah=List.replicate 4 0)∧∀r∈w.au,r∈l:=by
  intro w hw;simp only [Ef,Fu] at hw;obtain ⟨i,_,rfl⟩:=hw;exact ⟨⟨rfl,rfl,rfl,rfl,rfl⟩,fun r hr=>B9z hr⟩
 refine ⟨⟨hg,fun w hw'=>?_,fun i hi=>?_,fun t ht=>?_,fun x hx=>?_⟩,fun w hw' x hx=>?_⟩
 ·obtain ⟨⟨e1,e2,e3,e4,e5⟩,hi⟩:=hw w hw'
  refine ⟨⟨?_,?_,fun r hr'=>?_,?_⟩,?_,fun k hk=>?_⟩
  ·rw [e1];intro r hr;cases hr
  ·rw [e2];intro r hr;cases hr
  ·have:=hr r (hi r hr')
   refine ⟨this.1,?_⟩
   show r.op<(g.ak.length:Int)
   omega
  ·rw [e3];intro i hi;exact absurd hi (Kt i)
  ·rw [e4];intro i hi;exact absurd hi (Kt i)
  rw [e5] at hk
  have:=Te hk
  omega
 ·have hm:=Am (d:=default) hi
  rw [Te hm];have hb:=Hc g.cap 1 4 Cw;refine ⟨⟨?_,?_,?_,?_,?_,?_,?_⟩,fun r hr=>by cases hr⟩<;>simp only [Gx,Ld]<;>omega
 ·rw [Te ht]
  have e:Qt g.aq default↔(0≤(0:Int)∧(0:Int)≤g.aq-1)∧(false=false→(0:Int)=0)∧(-1000000≤(0:Int)∧(0:Int)≤1000000):=Iff.rfl;exact e.2 ⟨by omega,fun _=>rfl,by omega⟩
 ·cases hx
 rw [(hw w hw').1.2.2.1] at hx
 cases hx
theorem A1r:L3.ok:=by
 refine ⟨⟨⟨by simp only [maxLen];decide,fun y hy=>by cases hy⟩,by simp only [Gt];decide,by simp only [Gt];decide⟩,⟨by simp only [maxLen];decide,fun y hy=>by cases hy⟩,⟨by simp only [maxLen];decide,fun y hy=>by cases hy⟩,⟨by simp only [maxLen];decide,fun y hy=>by cases hy⟩,⟨by simp only [maxLen];decide,fun y hy=>by cases hy⟩⟩
theorem Yo {s:Db}(h:(Bg s.az s.au).2=true):OkQ (Ek s).1∧H1 (Ek s).1:=by
 rw [A5z h];exact B5v _ (B7r (C98 h))
theorem B4d {s:Db}(hs:(Ek s).1.w≤100000000):(Ek s).1.ok:=by
 by_cases h:(Bg s.az s.au).2=true
 ·exact C7m (Yo h) hs
 rw [A8w (by simpa using h)];exact A1r
end Go.Proofs.YtmhcebdkjgkmlaaGreatDoor
