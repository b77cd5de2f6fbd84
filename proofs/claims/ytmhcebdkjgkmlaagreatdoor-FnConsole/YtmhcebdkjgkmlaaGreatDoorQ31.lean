/- Part 31 of the proof that each of the laws FnConsole returns true for every input. No conditions. -/
import Derived.Test.YtmhcebdkjgkmlaaGreatDoorQ30

set_option linter.unusedSimpArgs false
set_option linter.unusedVariables false
set_option maxRecDepth 100000
namespace Go.Proofs.YtmhcebdkjgkmlaaGreatDoor
open Go.Sx
theorem A6k {l:List Bool}{k:Nat}(hk:k<l.length):((l.take (k+1)).filter id).length=((l.take k).filter id).length+if l.getD k default=true then 1 else 0:=by
 rw [Er id l k hk,D3];simp only [id]
 split<;>rfl
set_option maxHeartbeats 8000000 in
theorem A94 (x:A3)(h:x.w≤7000000)(hgo:M6 x):Di 104 [.agg x.c] [.agg (Ca x).1.c,.one (vi (Ca x).2)]:=by
 have hal:=A0t x;have hrl:=Wm (c:=x) (l:=Qy (Iw x));have hF:Ca x=((Ay x (Qy (Iw x))).1,((Ay x (Qy (Iw x))).2.filter id).length):=rfl;refine E7 Tryz.func104 fun W=>?_;refine J3 rfl ?_;refine On 0 ?_;refine On 1 ?_;refine zt2 2 7 ?_ ?_
 focus
  refine Gf (A1b x) ?_;refine Ec (zt2 3 7 ?_ ?_)
  focus
   refine Gf (Pv x (Qy (Iw x)) A7 hgo) ?_;refine Ec (E5 4 rfl ?_);refine zoF 5 ?_;refine zoF 6 ?_;refine splitB [7] Am ⟨?_,trivial⟩;refine Em ?_;refine Ec ?_
  rotate_left 1
  focus
   refine B4 ?_;refine Ec ?_;refine splitB [3] Am ⟨?_,trivial⟩;refine Ah ?_;refine Gf (Pv x (Qy (Iw x)) A7 hgo) ?_;refine Ec (E5 4 rfl ?_);refine zoF 5 ?_;refine zoF 6 ?_
 rotate_left 2
 focus
  refine B4 ?_;refine Ec ?_;refine splitB [2] Am ⟨?_,trivial⟩;refine Ah ?_;refine Gf (A1b x) ?_;refine Ec ?_;refine splitB [3] Am ⟨?_,trivial⟩;refine Ah ?_;refine Gf (Pv x (Qy (Iw x)) A7 hgo) ?_;refine Ec (E5 4 rfl ?_);refine zoF 5 ?_;refine zoF 6 ?_
 all_goals
  refine splitB [8] Am ⟨?_,trivial⟩;refine Em ?_;refine Ec (E5 9 rfl ?_);refine A0z Am (Ah ?_)
 all_goals generalize Ay x (Qy (Iw x))=R at *
 ·refine Fx [8] (fun k:Nat=>[(18,.c (vi k)),(6,.c (vi ((R.2.take k).filter id).length))]) (fun k=>[⟨2,[.own 4,.c (vi R.1.az.aq),.c (vi R.1.az.cap),.own 5,.own 6,.own 7,.own 8]⟩,⟨1,[.c (.val (.slice none 0 0)),.c (vi 0),.c (vi 0),.c (.val (.slice none 0 0)),.c (.val (.slice none 0 0)),.c (.val (.slice none 0 0)),.c (.val (.slice none 0 0))]⟩]) (fun k=>[⟨9,Df R.2⟩,⟨4,At R.1.az.ak⟩,⟨5,Af R.1.aq⟩,⟨6,Ba R.1.ay⟩,⟨7,Aw R.1.ap⟩,⟨8,Bf R.1.ac⟩]) (fun k=>k≤R.2.length) (fun k=>R.2.length-k) fun k hk=>?_
  conv=>whnf
  refine Dv (fun hlt=>?_) fun hlt=>?_
  ·have hlt:k<R.2.length:=by omega
   have hc:=A6k hlt;have hle:((R.2.take k).filter id).length≤k:=Fk (Nr _ _) (by rw [F9];omega);refine B4 ?_;refine C1 (fun hb=>?_) fun hb=>?_
   ·rw [Bv] at hb
    rw [Ak hb] at hc;refine B4 ?_;refine Cc [] (k+1) A7 A7 ⟨rfl,A6 (fun n:Nat=>AV.c (vi (n:Int))) hc.symm,trivial⟩ ⟨rfl,rfl,rfl,rfl,rfl,rfl,trivial⟩
   rw [Bv] at hb;rw [Ab (by rw [hb];decide)] at hc;refine B4 ?_;refine Cc [] (k+1) A7 A7 ⟨rfl,A6 (fun n:Nat=>AV.c (vi (n:Int))) hc.symm,trivial⟩ ⟨rfl,rfl,rfl,rfl,rfl,rfl,trivial⟩
  obtain rfl:k=R.2.length:=by omega
  rw [hF,H4];exact D4
 ·refine Fx [8] (fun k:Nat=>[(18,.c (vi k)),(6,.c (vi ((R.2.take k).filter id).length))]) (fun k=>[⟨3,[.own 4,.c (vi R.1.az.aq),.c (vi R.1.az.cap),.own 5,.own 6,.own 7,.own 8]⟩,⟨1,[.c (.val (.slice none 0 0)),.c (vi 0),.c (vi 0),.c (.val (.slice none 0 0)),.c (.val (.slice none 0 0)),.c (.val (.slice none 0 0)),.c (.val (.slice none 0 0))]⟩]) (fun k=>[⟨9,Df R.2⟩,⟨4,At R.1.az.ak⟩,⟨5,Af R.1.aq⟩,⟨6,Ba R.1.ay⟩,⟨7,Aw R.1.ap⟩,⟨8,Bf R.1.ac⟩]) (fun k=>k≤R.2.length) (fun k=>R.2.length-k) fun k hk=>?_
  conv=>whnf
  refine Dv (fun hlt=>?_) fun hlt=>?_
  ·have hlt:k<R.2.length:=by omega
   have hc:=A6k hlt;have hle:((R.2.take k).filter id).length≤k:=Fk (Nr _ _) (by rw [F9];omega);refine B4 ?_;refine C1 (fun hb=>?_) fun hb=>?_
   ·rw [Bv] at hb
    rw [Ak hb] at hc;refine B4 ?_;refine Cc [] (k+1) A7 A7 ⟨rfl,A6 (fun n:Nat=>AV.c (vi (n:Int))) hc.symm,trivial⟩ ⟨rfl,rfl,rfl,rfl,rfl,rfl,trivial⟩
   rw [Bv] at hb;rw [Ab (by rw [hb];decide)] at hc;refine B4 ?_;refine Cc [] (k+1) A7 A7 ⟨rfl,A6 (fun n:Nat=>AV.c (vi (n:Int))) hc.symm,trivial⟩ ⟨rfl,rfl,rfl,rfl,rfl,rfl,trivial⟩
  obtain rfl:k=R.2.length:=by omega
  rw [hF,H4];exact D4
 refine Fx [8] (fun k:Nat=>[(18,.c (vi k)),(6,.c (vi ((R.2.take k).filter id).length))]) (fun k=>[⟨9,[.own 3,.c (vi R.1.az.aq),.c (vi R.1.az.cap),.own 4,.own 5,.own 6,.own 7]⟩,⟨1,[.c (.val (.slice none 0 0)),.c (vi 0),.c (vi 0),.c (.val (.slice none 0 0)),.c (.val (.slice none 0 0)),.c (.val (.slice none 0 0)),.c (.val (.slice none 0 0))]⟩]) (fun k=>[⟨8,Df R.2⟩,⟨3,At R.1.az.ak⟩,⟨4,Af R.1.aq⟩,⟨5,Ba R.1.ay⟩,⟨6,Aw R.1.ap⟩,⟨7,Bf R.1.ac⟩]) (fun k=>k≤R.2.length) (fun k=>R.2.length-k) fun k hk=>?_;conv=>whnf
 refine Dv (fun hlt=>?_) fun hlt=>?_
 ·have hlt:k<R.2.length:=by omega
  have hc:=A6k hlt;have hle:((R.2.take k).filter id).length≤k:=Fk (Nr _ _) (by rw [F9];omega);refine B4 ?_;refine C1 (fun hb=>?_) fun hb=>?_
  ·rw [Bv] at hb
   rw [Ak hb] at hc;refine B4 ?_;refine Cc [] (k+1) A7 A7 ⟨rfl,A6 (fun n:Nat=>AV.c (vi (n:Int))) hc.symm,trivial⟩ ⟨rfl,rfl,rfl,rfl,rfl,rfl,trivial⟩
  rw [Bv] at hb;rw [Ab (by rw [hb];decide)] at hc;refine B4 ?_;refine Cc [] (k+1) A7 A7 ⟨rfl,A6 (fun n:Nat=>AV.c (vi (n:Int))) hc.symm,trivial⟩ ⟨rfl,rfl,rfl,rfl,rfl,rfl,trivial⟩
 obtain rfl:k=R.2.length:=by omega
 rw [hF,H4];exact D4
set_option maxHeartbeats 8000000 in
theorem A32 (x:A3)(most:Int)(h:x.w≤6000000)(hgo:M6 x):Di 49 [.agg x.c,.one (vi most)] [.agg (Eb (Cs most 0 3000).toNat x).1.c,.one (vi (Eb (Cs most 0 3000).toNat x).2)]:=by
 have hb:=G2 most 0 3000 Bq;obtain ⟨n,hn⟩:∃n:Nat,Cs most 0 3000=n:=⟨(Cs most 0 3000).toNat,by omega⟩;rw [hn,Bv];refine E7 Tryz.func49 fun W=>?_;refine Gf (Fc x A7) ?_;refine Fx [11] (fun k:Nat=>[(7,.c (vi k))]) (fun k=>[⟨7,[.own 2,.c (vi (Pg x k).az.aq),.c (vi (Pg x k).az.cap),.own 3,.own 4,.own 5,.own 6]⟩,⟨1,[.c (.val (.slice none 0 0)),.c (vi 0),.c (vi 0),.c (.val (.slice none 0 0)),.c (.val (.slice none 0 0)),.c (.val (.slice none 0 0)),.c (.val (.slice none 0 0))]⟩]) (fun k=>[⟨2,At (Pg x k).az.ak⟩,⟨3,Af (Pg x k).aq⟩,⟨4,Ba (Pg x k).ay⟩,⟨5,Aw (Pg x k).ap⟩,⟨6,Bf (Pg x k).ac⟩]) (fun k=>k≤n∧∀i,i<k→(Ca (Pg x i)).2≠0) (fun k=>n-k) fun k hk=>?_;obtain ⟨hk,he⟩:=hk;conv=>whnf
 refine Fp (Vs most 0 3000) ?_;rw [hn];refine Dv (fun hlt=>?_) fun hlt=>?_
 ·have hlt:k<n:=by omega
  have hw:=D1m x k;refine Lo (A94 (Pg x k) A7 (C9x hgo k)) rfl (Em ?_);refine Lf (fun h0=>?_) fun h0=>?_
  ·have h0:(Ca (Pg x k)).2=0:=by omega
   rw [A03 hlt he h0];exact D4
  have h0:(Ca (Pg x k)).2≠0:=by omega
  refine Cc [(2,8),(3,9),(4,10),(5,11),(6,12)] (k+1) ⟨by omega,fun i hi=>(X3.1 hi).elim (fun h4=>he i h4) (fun h4=>by subst h4;exact h0)⟩ A7 ⟨rfl,trivial⟩ ⟨rfl,rfl,rfl,rfl,rfl,trivial⟩
 obtain rfl:k=n:=by omega
 rw [A02 he];exact D4
structure B46 (p:Prop):Prop where
 out:p
theorem B7y (n:Int):Di 126 [.one (vi n)] [.agg (H8 n).c]:=by
 refine E7 Tryz.func126 fun W=>?_;refine Fp (P1 n 1 4) ?_;exact D4
theorem B6c (n:Int):Di 121 [.one (vi n)] [.agg (H8 n).c]:=by
 refine E7 Tryz.func121 fun W=>?_;refine Fp (Vs n 1 4) ?_;exact D4
theorem A69 {α:Type} [Inhabited α] (x:α)(n i:Nat)(h:x=default):(List.replicate n x).getD i default=x:=by
 simp only [List.getD,List.getElem?_replicate]
 split
 ·rfl
 exact h.symm
theorem C1o:(Ag.sl 4 1 fun _=>[.val (.int .i64 0)])=Cn (List.replicate 4 0):=A6 (Ag.sl 4 1) (funext fun i=>by rw [A69 (0:Int) 4 i rfl])
theorem A1i:(Ag.sl 4 1 fun _=>[.val (.bool false)])=Df (List.replicate 4 false):=A6 (Ag.sl 4 1) (funext fun i=>by rw [A69 false 4 i rfl])
theorem Ig:(Ag.sl 4 5 fun _=>[.val (.bool false),.val (.int .i64 0),.val (.int .i64 0),.val (.bool false),.val (.bool false)])=Aw (List.replicate 4 default):=A6 (Ag.sl 4 5) (funext fun i=>by rw [A69 (default:Gg) 4 i rfl];rfl)
def Ob (xs:List Aa):Ae:=⟨[],[],xs,[],List.replicate 4 0,List.replicate 4 false,List.replicate 4 false,[]⟩
set_option maxHeartbeats 1600000 in
theorem B0s (xs:List Aa)(hx:xs.length≤16777216):Di 124 [.one (A9 xs)] [.agg (Ob xs).c]:=by
 refine E7 Tryz.func124 fun W=>?_;refine Rc rfl ?_
 repeat' (first
   |(first|refine C4g A0 false 1 rfl rfl rfl (by decide+kernel) rfl (Q8 B8m) ?_|refine C4g A0 false 3 rfl rfl rfl (by decide+kernel) rfl (Q8 B8m) ?_|refine C4g A0 false 5 rfl rfl rfl (by decide+kernel) rfl (Q8 B8m) ?_|refine C4g A0 false 7 rfl rfl rfl (by decide+kernel) rfl (Q8 B8m) ?_)
   |((first|refine Az [0,4,6,8] (by decide+kernel) ⟨?_,?_,?_,?_,trivial⟩|refine Az [2,4,6,8] (by decide+kernel) ⟨?_,?_,?_,?_,trivial⟩|refine Az [4,6,8] (by decide+kernel) ⟨?_,?_,?_,trivial⟩|refine Az [6,8] (by decide+kernel) ⟨?_,?_,trivial⟩|refine Az [8] (by decide+kernel) ⟨?_,trivial⟩|refine Az [9] (by decide+kernel) ⟨?_,trivial⟩|refine Az [10] (by decide+kernel) ⟨?_,trivial⟩|refine Az [6] (by decide+kernel) ⟨?_,trivial⟩|refine Az [4,8] (by decide+kernel) ⟨?_,?_,trivial⟩|refine Az [4] (by decide+kernel) ⟨?_,trivial⟩|refine Az [4,6] (by decide+kernel) ⟨?_,?_,trivial⟩|refine Az [2,6,8] (by decide+kernel) ⟨?_,?_,?_,trivial⟩|refine Az [2,8] (by decide+kernel) ⟨?_,?_,trivial⟩|refine Az [2] (by decide+kernel) ⟨?_,trivial⟩|refine Az [2,6] (by decide+kernel) ⟨?_,?_,trivial⟩|refine Az [2,4,8] (by decide+kernel) ⟨?_,?_,?_,trivial⟩|refine Az [2,4] (by decide+kernel) ⟨?_,?_,trivial⟩|refine Az [2,4,6] (by decide+kernel) ⟨?_,?_,?_,trivial⟩|refine Az [0,6,8] (by decide+kernel) ⟨?_,?_,?_,trivial⟩|refine Az [0,8] (by decide+kernel) ⟨?_,?_,trivial⟩|refine Az [0] (by decide+kernel) ⟨?_,trivial⟩|refine Az [0,6] (by decide+kernel) ⟨?_,?_,trivial⟩|refine Az [0,4,8] (by decide+kernel) ⟨?_,?_,?_,trivial⟩|refine Az [0,4] (by decide+kernel) ⟨?_,?_,trivial⟩|refine Az [0,4,6] (by decide+kernel) ⟨?_,?_,?_,trivial⟩)<;>(refine go A0 false ?_;(conv=>whnf);(first|(refine B6 A0 rfl (A9 xs) (Bs) (fun _=>J4 xs) A7 (It ?_);(conv=>whnf))|(repeat (refine Gn ?_;(conv=>whnf))));refine Av ?_))
   |refine Rb (by decide+kernel) (B46.out ?_))
 all_goals
  refine B46.mk (Ah ?_)
 all_goals
  refine An A0 rfl rfl ⟨⟨.inr ⟨rfl,rfl,_,_,rfl⟩,.inr ⟨rfl,rfl,_,_,rfl⟩,?_,.inr ⟨rfl,rfl,_,_,rfl⟩,?_,?_,?_,.inr ⟨rfl,rfl,_,_,rfl⟩,trivial⟩,trivial⟩
  ·exact (rfl:A9 xs=A9 xs)
  ·exact C1o
  ·exact A1i
  exact A1i
set_option maxHeartbeats 1600000 in
theorem B0c (xs:List Aa)(hx:xs.length≤16777216):Di 120 [.one (A9 xs)] [.agg (Ob xs).c]:=by
 refine E7 Tryz.func120 fun W=>?_;refine Rc rfl ?_
 repeat' (first
   |(first|refine C4g A0 false 0 rfl rfl rfl (by decide+kernel) rfl (Q8 B8m) ?_)
   |((first|refine Az [1,2,3,4] (by decide+kernel) ⟨?_,?_,?_,?_,trivial⟩|refine Az [2,3,4] (by decide+kernel) ⟨?_,?_,?_,trivial⟩|refine Az [3,4] (by decide+kernel) ⟨?_,?_,trivial⟩|refine Az [4] (by decide+kernel) ⟨?_,trivial⟩|refine Az [5] (by decide+kernel) ⟨?_,trivial⟩|refine Az [6] (by decide+kernel) ⟨?_,trivial⟩|refine Az [3] (by decide+kernel) ⟨?_,trivial⟩|refine Az [2,4] (by decide+kernel) ⟨?_,?_,trivial⟩|refine Az [2] (by decide+kernel) ⟨?_,trivial⟩|refine Az [2,3] (by decide+kernel) ⟨?_,?_,trivial⟩|refine Az [1,3,4] (by decide+kernel) ⟨?_,?_,?_,trivial⟩|refine Az [1,4] (by decide+kernel) ⟨?_,?_,trivial⟩|refine Az [1] (by decide+kernel) ⟨?_,trivial⟩|refine Az [1,3] (by decide+kernel) ⟨?_,?_,trivial⟩|refine Az [1,2,4] (by decide+kernel) ⟨?_,?_,?_,trivial⟩|refine Az [1,2] (by decide+kernel) ⟨?_,?_,trivial⟩|refine Az [1,2,3] (by decide+kernel) ⟨?_,?_,?_,trivial⟩)<;>(refine go A0 false ?_;(conv=>whnf);(first|(refine Lo (Jx xs A7) rfl (It ?_);(conv=>whnf))|(repeat (refine Gn ?_;(conv=>whnf))));refine Av ?_))
   |refine Rb (by decide+kernel) (B46.out ?_))
 all_goals
  refine B46.mk (Ah ?_)
 all_goals
  refine An A0 rfl rfl ⟨⟨.inr ⟨rfl,rfl,_,_,rfl⟩,.inr ⟨rfl,rfl,_,_,rfl⟩,?_,.inr ⟨rfl,rfl,_,_,rfl⟩,?_,?_,?_,.inr ⟨rfl,rfl,_,_,rfl⟩,trivial⟩,trivial⟩
  ·exact (rfl:A9 xs=A9 xs)
  ·exact C1o
  ·exact A1i
  exact A1i
def Qm (n:Int) (l:List Aa) (w:Int) (k:Nat):List Aa:=(List.range k).flatMap fun (e:Nat)=>(Ff l e).filter fun r=>Ev r.key n==w
theorem A22 (n:Int)(l:List Aa)(w:Int)(k:Nat):Qm n l w (k+1)=Qm n l w k++(Ff l k).filter fun r=>Ev r.key n==w:=by
 rw [Qm,Yy,Wu]
 simp [Qm]
theorem W5 (n:Int)(l:List Aa)(w:Int)(k:Nat):(Qm n l w k).length≤k * l.length:=by
 induction k with
 |zero=>simp [Qm]
 |succ k ih=>
  rw [A22,D3,Pi];have h1:=Nr (fun r:Aa=>Ev r.key n==w) (Ff l k);have h2:=O4 l k;omega
def oP (n:Int) (w:Int) (e:Nat) (r:Aa):Bool:=(r.af.ab==(e:Int))&&(Ev r.key n==w)
theorem C38 (n:Int)(l:List Aa)(w:Int)(e:Nat):l.filter (oP n w e)=(Ff l e).filter fun r=>Ev r.key n==w:=by
 show _=List.filter _ (List.filter _ l)
 rw [List.filter_filter]
 congr 1
 funext r
 rw [oP,Bool.and_comm]
set_option maxHeartbeats 1600000 in
theorem D1a (g:B0)(l:List Aa)(w:Int)(hl:l.length≤20)(hg:g.aq≤4):Di 125 [.agg g.c,.one (A9 l),.one (vi w)] [.one (A9 (Qm g.aq l w 4))]:=by
 refine E7 Tryz.func125 fun W=>?_;refine Eu 1 (A9 []) rfl C0 ?_;refine Fx [9,10] (fun k:Nat=>[(8,.c (vi k))]) (fun k=>[⟨0,[.c (At g.ak),.c (vi g.aq),.c (vi g.cap)]⟩]) (fun k=>[⟨1,A9 (Qm g.aq l w k)⟩]) (fun k=>k≤4) (fun k=>4-k) fun k hk=>?_;refine C1 (fun h=>?_) fun h=>?_
 ·have h:k<4:=by have:=Bn h;omega
  have hk1:=W5 g.aq l w k;have hk2:k * l.length≤80:=Fk (Wv (show k≤4 by omega) hl) Bq
  refine Fx [] (fun j:Nat=>[(9,.c (vi j))]) (fun j=>[⟨0,[.c (At g.ak),.c (vi g.aq),.c (vi g.cap)]⟩]) (fun j=>[⟨1,A9 (Qm g.aq l w k++(l.take j).filter (oP g.aq w k))⟩]) (fun j=>j≤l.length) (fun j=>l.length-j) fun j hj=>?_;conv=>whnf
  refine Dv (fun h2=>?_) fun h2=>?_
  ·have h2:j<l.length:=by omega
   have hs:=Er (oP g.aq w k) l j h2;have hb:=E8 (oP g.aq w k) l j
   first|(refine Aj 8 rfl [0,1,2,3,4,5,6,7,8,9,10,11,12,13,14,15,17,16,18,19] Am (Ah ?_))
   refine B4 ?_;refine C1 (fun h3=>?_) fun h3=>?_
   ·rw [Bv] at h3
    refine As ?_;refine Aq (A4z (l.getD j default).key g.aq A7) rfl (Gu ?_);refine C1 (fun h4=>?_) fun h4=>?_
    ·have h5:oP g.aq w k (l.getD j default)=true:=by rw [oP,h3,h4];rfl
     refine B4 ?_;refine B6 A0 rfl (A9 (Qm g.aq l w k++(l.take j).filter (oP g.aq w k)++[l.getD j default])) (Ao rfl) Hd (by (rw [D3];omega)) (Em ?_);refine Cc [(1,3)] (j+1) A7 A7 ⟨rfl,trivial⟩ ⟨A6 A9 (by rw [hs,Ak h5,Cr]),trivial⟩
    have h5:oP g.aq w k (l.getD j default)=false:=by rw [oP,h4,Bool.and_false]
    refine As ?_;refine Cc [] (j+1) A7 A7 ⟨rfl,trivial⟩ ⟨A6 A9 (by rw [hs,Ab (by rw [h5];decide),I4]),trivial⟩
   rw [Bv] at h3;have h5:oP g.aq w k (l.getD j default)=false:=by rw [oP,h3,Bool.false_and]
   refine As ?_;refine Cc [] (j+1) A7 A7 ⟨rfl,trivial⟩ ⟨A6 A9 (by rw [hs,Ab (by rw [h5];decide),I4]),trivial⟩
  refine B4 ?_;refine Cc [] (k+1) A7 A7 ⟨rfl,trivial⟩ ⟨A6 A9 (by rw [A22,←C38,Ms A7]),trivial⟩
 have h:¬ k<4:=by have:=Cv h;omega
 obtain rfl:k=4:=by omega
 exact D4
end Go.Proofs.YtmhcebdkjgkmlaaGreatDoor
