/- Part 39 of the proof that each of the laws FnScriptsBack returns true for every input. No conditions. -/
import Derived.Test.YtmhcebdkjgkmlaaGreatDoorR33
import Derived.Test.YtmhcebdkjgkmlaaGreatDoorR38
import Derived.Test.YtmhcebdkjgkmlaaGreatDoorR34

set_option linter.unusedSimpArgs false
set_option linter.unusedVariables false
set_option maxRecDepth 100000
namespace Go.Proofs.YtmhcebdkjgkmlaaGreatDoor
open Go.Sx
set_option maxHeartbeats 4000000 in
theorem B14 (x:A3)(p:Cs)(h:x.w≤8000000)(hgo:Nj x):Df 122 [.agg x.c,.agg p.c] [.agg (At x p).1.c,.one (vb (At x p).2)]:=by
 refine Dy Tryz.func122 fun W=>?_;refine Mf (fun k1=>?_) fun k1=>?_
 ·refine Hp (B1z x p.a A7 hgo) ?_
  rw [At,Ah k1];exact Dk
 refine Mf (fun k2=>?_) fun k2=>?_
 ·refine Hp (A8y x p.a A7 hgo) ?_
  rw [At,Ab k1,Ah k2];exact Dk
 refine Mf (fun k3=>?_) fun k3=>?_
 ·refine Hp (B1x x p.a h hgo) ?_
  rw [At,Ab k1,Ab k2,Ah k3];exact Dk
 refine Mf (fun k4=>?_) fun k4=>?_
 ·refine Hp (B1y x p.a p.b h hgo) ?_
  rw [At,Ab k1,Ab k2,Ab k3,Ah k4];exact Dk
 refine Mf (fun k5=>?_) fun k5=>?_
 ·refine Hp (A5x x p.a p.b A7 hgo) ?_
  rw [At,Ab k1,Ab k2,Ab k3,Ab k4,Ah k5];exact Dk
 refine Mf (fun k6=>?_) fun k6=>?_
 ·refine Hp (A81 x p.a A7 hgo) ?_
  rw [At,Ab k1,Ab k2,Ab k3,Ab k4,Ab k5,Ah k6];exact Dk
 refine Mf (fun k7=>?_) fun k7=>?_
 ·refine Hp (B1v x p.a A7 hgo) ?_
  rw [At,Ab k1,Ab k2,Ab k3,Ab k4,Ab k5,Ab k6,Ah k7];exact Dk
 refine Hp (Ev x A7) ?_;rw [At,Ab k1,Ab k2,Ab k3,Ab k4,Ab k5,Ab k6,Ab k7];exact Dk
set_option maxHeartbeats 8000000 in
theorem Pu (x:A3)(l:List Cs)(h:x.w+4 * l.length≤8000000)(hgo:Nj x):Df 61 [.agg x.c,.one (Ch l)] [.agg (B0 x l).1.c,.one (Dz (B0 x l).2)]:=by
 refine Dy Tryz.func61 fun W=>?_;refine Hp (Ev x A7) ?_;refine A85 7 1 (fun i=>[vb (([]:List Bool).getD i default)]) rfl ?_;refine Fs [13] (fun k:Nat=>[(16,.c (vi k))]) (fun k=>[⟨7,[.own 2,.c (vi (B0 x (l.take k)).1.az.aq),.c (vi (B0 x (l.take k)).1.az.cap),.own 3,.own 4,.own 5,.own 6]⟩,⟨1,[.c (.val (.slice none 0 0)),.c (vi 0),.c (vi 0),.c (.val (.slice none 0 0)),.c (.val (.slice none 0 0)),.c (.val (.slice none 0 0)),.c (.val (.slice none 0 0))]⟩]) (fun k=>[⟨8,Dz (B0 x (l.take k)).2⟩,⟨2,Ay (B0 x (l.take k)).1.az.ay⟩,⟨3,Ai (B0 x (l.take k)).1.aq⟩,⟨4,Bo (B0 x (l.take k)).1.ak⟩,⟨5,B4 (B0 x (l.take k)).1.ar⟩,⟨6,C4 (B0 x (l.take k)).1.au⟩]) (fun k=>k≤l.length) (fun k=>l.length-k) fun k hk=>?_;conv=>whnf
 refine E3 (fun hlt=>?_) fun hlt=>?_
 ·have hlt:k<l.length:=by omega
  have hw:=Yy (c:=x) (l:=l.take k);have hn:=W5 (c:=x) (l:=l.take k);have ht:(l.take k).length=k:=by rw [G2];omega
  have hs:=A1w (c:=x) hlt;refine B6 ?_;refine Hp (B14 (B0 x (l.take k)).1 (l.getD k default) A7 (A67 hgo)) ?_;refine Bg A0 rfl (Dz ((B0 x (l.take k)).2++[(At (B0 x (l.take k)).1 (l.getD k default)).2])) (An rfl) Ij A7 (F1 ?_);refine A58 [(2,10),(3,11),(4,12),(5,13),(6,14),(8,17)] (k+1) A7 A7 ⟨rfl,trivial⟩ ⟨A6 Dz (by rw [hs];rfl),A6 (fun s:A3×List Bool=>Ay s.1.az.ay) hs.symm,A6 (fun s:A3×List Bool=>Ai s.1.aq) hs.symm,A6 (fun s:A3×List Bool=>Bo s.1.ak) hs.symm,A6 (fun s:A3×List Bool=>B4 s.1.ar) hs.symm,A6 (fun s:A3×List Bool=>C4 s.1.au) hs.symm,trivial⟩ (by rw [hs];repeat' (first|exact trivial|exact rfl|refine ⟨?_,?_⟩)) Ak ab8 Ak
 obtain rfl:k=l.length:=by omega
 rw [H5];exact Dk
theorem A4y {l:List Bool}{k:Nat}(hk:k<l.length):((l.take (k+1)).filter id).length=((l.take k).filter id).length+if l.getD k default=true then 1 else 0:=by
 rw [G5 id l k hk,Dn];simp only [id]
 split<;>rfl
set_option maxHeartbeats 8000000 in
theorem A8u (x:A3)(h:x.w≤7000000)(hgo:Nj x):Df 104 [.agg x.c] [.agg (Ck x).1.c,.one (vi (Ck x).2)]:=by
 have hal:=Zg x;have hrl:=W5 (c:=x) (l:=R2 (Iv x));have hF:Ck x=((B0 x (R2 (Iv x))).1,((B0 x (R2 (Iv x))).2.filter id).length):=rfl;refine Dy Tryz.func104 fun W=>?_;refine Jd rfl ?_;refine Pb 0 ?_;refine Pb 1 ?_;refine zt2 2 7 ?_ ?_
 focus
  refine Hp (A0b x) ?_;refine Ei (zt2 3 7 ?_ ?_)
  focus
   refine Hp (Pu x (R2 (Iv x)) A7 hgo) ?_;refine Ei (E4 4 rfl ?_);refine zoF 5 ?_;refine zoF 6 ?_;refine splitB [7] Ak ⟨?_,trivial⟩;refine F1 ?_;refine Ei ?_
  rotate_left 1
  focus
   refine B6 ?_;refine Ei ?_;refine splitB [3] Ak ⟨?_,trivial⟩;refine Ag ?_;refine Hp (Pu x (R2 (Iv x)) A7 hgo) ?_;refine Ei (E4 4 rfl ?_);refine zoF 5 ?_;refine zoF 6 ?_
 rotate_left 2
 focus
  refine B6 ?_;refine Ei ?_;refine splitB [2] Ak ⟨?_,trivial⟩;refine Ag ?_;refine Hp (A0b x) ?_;refine Ei ?_;refine splitB [3] Ak ⟨?_,trivial⟩;refine Ag ?_;refine Hp (Pu x (R2 (Iv x)) A7 hgo) ?_;refine Ei (E4 4 rfl ?_);refine zoF 5 ?_;refine zoF 6 ?_
 all_goals
  refine splitB [8] Ak ⟨?_,trivial⟩;refine F1 ?_;refine Ei (E4 9 rfl ?_);refine A2r Ak (Ag ?_)
 all_goals generalize B0 x (R2 (Iv x))=R at *
 ·refine Fs [8] (fun k:Nat=>[(18,.c (vi k)),(6,.c (vi ((R.2.take k).filter id).length))]) (fun k=>[⟨2,[.own 4,.c (vi R.1.az.aq),.c (vi R.1.az.cap),.own 5,.own 6,.own 7,.own 8]⟩,⟨1,[.c (.val (.slice none 0 0)),.c (vi 0),.c (vi 0),.c (.val (.slice none 0 0)),.c (.val (.slice none 0 0)),.c (.val (.slice none 0 0)),.c (.val (.slice none 0 0))]⟩]) (fun k=>[⟨9,Dz R.2⟩,⟨4,Ay R.1.az.ay⟩,⟨5,Ai R.1.aq⟩,⟨6,Bo R.1.ak⟩,⟨7,B4 R.1.ar⟩,⟨8,C4 R.1.au⟩]) (fun k=>k≤R.2.length) (fun k=>R.2.length-k) fun k hk=>?_
  conv=>whnf
  refine E3 (fun hlt=>?_) fun hlt=>?_
  ·have hlt:k<R.2.length:=by omega
   have hc:=A4y hlt;have hle:((R.2.take k).filter id).length≤k:=G0 (Pm _ _) (by rw [G2];omega);refine B6 ?_;refine C2 (fun hb=>?_) fun hb=>?_
   ·rw [Cp] at hb
    rw [Ah hb] at hc;refine B6 ?_;refine Co [] (k+1) A7 A7 ⟨rfl,A6 (fun n:Nat=>AV.c (vi (n:Int))) hc.symm,trivial⟩ ⟨rfl,rfl,rfl,rfl,rfl,rfl,trivial⟩
   rw [Cp] at hb;rw [Ab (by rw [hb];decide)] at hc;refine B6 ?_;refine Co [] (k+1) A7 A7 ⟨rfl,A6 (fun n:Nat=>AV.c (vi (n:Int))) hc.symm,trivial⟩ ⟨rfl,rfl,rfl,rfl,rfl,rfl,trivial⟩
  obtain rfl:k=R.2.length:=by omega
  rw [hF,H5];exact Dk
 ·refine Fs [8] (fun k:Nat=>[(18,.c (vi k)),(6,.c (vi ((R.2.take k).filter id).length))]) (fun k=>[⟨3,[.own 4,.c (vi R.1.az.aq),.c (vi R.1.az.cap),.own 5,.own 6,.own 7,.own 8]⟩,⟨1,[.c (.val (.slice none 0 0)),.c (vi 0),.c (vi 0),.c (.val (.slice none 0 0)),.c (.val (.slice none 0 0)),.c (.val (.slice none 0 0)),.c (.val (.slice none 0 0))]⟩]) (fun k=>[⟨9,Dz R.2⟩,⟨4,Ay R.1.az.ay⟩,⟨5,Ai R.1.aq⟩,⟨6,Bo R.1.ak⟩,⟨7,B4 R.1.ar⟩,⟨8,C4 R.1.au⟩]) (fun k=>k≤R.2.length) (fun k=>R.2.length-k) fun k hk=>?_
  conv=>whnf
  refine E3 (fun hlt=>?_) fun hlt=>?_
  ·have hlt:k<R.2.length:=by omega
   have hc:=A4y hlt;have hle:((R.2.take k).filter id).length≤k:=G0 (Pm _ _) (by rw [G2];omega);refine B6 ?_;refine C2 (fun hb=>?_) fun hb=>?_
   ·rw [Cp] at hb
    rw [Ah hb] at hc;refine B6 ?_;refine Co [] (k+1) A7 A7 ⟨rfl,A6 (fun n:Nat=>AV.c (vi (n:Int))) hc.symm,trivial⟩ ⟨rfl,rfl,rfl,rfl,rfl,rfl,trivial⟩
   rw [Cp] at hb;rw [Ab (by rw [hb];decide)] at hc;refine B6 ?_;refine Co [] (k+1) A7 A7 ⟨rfl,A6 (fun n:Nat=>AV.c (vi (n:Int))) hc.symm,trivial⟩ ⟨rfl,rfl,rfl,rfl,rfl,rfl,trivial⟩
  obtain rfl:k=R.2.length:=by omega
  rw [hF,H5];exact Dk
 refine Fs [8] (fun k:Nat=>[(18,.c (vi k)),(6,.c (vi ((R.2.take k).filter id).length))]) (fun k=>[⟨9,[.own 3,.c (vi R.1.az.aq),.c (vi R.1.az.cap),.own 4,.own 5,.own 6,.own 7]⟩,⟨1,[.c (.val (.slice none 0 0)),.c (vi 0),.c (vi 0),.c (.val (.slice none 0 0)),.c (.val (.slice none 0 0)),.c (.val (.slice none 0 0)),.c (.val (.slice none 0 0))]⟩]) (fun k=>[⟨8,Dz R.2⟩,⟨3,Ay R.1.az.ay⟩,⟨4,Ai R.1.aq⟩,⟨5,Bo R.1.ak⟩,⟨6,B4 R.1.ar⟩,⟨7,C4 R.1.au⟩]) (fun k=>k≤R.2.length) (fun k=>R.2.length-k) fun k hk=>?_;conv=>whnf
 refine E3 (fun hlt=>?_) fun hlt=>?_
 ·have hlt:k<R.2.length:=by omega
  have hc:=A4y hlt;have hle:((R.2.take k).filter id).length≤k:=G0 (Pm _ _) (by rw [G2];omega);refine B6 ?_;refine C2 (fun hb=>?_) fun hb=>?_
  ·rw [Cp] at hb
   rw [Ah hb] at hc;refine B6 ?_;refine Co [] (k+1) A7 A7 ⟨rfl,A6 (fun n:Nat=>AV.c (vi (n:Int))) hc.symm,trivial⟩ ⟨rfl,rfl,rfl,rfl,rfl,rfl,trivial⟩
  rw [Cp] at hb;rw [Ab (by rw [hb];decide)] at hc;refine B6 ?_;refine Co [] (k+1) A7 A7 ⟨rfl,A6 (fun n:Nat=>AV.c (vi (n:Int))) hc.symm,trivial⟩ ⟨rfl,rfl,rfl,rfl,rfl,rfl,trivial⟩
 obtain rfl:k=R.2.length:=by omega
 rw [hF,H5];exact Dk
set_option maxHeartbeats 8000000 in
theorem B4g (x:A3)(most:Int)(h:x.w≤6000000)(hgo:Nj x):Df 49 [.agg x.c,.one (vi most)] [.agg (H0 (E5 most 0 3000).toNat x).1.c,.one (vi (H0 (E5 most 0 3000).toNat x).2)]:=by
 have hb:=Hn most 0 3000 Bk;obtain ⟨n,hn⟩:∃n:Nat,E5 most 0 3000=n:=⟨(E5 most 0 3000).toNat,by omega⟩;rw [hn,Cp];refine Dy Tryz.func49 fun W=>?_;refine Hp (Ev x A7) ?_;refine Fs [11] (fun k:Nat=>[(7,.c (vi k))]) (fun k=>[⟨7,[.own 2,.c (vi (Pg x k).az.aq),.c (vi (Pg x k).az.cap),.own 3,.own 4,.own 5,.own 6]⟩,⟨1,[.c (.val (.slice none 0 0)),.c (vi 0),.c (vi 0),.c (.val (.slice none 0 0)),.c (.val (.slice none 0 0)),.c (.val (.slice none 0 0)),.c (.val (.slice none 0 0))]⟩]) (fun k=>[⟨2,Ay (Pg x k).az.ay⟩,⟨3,Ai (Pg x k).aq⟩,⟨4,Bo (Pg x k).ak⟩,⟨5,B4 (Pg x k).ar⟩,⟨6,C4 (Pg x k).au⟩]) (fun k=>k≤n∧∀i,i<k→(Ck (Pg x i)).2≠0) (fun k=>n-k) fun k hk=>?_;obtain ⟨hk,he⟩:=hk;conv=>whnf
 refine Fh (Vh most 0 3000) ?_;rw [hn];refine E3 (fun hlt=>?_) fun hlt=>?_
 ·have hlt:k<n:=by omega
  have hw:=D0j x k;refine Nm (A8u (Pg x k) A7 (C8n hgo k)) rfl (F1 ?_);refine Mf (fun h0=>?_) fun h0=>?_
  ·have h0:(Ck (Pg x k)).2=0:=by omega
   rw [Zs hlt he h0];exact Dk
  have h0:(Ck (Pg x k)).2≠0:=by omega
  refine Co [(2,8),(3,9),(4,10),(5,11),(6,12)] (k+1) ⟨by omega,fun i hi=>(Wl.1 hi).elim (fun h4=>he i h4) (fun h4=>by subst h4;exact h0)⟩ A7 ⟨rfl,trivial⟩ ⟨rfl,rfl,rfl,rfl,rfl,trivial⟩
 obtain rfl:k=n:=by omega
 rw [Zr he];exact Dk
end Go.Proofs.YtmhcebdkjgkmlaaGreatDoor
