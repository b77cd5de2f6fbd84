/- Part 43 of the proof that each of the laws FnScriptsBack returns true for every input. No conditions. -/
import Derived.Test.YtmhcebdkjgkmlaaGreatDoorR31

set_option linter.unusedSimpArgs false
set_option linter.unusedVariables false
set_option maxRecDepth 100000
namespace Go.Proofs.YtmhcebdkjgkmlaaGreatDoor
open Go.Sx
def InP (r:A9):Prop:=H8 r∧r.op=0∧r.af.turn=0
variable {l : List A9}
theorem N4 {g:Ax}(h:¬ Xg g l):C9 g l=(Q1,false):=Ab h
theorem A0j {g:Ax}(h:Xg g l):C9 g l=(⟨g,Et g.aq l g.aq.toNat,List.replicate (g.aq.toNat * g.aq.toNat) (Hj g.cap),List.replicate 4 default,[]⟩,true):=Ah h
theorem A1o (n:Int)(l:List A9)(k:Nat):Et n l (k+1)=Et n l k++[O6 (Qm n l k 4)]:=by
 rw [Et,Za,Uu];rfl
theorem A6c (n:Int)(l:List A9)(k:Nat):(Et n l k).length=k:=by rw [Et,Oy,Wc]
set_option maxHeartbeats 8000000 in
theorem A7f (g:Ax)(l:List A9)(hg:g.w≤16777216)(hl:l.length≤16777216):Df 62 [.agg g.c,.one (Aa l)] [.agg (C9 g l).1.c,.one (vb (C9 g l).2)]:=by
 refine Dy Tryz.func62 fun W=>?_;refine Fh (Mn g A7) ?_;refine C2 (fun h1=>?_) fun h1=>?_
 ·have h1:Eh g=false:=by simpa using h1
  refine Ar ?_;rw [N4 (fun p=>absurd p.1 (Cy h1))];exact Dk
 have h1:Gc g:=Bp (show Eh g=true by simpa using h1)
 refine Ar ?_;refine C2 (fun h2=>?_) fun h2=>?_
 ·have h2:¬ l.length≤20:=by have:=Bp h2;omega
  refine Ar ?_;rw [N4 (fun p=>h2 p.2.1)];exact Dk
 have h2:l.length≤20:=by have:=Cy h2;omega
 refine Ar ?_;have hwk:=h1.2.1;obtain ⟨n,hn⟩:∃n:Nat,g.aq=n:=⟨g.aq.toNat,by omega⟩;refine Fs [] (fun k:Nat=>[(6,.c (vi k))]) (fun k=>[⟨0,[.c (Ay g.ay),.c (vi g.aq),.c (vi g.cap)]⟩,⟨1,[.c (.val (.slice none 0 0)),.c (vi 0),.c (vi 0),.c (.val (.slice none 0 0)),.c (.val (.slice none 0 0)),.c (.val (.slice none 0 0)),.c (.val (.slice none 0 0))]⟩]) (fun k=>[]) (fun k=>k≤l.length∧∀i,i<k→InP (l.getD i default)) (fun k=>l.length-k) fun k hk=>?_;obtain ⟨hk,he⟩:=hk;conv=>whnf
 refine E3 (fun h3=>?_) fun h3=>?_
 ·have h3:k<l.length:=by omega
  refine B6 ?_;refine Ao (Jl (l.getD k default)) rfl (Ft ?_);refine C2 (fun h4=>?_) fun h4=>?_
  ·have h4:F2 (l.getD k default)=false:=by simpa using h4
   refine Ar ?_;rw [N4 (fun p=>absurd (p.2.2 _ (Am h3)).1 (Cy h4))];exact Dk
  have h4:H8 (l.getD k default):=Bp (show F2 (l.getD k default)=true by simpa using h4)
  refine Ar ?_;refine Xi (fun h5=>?_) fun h5=>?_
  ·have h5:(l.getD k default).op≠0:=h5
   refine Ar ?_;rw [N4 (fun p=>h5 (p.2.2 _ (Am h3)).2.1)];exact Dk
  have h5:(l.getD k default).op=0:=h5;refine Ar ?_;refine Xi (fun h6=>?_) fun h6=>?_
  ·have h6:(l.getD k default).af.turn≠0:=h6
   refine Ar ?_;rw [N4 (fun p=>h6 (p.2.2 _ (Am h3)).2.2)];exact Dk
  have h6:(l.getD k default).af.turn=0:=h6;refine Ar ?_;refine Co [] (k+1) ⟨by omega,fun i hi=>(Wl.1 hi).elim (fun h7=>he i h7) (fun h7=>by subst h7;exact ⟨h4,h5,h6⟩)⟩ A7 ⟨rfl,trivial⟩ trivial
 have hN:Xg g l:=⟨h1,h2,fun r hr=>by
  obtain ⟨i,hi,rfl⟩:=Po hr
  have:=he i A7
  rw [show l.getD i default=l[i] by simp [List.getD,hi]] at this
  exact this⟩
 rw [A0j hN];refine B89 3 ?_;refine C76 A0 false (J:=Unit) [49,50,51,52] (fun _=>[(7,.box 2 0)]) (fun _=>[⟨2,[.own 3,.c (vi g.aq),.c (vi g.cap),.c (.val (.slice none 0 0)),.c (.val (.slice none 0 0)),.own 4,.c (.val (.slice none 0 0))]⟩,⟨0,[.c (Ay g.ay),.c (vi g.aq),.c (vi g.cap)]⟩,⟨1,[.c (.val (.slice none 0 0)),.c (vi 0),.c (vi 0),.c (.val (.slice none 0 0)),.c (.val (.slice none 0 0)),.c (.val (.slice none 0 0)),.c (.val (.slice none 0 0))]⟩]) (fun _=>[⟨3,Ay g.ay⟩,⟨4,B4 (List.replicate 4 default)⟩]) (fun _=>True) ?_ (fun _ _=>?_)
 ·conv=>whnf
  refine Oj rfl ?_
  repeat' (first
    |((first|refine Au [0,2,4] (by decide+kernel) ⟨?_,?_,?_,trivial⟩|refine Au [1,2,4] (by decide+kernel) ⟨?_,?_,?_,trivial⟩|refine Au [2,4] (by decide+kernel) ⟨?_,?_,trivial⟩|refine Au [3,4] (by decide+kernel) ⟨?_,?_,trivial⟩|refine Au [4] (by decide+kernel) ⟨?_,trivial⟩|refine Au [5] (by decide+kernel) ⟨?_,trivial⟩|refine Au [3] (by decide+kernel) ⟨?_,trivial⟩|refine Au [2] (by decide+kernel) ⟨?_,trivial⟩|refine Au [1,4] (by decide+kernel) ⟨?_,?_,trivial⟩|refine Au [1] (by decide+kernel) ⟨?_,trivial⟩|refine Au [1,2] (by decide+kernel) ⟨?_,?_,trivial⟩|refine Au [0,4] (by decide+kernel) ⟨?_,?_,trivial⟩|refine Au [0] (by decide+kernel) ⟨?_,trivial⟩|refine Au [0,2] (by decide+kernel) ⟨?_,?_,trivial⟩)<;>(refine go A0 false ?_;(conv=>whnf);(first|(refine Nm (Oe g hg) rfl (I7 ?_);(conv=>whnf))|(repeat (refine Ew ?_;(conv=>whnf))));refine Aq ?_))
    |refine Oi (by decide+kernel) (B3h.out ?_))
  all_goals
   refine B3h.mk (Ag ?_)
  all_goals first|exact Co [(2,5),(3,6),(4,7)] (()) (trivial) R1 ⟨rfl,trivial⟩ ⟨rfl,Ic,trivial⟩|exact Co [(2,5),(3,7),(4,6)] (()) (trivial) R1 ⟨rfl,trivial⟩ ⟨rfl,Ic,trivial⟩|exact Co [(2,6),(3,5),(4,7)] (()) (trivial) R1 ⟨rfl,trivial⟩ ⟨rfl,Ic,trivial⟩|exact Co [(2,6),(3,7),(4,5)] (()) (trivial) R1 ⟨rfl,trivial⟩ ⟨rfl,Ic,trivial⟩|exact Co [(2,7),(3,5),(4,6)] (()) (trivial) R1 ⟨rfl,trivial⟩ ⟨rfl,Ic,trivial⟩|exact Co [(2,7),(3,6),(4,5)] (()) (trivial) R1 ⟨rfl,trivial⟩ ⟨rfl,Ic,trivial⟩
 clear he
 refine Xh 2 3 8 (fun i=>Aj.c (([]:List Aj).getD i default)) rfl rfl ?_;refine Xh 2 4 6 (fun i=>D8.c (([]:List D8).getD i default)) rfl rfl ?_;refine Fi 6 (Bo (List.replicate (0 * n) (Hj g.cap))) rfl (by rw [Nat.zero_mul];exact Dx) ?_;refine Fs [9,53,54,55,56,57,58,59,60,61,62,63,64,65,66,67,68,69,70,71,72,73,74,75,76,77,78,79,80,81,82,83] (fun k:Nat=>[(8,.c (vi k))]) (fun k=>[⟨2,[.own 3,.c (vi g.aq),.c (vi g.cap),.own 5,.own 6,.own 4,.c (.val (.slice none 0 0))]⟩,⟨0,[.c (Ay g.ay),.c (vi g.aq),.c (vi g.cap)]⟩,⟨1,[.c (.val (.slice none 0 0)),.c (vi 0),.c (vi 0),.c (.val (.slice none 0 0)),.c (.val (.slice none 0 0)),.c (.val (.slice none 0 0)),.c (.val (.slice none 0 0))]⟩]) (fun k=>[⟨3,Ay g.ay⟩,⟨4,B4 (List.replicate 4 default)⟩,⟨5,Ai (Et g.aq l k)⟩,⟨6,Bo (List.replicate (k * n) (Hj g.cap))⟩]) (fun k=>k≤n) (fun k=>n-k) fun k hk=>?_;conv=>whnf
 refine E3 (fun hlt=>?_) fun hlt=>?_
 ·have hlt:k<n:=by omega
  have hkl:=A6c g.aq l k;have hol:=Vs g.aq l k 4
  first|(refine Ae 8 rfl [0,1,2,3,4,5] Ak (Ag ?_))|(refine Ae 12 rfl [0,1,2,3,4,5,6,7,8,9,10] Ak (Ag ?_))|(refine Ae 16 rfl [0,1,2,3,4,5,6,7,8] Ak (Ag ?_))
  refine Hp (C96 g l k h2 A7) ?_;refine Hp (A9g (Qm g.aq l k 4) A7) ?_;refine Lg A0 rfl rfl rfl rfl (Ag ?_);refine Bg A0 rfl (Ai (Et g.aq l k++[O6 (Qm g.aq l k 4)])) (An rfl) Ij A7 (Ag ?_);rw [←A1o];refine Fs [69,70,71,72,73,74,75,76,77,78,79,80,81,82] (fun j:Nat=>[(9,.c (vi j))]) (fun j=>[⟨2,[.own 3,.c (vi g.aq),.c (vi g.cap),.own 17,.own 6,.own 4,.c (.val (.slice none 0 0))]⟩,⟨0,[.c (Ay g.ay),.c (vi g.aq),.c (vi g.cap)]⟩,⟨1,[.c (.val (.slice none 0 0)),.c (vi 0),.c (vi 0),.c (.val (.slice none 0 0)),.c (.val (.slice none 0 0)),.c (.val (.slice none 0 0)),.c (.val (.slice none 0 0))]⟩]) (fun j=>[⟨3,Ay g.ay⟩,⟨4,B4 (List.replicate 4 default)⟩,⟨17,Ai (Et g.aq l (k+1))⟩,⟨6,Bo (List.replicate (k * n+j) (Hj g.cap))⟩]) (fun j=>j≤n) (fun j=>n-j) fun j hj=>?_;conv=>whnf
  refine E3 (fun hlt2=>?_) fun hlt2=>?_
  ·have hlt2:j<n:=by omega
   have hkn:k * n≤16:=G0 (Wd (show k≤4 by omega) (show n≤4 by omega)) Bk
   first|(refine Ae 8 rfl [0,1,2,3,4,5] Ak (Ag ?_))|(refine Ae 12 rfl [0,1,2,3,4,5,6,7,8,9,10] Ak (Ag ?_))|(refine Ae 16 rfl [0,1,2,3,4,5,6,7,8] Ak (Ag ?_))
   refine Hp (B55 g.cap) ?_;refine Lg A0 rfl rfl rfl rfl (Ag ?_);refine Bg A0 rfl (Bo (List.replicate (k * n+j) (Hj g.cap)++[Hj g.cap])) (An rfl) Ij (by (rw [Pl];omega)) (F1 ?_);refine Co [(6,20)] (j+1) A7 A7 ⟨rfl,trivial⟩ ⟨rfl,rfl,rfl,A6 Bo (by rw [show k * n+(j+1)=(k * n+j)+1 by omega,List.replicate_succ']),trivial⟩
  obtain rfl:j=n:=by omega
  refine B6 ?_;refine Co [(5,17)] (k+1) A7 A7 ⟨rfl,trivial⟩ ⟨rfl,rfl,rfl,A6 (fun m=>Bo (List.replicate m (Hj g.cap))) (by rw [Pj]),trivial⟩
 obtain rfl:k=n:=by omega
 rw [show g.aq.toNat=k by omega]
 refine B6 ?_;exact Dk
set_option maxHeartbeats 8000000 in
theorem A5q (g:Ax)(l:List A9)(hg:g.w≤16777216)(hl:l.length≤16777216):Df 60 [.agg g.c,.one (Aa l)] [.agg (C9 g l).1.c,.one (vb (C9 g l).2)]:=by
 refine Dy Tryz.func60 fun W=>?_;refine Fh (Je g A7) ?_;refine C2 (fun h1=>?_) fun h1=>?_
 ·have h1:Eh g=false:=by simpa using h1
  refine Ar ?_;rw [N4 (fun p=>absurd p.1 (Cy h1))];exact Dk
 have h1:Gc g:=Bp (show Eh g=true by simpa using h1)
 refine Ar ?_;refine C2 (fun h2=>?_) fun h2=>?_
 ·have h2:¬ l.length≤20:=by have:=Bp h2;omega
  refine Ar ?_;rw [N4 (fun p=>h2 p.2.1)];exact Dk
 have h2:l.length≤20:=by have:=Cy h2;omega
 refine Ar ?_;have hwk:=h1.2.1;obtain ⟨n,hn⟩:∃n:Nat,g.aq=n:=⟨g.aq.toNat,by omega⟩;refine Fs [] (fun k:Nat=>[(26,.c (vi k))]) (fun k=>[⟨0,[.c (Ay g.ay),.c (vi g.aq),.c (vi g.cap)]⟩,⟨1,[.c (.val (.slice none 0 0)),.c (vi 0),.c (vi 0),.c (.val (.slice none 0 0)),.c (.val (.slice none 0 0)),.c (.val (.slice none 0 0)),.c (.val (.slice none 0 0))]⟩]) (fun k=>[]) (fun k=>k≤l.length∧∀i,i<k→InP (l.getD i default)) (fun k=>l.length-k) fun k hk=>?_;obtain ⟨hk,he⟩:=hk;conv=>whnf
 refine E3 (fun h3=>?_) fun h3=>?_
 ·have h3:k<l.length:=by omega
  refine B6 ?_;refine Ao (Ik (l.getD k default)) rfl (Ft ?_);refine C2 (fun h4=>?_) fun h4=>?_
  ·have h4:F2 (l.getD k default)=false:=by simpa using h4
   refine Ar ?_;rw [N4 (fun p=>absurd (p.2.2 _ (Am h3)).1 (Cy h4))];exact Dk
  have h4:H8 (l.getD k default):=Bp (show F2 (l.getD k default)=true by simpa using h4)
  refine Ar ?_;refine Xi (fun h5=>?_) fun h5=>?_
  ·have h5:(l.getD k default).op≠0:=h5
   refine Ar ?_;rw [N4 (fun p=>h5 (p.2.2 _ (Am h3)).2.1)];exact Dk
  have h5:(l.getD k default).op=0:=h5;refine Ar ?_;refine Xi (fun h6=>?_) fun h6=>?_
  ·have h6:(l.getD k default).af.turn≠0:=h6
   refine Ar ?_;rw [N4 (fun p=>h6 (p.2.2 _ (Am h3)).2.2)];exact Dk
  have h6:(l.getD k default).af.turn=0:=h6;refine Ar ?_;refine Co [] (k+1) ⟨by omega,fun i hi=>(Wl.1 hi).elim (fun h7=>he i h7) (fun h7=>by subst h7;exact ⟨h4,h5,h6⟩)⟩ A7 ⟨rfl,trivial⟩ trivial
 have hN:Xg g l:=⟨h1,h2,fun r hr=>by
  obtain ⟨i,hi,rfl⟩:=Po hr
  have:=he i A7
  rw [show l.getD i default=l[i] by simp [List.getD,hi]] at this
  exact this⟩
 rw [A0j hN];refine B89 3 ?_;refine C76 A0 false (J:=Unit) [46,47,48,49] (fun _=>[(8,.box 2 0)]) (fun _=>[⟨2,[.own 3,.c (vi g.aq),.c (vi g.cap),.c (.val (.slice none 0 0)),.c (.val (.slice none 0 0)),.own 4,.c (.val (.slice none 0 0))]⟩,⟨0,[.c (Ay g.ay),.c (vi g.aq),.c (vi g.cap)]⟩,⟨1,[.c (.val (.slice none 0 0)),.c (vi 0),.c (vi 0),.c (.val (.slice none 0 0)),.c (.val (.slice none 0 0)),.c (.val (.slice none 0 0)),.c (.val (.slice none 0 0))]⟩]) (fun _=>[⟨3,Ay g.ay⟩,⟨4,B4 (List.replicate 4 default)⟩]) (fun _=>True) ?_ (fun _ _=>?_)
 ·conv=>whnf
  refine Oj rfl ?_
  repeat' (first
    |((first|refine Au [0,2,4] (by decide+kernel) ⟨?_,?_,?_,trivial⟩|refine Au [1,2,4] (by decide+kernel) ⟨?_,?_,?_,trivial⟩|refine Au [2,4] (by decide+kernel) ⟨?_,?_,trivial⟩|refine Au [3,4] (by decide+kernel) ⟨?_,?_,trivial⟩|refine Au [4] (by decide+kernel) ⟨?_,trivial⟩|refine Au [5] (by decide+kernel) ⟨?_,trivial⟩|refine Au [3] (by decide+kernel) ⟨?_,trivial⟩|refine Au [2] (by decide+kernel) ⟨?_,trivial⟩|refine Au [1,4] (by decide+kernel) ⟨?_,?_,trivial⟩|refine Au [1] (by decide+kernel) ⟨?_,trivial⟩|refine Au [1,2] (by decide+kernel) ⟨?_,?_,trivial⟩|refine Au [0,4] (by decide+kernel) ⟨?_,?_,trivial⟩|refine Au [0] (by decide+kernel) ⟨?_,trivial⟩|refine Au [0,2] (by decide+kernel) ⟨?_,?_,trivial⟩)<;>(refine go A0 false ?_;(conv=>whnf);(first|(refine Nm (S2 g hg) rfl (I7 ?_);(conv=>whnf))|(repeat (refine Ew ?_;(conv=>whnf))));refine Aq ?_))
    |refine Oi (by decide+kernel) (B3h.out ?_))
  all_goals
   refine B3h.mk (Ag ?_)
  all_goals first|exact Co [(2,5),(3,6),(4,7)] (()) (trivial) R1 ⟨rfl,trivial⟩ ⟨rfl,Ic,trivial⟩|exact Co [(2,5),(3,7),(4,6)] (()) (trivial) R1 ⟨rfl,trivial⟩ ⟨rfl,Ic,trivial⟩|exact Co [(2,6),(3,5),(4,7)] (()) (trivial) R1 ⟨rfl,trivial⟩ ⟨rfl,Ic,trivial⟩|exact Co [(2,6),(3,7),(4,5)] (()) (trivial) R1 ⟨rfl,trivial⟩ ⟨rfl,Ic,trivial⟩|exact Co [(2,7),(3,5),(4,6)] (()) (trivial) R1 ⟨rfl,trivial⟩ ⟨rfl,Ic,trivial⟩|exact Co [(2,7),(3,6),(4,5)] (()) (trivial) R1 ⟨rfl,trivial⟩ ⟨rfl,Ic,trivial⟩
 clear he
 refine Xh 2 3 8 (fun i=>Aj.c (([]:List Aj).getD i default)) rfl rfl ?_;refine Xh 2 4 6 (fun i=>D8.c (([]:List D8).getD i default)) rfl rfl ?_;refine Fi 6 (Bo (List.replicate (0 * n) (Hj g.cap))) rfl (by rw [Nat.zero_mul];exact Dx) ?_;refine Fs [10,11,12,13,14,50,51,52,53,54,55,56,57,58,59,60,61,62,63,64,65,66,67,68,69,70,71,72,73,74,75,76,77,78,79,80,81,82,83,84,85,86,87,88,89,90,91,92,93,94,95,96,97,98,99,100] (fun k:Nat=>[(9,.c (vi k))]) (fun k=>[⟨2,[.own 3,.c (vi g.aq),.c (vi g.cap),.own 5,.own 6,.own 4,.c (.val (.slice none 0 0))]⟩,⟨0,[.c (Ay g.ay),.c (vi g.aq),.c (vi g.cap)]⟩,⟨1,[.c (.val (.slice none 0 0)),.c (vi 0),.c (vi 0),.c (.val (.slice none 0 0)),.c (.val (.slice none 0 0)),.c (.val (.slice none 0 0)),.c (.val (.slice none 0 0))]⟩]) (fun k=>[⟨3,Ay g.ay⟩,⟨4,B4 (List.replicate 4 default)⟩,⟨5,Ai (Et g.aq l k)⟩,⟨6,Bo (List.replicate (k * n) (Hj g.cap))⟩]) (fun k=>k≤n) (fun k=>n-k) fun k hk=>?_;conv=>whnf
 refine E3 (fun hlt=>?_) fun hlt=>?_
 ·have hlt:k<n:=by omega
  have hkl:=A6c g.aq l k;have hol:=Vs g.aq l k 4;refine A85 10 5 (fun i=>A9.c (([]:List A9).getD i default)) rfl ?_;refine Fs [] (fun e:Nat=>[(11,.c (vi e))]) (fun e=>[⟨2,[.own 3,.c (vi g.aq),.c (vi g.cap),.own 5,.own 6,.own 4,.c (.val (.slice none 0 0))]⟩,⟨0,[.c (Ay g.ay),.c (vi g.aq),.c (vi g.cap)]⟩,⟨1,[.c (.val (.slice none 0 0)),.c (vi 0),.c (vi 0),.c (.val (.slice none 0 0)),.c (.val (.slice none 0 0)),.c (.val (.slice none 0 0)),.c (.val (.slice none 0 0))]⟩]) (fun e=>[⟨3,Ay g.ay⟩,⟨4,B4 (List.replicate 4 default)⟩,⟨5,Ai (Et g.aq l k)⟩,⟨6,Bo (List.replicate (k * n) (Hj g.cap))⟩,⟨7,Aa (Qm g.aq l k e)⟩]) (fun e=>e≤4) (fun e=>4-e) fun e he=>?_;conv=>whnf
  refine C2 (fun hE=>?_) fun hE=>?_
  ·have hE:e<4:=by have:=Bp hE;omega
   have hk1:=Vs g.aq l k e;have hk2:e * l.length≤80:=G0 (Wd (show e≤4 by omega) h2) Bk
   have hel:=O0 l e;refine Hp (Vj l e A7) ?_;refine Fs [] (fun j:Nat=>[(64,.c (vi j))]) (fun j=>[⟨2,[.own 3,.c (vi g.aq),.c (vi g.cap),.own 5,.own 6,.own 4,.c (.val (.slice none 0 0))]⟩,⟨0,[.c (Ay g.ay),.c (vi g.aq),.c (vi g.cap)]⟩,⟨1,[.c (.val (.slice none 0 0)),.c (vi 0),.c (vi 0),.c (.val (.slice none 0 0)),.c (.val (.slice none 0 0)),.c (.val (.slice none 0 0)),.c (.val (.slice none 0 0))]⟩]) (fun j=>[⟨3,Ay g.ay⟩,⟨4,B4 (List.replicate 4 default)⟩,⟨5,Ai (Et g.aq l k)⟩,⟨6,Bo (List.replicate (k * n) (Hj g.cap))⟩,⟨8,Aa (F6 l e)⟩,⟨7,Aa (Qm g.aq l k e++((F6 l e).take j).filter (fun r=>Ej r.key g.aq==k))⟩]) (fun j=>j≤(F6 l e).length) (fun j=>(F6 l e).length-j) fun j hj=>?_;conv=>whnf
   refine E3 (fun hj2=>?_) fun hj2=>?_
   ·have hj2:j<(F6 l e).length:=by omega
    have hs:=G5 (fun r=>Ej r.key g.aq==(k:Int)) (F6 l e) j hj2;have hb:=G6 (fun r=>Ej r.key g.aq==(k:Int)) (F6 l e) j;refine B6 ?_;refine Fh (A2y ((F6 l e).getD j default).key g.aq A7) ?_;refine C2 (fun h4=>?_) fun h4=>?_
    ·refine B6 ?_
     refine Bg A0 rfl (Aa (Qm g.aq l k e++((F6 l e).take j).filter (fun r=>Ej r.key g.aq==k)++[(F6 l e).getD j default])) (An rfl) Ij (by (rw [Dn];omega)) (F1 ?_);refine Co [(7,11)] (j+1) A7 A7 ⟨rfl,trivial⟩ ⟨rfl,rfl,rfl,rfl,rfl,A6 Aa (by rw [hs,Ah h4,Ci]),trivial⟩
    refine B6 ?_;refine Co [] (j+1) A7 A7 ⟨rfl,trivial⟩ ⟨rfl,rfl,rfl,rfl,rfl,A6 Aa (by rw [hs,Ab (by rw [h4];decide),Gw]),trivial⟩
   refine B6 ?_;refine Co [] (e+1) A7 A7 ⟨rfl,trivial⟩ ⟨rfl,rfl,rfl,rfl,A6 Aa (by rw [A1s,Pn A7]),trivial⟩
  have hE:¬ e<4:=by have:=Cy hE;omega
  obtain rfl:e=4:=by omega
  first|(refine Ae 9 rfl [0,1,2,3,4,5] Ak (Ag ?_))|(refine Ae 23 rfl [0,1,2,3,4,5,6,7] Ak (Ag ?_))|(refine Ae 27 rfl [0,1,2,3,4,5,6,7,8] Ak (Ag ?_))
  refine Hp (A82 (Qm g.aq l k 4) A7) ?_;refine Lg A0 rfl rfl rfl rfl (Ag ?_);refine Bg A0 rfl (Ai (Et g.aq l k++[O6 (Qm g.aq l k 4)])) (An rfl) Ij A7 (Ag ?_);rw [←A1o];refine Fs [] (fun j:Nat=>[(14,.c (vi j))]) (fun j=>[⟨2,[.own 3,.c (vi g.aq),.c (vi g.cap),.own 17,.own 6,.own 4,.c (.val (.slice none 0 0))]⟩,⟨0,[.c (Ay g.ay),.c (vi g.aq),.c (vi g.cap)]⟩,⟨1,[.c (.val (.slice none 0 0)),.c (vi 0),.c (vi 0),.c (.val (.slice none 0 0)),.c (.val (.slice none 0 0)),.c (.val (.slice none 0 0)),.c (.val (.slice none 0 0))]⟩]) (fun j=>[⟨3,Ay g.ay⟩,⟨4,B4 (List.replicate 4 default)⟩,⟨17,Ai (Et g.aq l (k+1))⟩,⟨6,Bo (List.replicate (k * n+j) (Hj g.cap))⟩]) (fun j=>j≤n) (fun j=>n-j) fun j hj=>?_;conv=>whnf
  refine E3 (fun hlt2=>?_) fun hlt2=>?_
  ·have hlt2:j<n:=by omega
   have hkn:k * n≤16:=G0 (Wd (show k≤4 by omega) (show n≤4 by omega)) Bk
   first|(refine Ae 9 rfl [0,1,2,3,4,5] Ak (Ag ?_))|(refine Ae 23 rfl [0,1,2,3,4,5,6,7] Ak (Ag ?_))|(refine Ae 27 rfl [0,1,2,3,4,5,6,7,8] Ak (Ag ?_))
   refine Hp (B4j g.cap) ?_;refine Lg A0 rfl rfl rfl rfl (Ag ?_);refine Bg A0 rfl (Bo (List.replicate (k * n+j) (Hj g.cap)++[Hj g.cap])) (An rfl) Ij (by (rw [Pl];omega)) (F1 ?_);refine Co [(6,20)] (j+1) A7 A7 ⟨rfl,trivial⟩ ⟨rfl,rfl,rfl,A6 Bo (by rw [show k * n+(j+1)=(k * n+j)+1 by omega,List.replicate_succ']),trivial⟩
  obtain rfl:j=n:=by omega
  refine B6 ?_;refine Co [(5,17)] (k+1) A7 A7 ⟨rfl,trivial⟩ ⟨rfl,rfl,rfl,A6 (fun m=>Bo (List.replicate m (Hj g.cap))) (by rw [Pj]),trivial⟩
 obtain rfl:k=n:=by omega
 rw [show g.aq.toNat=k by omega]
 refine B6 ?_;exact Dk
end Go.Proofs.YtmhcebdkjgkmlaaGreatDoor
