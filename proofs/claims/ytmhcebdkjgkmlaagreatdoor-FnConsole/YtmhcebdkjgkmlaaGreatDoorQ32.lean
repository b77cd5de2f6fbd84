/- Part 32 of the proof that each of the laws FnConsole returns true for every input. No conditions. -/
import Derived.Test.YtmhcebdkjgkmlaaGreatDoorQ31

set_option linter.unusedSimpArgs false
set_option linter.unusedVariables false
set_option maxRecDepth 100000
namespace Go.Proofs.YtmhcebdkjgkmlaaGreatDoor
open Go.Sx
def InP (r:Aa):Prop:=H5 r∧r.op=0∧r.af.turn=0
variable {l : List Aa}
theorem N9 {g:B0}(h:¬ A44 g l):Bh g l=(Lb,false):=Ab h
theorem Xl {g:B0}(h:A44 g l):Bh g l=(⟨g,El g.aq l g.aq.toNat,List.replicate (g.aq.toNat * g.aq.toNat) (H8 g.cap),List.replicate 4 default,[]⟩,true):=Ak h
theorem A2z (n:Int)(l:List Aa)(k:Nat):El n l (k+1)=El n l k++[Ob (Qm n l k 4)]:=by
 rw [El,Yy,Qu];rfl
theorem A7x (n:Int)(l:List Aa)(k:Nat):(El n l k).length=k:=by rw [El,Jd,Rx]
set_option maxHeartbeats 8000000 in
theorem A8v (g:B0)(l:List Aa)(hg:g.w≤16777216)(hl:l.length≤16777216):Di 62 [.agg g.c,.one (A9 l)] [.agg (Bh g l).1.c,.one (vb (Bh g l).2)]:=by
 refine E7 Tryz.func62 fun W=>?_;refine Fp (Mn g A7) ?_;refine C1 (fun h1=>?_) fun h1=>?_
 ·have h1:F2 g=false:=by simpa using h1
  refine As ?_;rw [N9 (fun p=>absurd p.1 (Cv h1))];exact D4
 have h1:Gw g:=Bn (show F2 g=true by simpa using h1)
 refine As ?_;refine C1 (fun h2=>?_) fun h2=>?_
 ·have h2:¬ l.length≤20:=by have:=Bn h2;omega
  refine As ?_;rw [N9 (fun p=>h2 p.2.1)];exact D4
 have h2:l.length≤20:=by have:=Cv h2;omega
 refine As ?_;have hwk:=h1.2.1;obtain ⟨n,hn⟩:∃n:Nat,g.aq=n:=⟨g.aq.toNat,by omega⟩;refine Fx [] (fun k:Nat=>[(6,.c (vi k))]) (fun k=>[⟨0,[.c (At g.ak),.c (vi g.aq),.c (vi g.cap)]⟩,⟨1,[.c (.val (.slice none 0 0)),.c (vi 0),.c (vi 0),.c (.val (.slice none 0 0)),.c (.val (.slice none 0 0)),.c (.val (.slice none 0 0)),.c (.val (.slice none 0 0))]⟩]) (fun k=>[]) (fun k=>k≤l.length∧∀i,i<k→InP (l.getD i default)) (fun k=>l.length-k) fun k hk=>?_;obtain ⟨hk,he⟩:=hk;conv=>whnf
 refine Dv (fun h3=>?_) fun h3=>?_
 ·have h3:k<l.length:=by omega
  refine B4 ?_;refine Aq (Jq (l.getD k default)) rfl (Gu ?_);refine C1 (fun h4=>?_) fun h4=>?_
  ·have h4:Fh (l.getD k default)=false:=by simpa using h4
   refine As ?_;rw [N9 (fun p=>absurd (p.2.2 _ (Al h3)).1 (Cv h4))];exact D4
  have h4:H5 (l.getD k default):=Bn (show Fh (l.getD k default)=true by simpa using h4)
  refine As ?_;refine Y0 (fun h5=>?_) fun h5=>?_
  ·have h5:(l.getD k default).op≠0:=h5
   refine As ?_;rw [N9 (fun p=>h5 (p.2.2 _ (Al h3)).2.1)];exact D4
  have h5:(l.getD k default).op=0:=h5;refine As ?_;refine Y0 (fun h6=>?_) fun h6=>?_
  ·have h6:(l.getD k default).af.turn≠0:=h6
   refine As ?_;rw [N9 (fun p=>h6 (p.2.2 _ (Al h3)).2.2)];exact D4
  have h6:(l.getD k default).af.turn=0:=h6;refine As ?_;refine Cc [] (k+1) ⟨by omega,fun i hi=>(X3.1 hi).elim (fun h7=>he i h7) (fun h7=>by subst h7;exact ⟨h4,h5,h6⟩)⟩ A7 ⟨rfl,trivial⟩ trivial
 have hN:A44 g l:=⟨h1,h2,fun r hr=>by
  obtain ⟨i,hi,rfl⟩:=S4 hr
  have:=he i A7
  rw [show l.getD i default=l[i] by simp [List.getD,hi]] at this
  exact this⟩
 rw [Xl hN];refine C04 3 ?_;refine C9l A0 false (J:=Unit) [49,50,51,52] (fun _=>[(7,.box 2 0)]) (fun _=>[⟨2,[.own 3,.c (vi g.aq),.c (vi g.cap),.c (.val (.slice none 0 0)),.c (.val (.slice none 0 0)),.own 4,.c (.val (.slice none 0 0))]⟩,⟨0,[.c (At g.ak),.c (vi g.aq),.c (vi g.cap)]⟩,⟨1,[.c (.val (.slice none 0 0)),.c (vi 0),.c (vi 0),.c (.val (.slice none 0 0)),.c (.val (.slice none 0 0)),.c (.val (.slice none 0 0)),.c (.val (.slice none 0 0))]⟩]) (fun _=>[⟨3,At g.ak⟩,⟨4,Aw (List.replicate 4 default)⟩]) (fun _=>True) ?_ (fun _ _=>?_)
 ·conv=>whnf
  refine Rc rfl ?_
  repeat' (first
    |((first|refine Az [0,2,4] (by decide+kernel) ⟨?_,?_,?_,trivial⟩|refine Az [1,2,4] (by decide+kernel) ⟨?_,?_,?_,trivial⟩|refine Az [2,4] (by decide+kernel) ⟨?_,?_,trivial⟩|refine Az [3,4] (by decide+kernel) ⟨?_,?_,trivial⟩|refine Az [4] (by decide+kernel) ⟨?_,trivial⟩|refine Az [5] (by decide+kernel) ⟨?_,trivial⟩|refine Az [3] (by decide+kernel) ⟨?_,trivial⟩|refine Az [2] (by decide+kernel) ⟨?_,trivial⟩|refine Az [1,4] (by decide+kernel) ⟨?_,?_,trivial⟩|refine Az [1] (by decide+kernel) ⟨?_,trivial⟩|refine Az [1,2] (by decide+kernel) ⟨?_,?_,trivial⟩|refine Az [0,4] (by decide+kernel) ⟨?_,?_,trivial⟩|refine Az [0] (by decide+kernel) ⟨?_,trivial⟩|refine Az [0,2] (by decide+kernel) ⟨?_,?_,trivial⟩)<;>(refine go A0 false ?_;(conv=>whnf);(first|(refine Lo (Sl g hg) rfl (It ?_);(conv=>whnf))|(repeat (refine Gn ?_;(conv=>whnf))));refine Av ?_))
    |refine Rb (by decide+kernel) (B46.out ?_))
  all_goals
   refine B46.mk (Ah ?_)
  all_goals first|exact Cc [(2,5),(3,6),(4,7)] (()) (trivial) Qx ⟨rfl,trivial⟩ ⟨rfl,Ig,trivial⟩|exact Cc [(2,5),(3,7),(4,6)] (()) (trivial) Qx ⟨rfl,trivial⟩ ⟨rfl,Ig,trivial⟩|exact Cc [(2,6),(3,5),(4,7)] (()) (trivial) Qx ⟨rfl,trivial⟩ ⟨rfl,Ig,trivial⟩|exact Cc [(2,6),(3,7),(4,5)] (()) (trivial) Qx ⟨rfl,trivial⟩ ⟨rfl,Ig,trivial⟩|exact Cc [(2,7),(3,5),(4,6)] (()) (trivial) Qx ⟨rfl,trivial⟩ ⟨rfl,Ig,trivial⟩|exact Cc [(2,7),(3,6),(4,5)] (()) (trivial) Qx ⟨rfl,trivial⟩ ⟨rfl,Ig,trivial⟩
 clear he
 refine Xz 2 3 8 (fun i=>Ae.c (([]:List Ae).getD i default)) rfl rfl ?_;refine Xz 2 4 6 (fun i=>D5.c (([]:List D5).getD i default)) rfl rfl ?_;refine Eu 6 (Ba (List.replicate (0 * n) (H8 g.cap))) rfl (by rw [Nat.zero_mul];exact C0) ?_;refine Fx [9,53,54,55,56,57,58,59,60,61,62,63,64,65,66,67,68,69,70,71,72,73,74,75,76,77,78,79,80,81,82,83] (fun k:Nat=>[(8,.c (vi k))]) (fun k=>[⟨2,[.own 3,.c (vi g.aq),.c (vi g.cap),.own 5,.own 6,.own 4,.c (.val (.slice none 0 0))]⟩,⟨0,[.c (At g.ak),.c (vi g.aq),.c (vi g.cap)]⟩,⟨1,[.c (.val (.slice none 0 0)),.c (vi 0),.c (vi 0),.c (.val (.slice none 0 0)),.c (.val (.slice none 0 0)),.c (.val (.slice none 0 0)),.c (.val (.slice none 0 0))]⟩]) (fun k=>[⟨3,At g.ak⟩,⟨4,Aw (List.replicate 4 default)⟩,⟨5,Af (El g.aq l k)⟩,⟨6,Ba (List.replicate (k * n) (H8 g.cap))⟩]) (fun k=>k≤n) (fun k=>n-k) fun k hk=>?_;conv=>whnf
 refine Dv (fun hlt=>?_) fun hlt=>?_
 ·have hlt:k<n:=by omega
  have hkl:=A7x g.aq l k;have hol:=W5 g.aq l k 4
  first|(refine Aj 8 rfl [0,1,2,3,4,5] Am (Ah ?_))|(refine Aj 12 rfl [0,1,2,3,4,5,6,7,8,9,10] Am (Ah ?_))|(refine Aj 16 rfl [0,1,2,3,4,5,6,7,8] Am (Ah ?_))
  refine Gf (D1a g l k h2 A7) ?_;refine Gf (B0s (Qm g.aq l k 4) A7) ?_;refine Li A0 rfl rfl rfl rfl (Ah ?_);refine B6 A0 rfl (Af (El g.aq l k++[Ob (Qm g.aq l k 4)])) (Ao rfl) Hd A7 (Ah ?_);rw [←A2z];refine Fx [69,70,71,72,73,74,75,76,77,78,79,80,81,82] (fun j:Nat=>[(9,.c (vi j))]) (fun j=>[⟨2,[.own 3,.c (vi g.aq),.c (vi g.cap),.own 17,.own 6,.own 4,.c (.val (.slice none 0 0))]⟩,⟨0,[.c (At g.ak),.c (vi g.aq),.c (vi g.cap)]⟩,⟨1,[.c (.val (.slice none 0 0)),.c (vi 0),.c (vi 0),.c (.val (.slice none 0 0)),.c (.val (.slice none 0 0)),.c (.val (.slice none 0 0)),.c (.val (.slice none 0 0))]⟩]) (fun j=>[⟨3,At g.ak⟩,⟨4,Aw (List.replicate 4 default)⟩,⟨17,Af (El g.aq l (k+1))⟩,⟨6,Ba (List.replicate (k * n+j) (H8 g.cap))⟩]) (fun j=>j≤n) (fun j=>n-j) fun j hj=>?_;conv=>whnf
  refine Dv (fun hlt2=>?_) fun hlt2=>?_
  ·have hlt2:j<n:=by omega
   have hkn:k * n≤16:=Fk (Wv (show k≤4 by omega) (show n≤4 by omega)) Bq
   first|(refine Aj 8 rfl [0,1,2,3,4,5] Am (Ah ?_))|(refine Aj 12 rfl [0,1,2,3,4,5,6,7,8,9,10] Am (Ah ?_))|(refine Aj 16 rfl [0,1,2,3,4,5,6,7,8] Am (Ah ?_))
   refine Gf (B7y g.cap) ?_;refine Li A0 rfl rfl rfl rfl (Ah ?_);refine B6 A0 rfl (Ba (List.replicate (k * n+j) (H8 g.cap)++[H8 g.cap])) (Ao rfl) Hd (by (rw [Pl];omega)) (Em ?_);refine Cc [(6,20)] (j+1) A7 A7 ⟨rfl,trivial⟩ ⟨rfl,rfl,rfl,A6 Ba (by rw [show k * n+(j+1)=(k * n+j)+1 by omega,List.replicate_succ']),trivial⟩
  obtain rfl:j=n:=by omega
  refine B4 ?_;refine Cc [(5,17)] (k+1) A7 A7 ⟨rfl,trivial⟩ ⟨rfl,rfl,rfl,A6 (fun m=>Ba (List.replicate m (H8 g.cap))) (by rw [Pi]),trivial⟩
 obtain rfl:k=n:=by omega
 rw [show g.aq.toNat=k by omega]
 refine B4 ?_;exact D4
set_option maxHeartbeats 8000000 in
theorem A7b (g:B0)(l:List Aa)(hg:g.w≤16777216)(hl:l.length≤16777216):Di 60 [.agg g.c,.one (A9 l)] [.agg (Bh g l).1.c,.one (vb (Bh g l).2)]:=by
 refine E7 Tryz.func60 fun W=>?_;refine Fp (Kp g A7) ?_;refine C1 (fun h1=>?_) fun h1=>?_
 ·have h1:F2 g=false:=by simpa using h1
  refine As ?_;rw [N9 (fun p=>absurd p.1 (Cv h1))];exact D4
 have h1:Gw g:=Bn (show F2 g=true by simpa using h1)
 refine As ?_;refine C1 (fun h2=>?_) fun h2=>?_
 ·have h2:¬ l.length≤20:=by have:=Bn h2;omega
  refine As ?_;rw [N9 (fun p=>h2 p.2.1)];exact D4
 have h2:l.length≤20:=by have:=Cv h2;omega
 refine As ?_;have hwk:=h1.2.1;obtain ⟨n,hn⟩:∃n:Nat,g.aq=n:=⟨g.aq.toNat,by omega⟩;refine Fx [] (fun k:Nat=>[(26,.c (vi k))]) (fun k=>[⟨0,[.c (At g.ak),.c (vi g.aq),.c (vi g.cap)]⟩,⟨1,[.c (.val (.slice none 0 0)),.c (vi 0),.c (vi 0),.c (.val (.slice none 0 0)),.c (.val (.slice none 0 0)),.c (.val (.slice none 0 0)),.c (.val (.slice none 0 0))]⟩]) (fun k=>[]) (fun k=>k≤l.length∧∀i,i<k→InP (l.getD i default)) (fun k=>l.length-k) fun k hk=>?_;obtain ⟨hk,he⟩:=hk;conv=>whnf
 refine Dv (fun h3=>?_) fun h3=>?_
 ·have h3:k<l.length:=by omega
  refine B4 ?_;refine Aq (Ij (l.getD k default)) rfl (Gu ?_);refine C1 (fun h4=>?_) fun h4=>?_
  ·have h4:Fh (l.getD k default)=false:=by simpa using h4
   refine As ?_;rw [N9 (fun p=>absurd (p.2.2 _ (Al h3)).1 (Cv h4))];exact D4
  have h4:H5 (l.getD k default):=Bn (show Fh (l.getD k default)=true by simpa using h4)
  refine As ?_;refine Y0 (fun h5=>?_) fun h5=>?_
  ·have h5:(l.getD k default).op≠0:=h5
   refine As ?_;rw [N9 (fun p=>h5 (p.2.2 _ (Al h3)).2.1)];exact D4
  have h5:(l.getD k default).op=0:=h5;refine As ?_;refine Y0 (fun h6=>?_) fun h6=>?_
  ·have h6:(l.getD k default).af.turn≠0:=h6
   refine As ?_;rw [N9 (fun p=>h6 (p.2.2 _ (Al h3)).2.2)];exact D4
  have h6:(l.getD k default).af.turn=0:=h6;refine As ?_;refine Cc [] (k+1) ⟨by omega,fun i hi=>(X3.1 hi).elim (fun h7=>he i h7) (fun h7=>by subst h7;exact ⟨h4,h5,h6⟩)⟩ A7 ⟨rfl,trivial⟩ trivial
 have hN:A44 g l:=⟨h1,h2,fun r hr=>by
  obtain ⟨i,hi,rfl⟩:=S4 hr
  have:=he i A7
  rw [show l.getD i default=l[i] by simp [List.getD,hi]] at this
  exact this⟩
 rw [Xl hN];refine C04 3 ?_;refine C9l A0 false (J:=Unit) [46,47,48,49] (fun _=>[(8,.box 2 0)]) (fun _=>[⟨2,[.own 3,.c (vi g.aq),.c (vi g.cap),.c (.val (.slice none 0 0)),.c (.val (.slice none 0 0)),.own 4,.c (.val (.slice none 0 0))]⟩,⟨0,[.c (At g.ak),.c (vi g.aq),.c (vi g.cap)]⟩,⟨1,[.c (.val (.slice none 0 0)),.c (vi 0),.c (vi 0),.c (.val (.slice none 0 0)),.c (.val (.slice none 0 0)),.c (.val (.slice none 0 0)),.c (.val (.slice none 0 0))]⟩]) (fun _=>[⟨3,At g.ak⟩,⟨4,Aw (List.replicate 4 default)⟩]) (fun _=>True) ?_ (fun _ _=>?_)
 ·conv=>whnf
  refine Rc rfl ?_
  repeat' (first
    |((first|refine Az [0,2,4] (by decide+kernel) ⟨?_,?_,?_,trivial⟩|refine Az [1,2,4] (by decide+kernel) ⟨?_,?_,?_,trivial⟩|refine Az [2,4] (by decide+kernel) ⟨?_,?_,trivial⟩|refine Az [3,4] (by decide+kernel) ⟨?_,?_,trivial⟩|refine Az [4] (by decide+kernel) ⟨?_,trivial⟩|refine Az [5] (by decide+kernel) ⟨?_,trivial⟩|refine Az [3] (by decide+kernel) ⟨?_,trivial⟩|refine Az [2] (by decide+kernel) ⟨?_,trivial⟩|refine Az [1,4] (by decide+kernel) ⟨?_,?_,trivial⟩|refine Az [1] (by decide+kernel) ⟨?_,trivial⟩|refine Az [1,2] (by decide+kernel) ⟨?_,?_,trivial⟩|refine Az [0,4] (by decide+kernel) ⟨?_,?_,trivial⟩|refine Az [0] (by decide+kernel) ⟨?_,trivial⟩|refine Az [0,2] (by decide+kernel) ⟨?_,?_,trivial⟩)<;>(refine go A0 false ?_;(conv=>whnf);(first|(refine Lo (S9 g hg) rfl (It ?_);(conv=>whnf))|(repeat (refine Gn ?_;(conv=>whnf))));refine Av ?_))
    |refine Rb (by decide+kernel) (B46.out ?_))
  all_goals
   refine B46.mk (Ah ?_)
  all_goals first|exact Cc [(2,5),(3,6),(4,7)] (()) (trivial) Qx ⟨rfl,trivial⟩ ⟨rfl,Ig,trivial⟩|exact Cc [(2,5),(3,7),(4,6)] (()) (trivial) Qx ⟨rfl,trivial⟩ ⟨rfl,Ig,trivial⟩|exact Cc [(2,6),(3,5),(4,7)] (()) (trivial) Qx ⟨rfl,trivial⟩ ⟨rfl,Ig,trivial⟩|exact Cc [(2,6),(3,7),(4,5)] (()) (trivial) Qx ⟨rfl,trivial⟩ ⟨rfl,Ig,trivial⟩|exact Cc [(2,7),(3,5),(4,6)] (()) (trivial) Qx ⟨rfl,trivial⟩ ⟨rfl,Ig,trivial⟩|exact Cc [(2,7),(3,6),(4,5)] (()) (trivial) Qx ⟨rfl,trivial⟩ ⟨rfl,Ig,trivial⟩
 clear he
 refine Xz 2 3 8 (fun i=>Ae.c (([]:List Ae).getD i default)) rfl rfl ?_;refine Xz 2 4 6 (fun i=>D5.c (([]:List D5).getD i default)) rfl rfl ?_;refine Eu 6 (Ba (List.replicate (0 * n) (H8 g.cap))) rfl (by rw [Nat.zero_mul];exact C0) ?_;refine Fx [10,11,12,13,14,50,51,52,53,54,55,56,57,58,59,60,61,62,63,64,65,66,67,68,69,70,71,72,73,74,75,76,77,78,79,80,81,82,83,84,85,86,87,88,89,90,91,92,93,94,95,96,97,98,99,100] (fun k:Nat=>[(9,.c (vi k))]) (fun k=>[⟨2,[.own 3,.c (vi g.aq),.c (vi g.cap),.own 5,.own 6,.own 4,.c (.val (.slice none 0 0))]⟩,⟨0,[.c (At g.ak),.c (vi g.aq),.c (vi g.cap)]⟩,⟨1,[.c (.val (.slice none 0 0)),.c (vi 0),.c (vi 0),.c (.val (.slice none 0 0)),.c (.val (.slice none 0 0)),.c (.val (.slice none 0 0)),.c (.val (.slice none 0 0))]⟩]) (fun k=>[⟨3,At g.ak⟩,⟨4,Aw (List.replicate 4 default)⟩,⟨5,Af (El g.aq l k)⟩,⟨6,Ba (List.replicate (k * n) (H8 g.cap))⟩]) (fun k=>k≤n) (fun k=>n-k) fun k hk=>?_;conv=>whnf
 refine Dv (fun hlt=>?_) fun hlt=>?_
 ·have hlt:k<n:=by omega
  have hkl:=A7x g.aq l k;have hol:=W5 g.aq l k 4;refine U5 10 5 (fun i=>Aa.c (([]:List Aa).getD i default)) rfl ?_;refine Fx [] (fun e:Nat=>[(11,.c (vi e))]) (fun e=>[⟨2,[.own 3,.c (vi g.aq),.c (vi g.cap),.own 5,.own 6,.own 4,.c (.val (.slice none 0 0))]⟩,⟨0,[.c (At g.ak),.c (vi g.aq),.c (vi g.cap)]⟩,⟨1,[.c (.val (.slice none 0 0)),.c (vi 0),.c (vi 0),.c (.val (.slice none 0 0)),.c (.val (.slice none 0 0)),.c (.val (.slice none 0 0)),.c (.val (.slice none 0 0))]⟩]) (fun e=>[⟨3,At g.ak⟩,⟨4,Aw (List.replicate 4 default)⟩,⟨5,Af (El g.aq l k)⟩,⟨6,Ba (List.replicate (k * n) (H8 g.cap))⟩,⟨7,A9 (Qm g.aq l k e)⟩]) (fun e=>e≤4) (fun e=>4-e) fun e he=>?_;conv=>whnf
  refine C1 (fun hE=>?_) fun hE=>?_
  ·have hE:e<4:=by have:=Bn hE;omega
   have hk1:=W5 g.aq l k e;have hk2:e * l.length≤80:=Fk (Wv (show e≤4 by omega) h2) Bq
   have hel:=O4 l e;refine Gf (Vu l e A7) ?_;refine Fx [] (fun j:Nat=>[(64,.c (vi j))]) (fun j=>[⟨2,[.own 3,.c (vi g.aq),.c (vi g.cap),.own 5,.own 6,.own 4,.c (.val (.slice none 0 0))]⟩,⟨0,[.c (At g.ak),.c (vi g.aq),.c (vi g.cap)]⟩,⟨1,[.c (.val (.slice none 0 0)),.c (vi 0),.c (vi 0),.c (.val (.slice none 0 0)),.c (.val (.slice none 0 0)),.c (.val (.slice none 0 0)),.c (.val (.slice none 0 0))]⟩]) (fun j=>[⟨3,At g.ak⟩,⟨4,Aw (List.replicate 4 default)⟩,⟨5,Af (El g.aq l k)⟩,⟨6,Ba (List.replicate (k * n) (H8 g.cap))⟩,⟨8,A9 (Ff l e)⟩,⟨7,A9 (Qm g.aq l k e++((Ff l e).take j).filter (fun r=>Ev r.key g.aq==k))⟩]) (fun j=>j≤(Ff l e).length) (fun j=>(Ff l e).length-j) fun j hj=>?_;conv=>whnf
   refine Dv (fun hj2=>?_) fun hj2=>?_
   ·have hj2:j<(Ff l e).length:=by omega
    have hs:=Er (fun r=>Ev r.key g.aq==(k:Int)) (Ff l e) j hj2;have hb:=E8 (fun r=>Ev r.key g.aq==(k:Int)) (Ff l e) j;refine B4 ?_;refine Fp (A35 ((Ff l e).getD j default).key g.aq A7) ?_;refine C1 (fun h4=>?_) fun h4=>?_
    ·refine B4 ?_
     refine B6 A0 rfl (A9 (Qm g.aq l k e++((Ff l e).take j).filter (fun r=>Ev r.key g.aq==k)++[(Ff l e).getD j default])) (Ao rfl) Hd (by (rw [D3];omega)) (Em ?_);refine Cc [(7,11)] (j+1) A7 A7 ⟨rfl,trivial⟩ ⟨rfl,rfl,rfl,rfl,rfl,A6 A9 (by rw [hs,Ak h4,Cr]),trivial⟩
    refine B4 ?_;refine Cc [] (j+1) A7 A7 ⟨rfl,trivial⟩ ⟨rfl,rfl,rfl,rfl,rfl,A6 A9 (by rw [hs,Ab (by rw [h4];decide),I4]),trivial⟩
   refine B4 ?_;refine Cc [] (e+1) A7 A7 ⟨rfl,trivial⟩ ⟨rfl,rfl,rfl,rfl,A6 A9 (by rw [A22,Ms A7]),trivial⟩
  have hE:¬ e<4:=by have:=Cv hE;omega
  obtain rfl:e=4:=by omega
  first|(refine Aj 9 rfl [0,1,2,3,4,5] Am (Ah ?_))|(refine Aj 23 rfl [0,1,2,3,4,5,6,7] Am (Ah ?_))|(refine Aj 27 rfl [0,1,2,3,4,5,6,7,8] Am (Ah ?_))
  refine Gf (B0c (Qm g.aq l k 4) A7) ?_;refine Li A0 rfl rfl rfl rfl (Ah ?_);refine B6 A0 rfl (Af (El g.aq l k++[Ob (Qm g.aq l k 4)])) (Ao rfl) Hd A7 (Ah ?_);rw [←A2z];refine Fx [] (fun j:Nat=>[(14,.c (vi j))]) (fun j=>[⟨2,[.own 3,.c (vi g.aq),.c (vi g.cap),.own 17,.own 6,.own 4,.c (.val (.slice none 0 0))]⟩,⟨0,[.c (At g.ak),.c (vi g.aq),.c (vi g.cap)]⟩,⟨1,[.c (.val (.slice none 0 0)),.c (vi 0),.c (vi 0),.c (.val (.slice none 0 0)),.c (.val (.slice none 0 0)),.c (.val (.slice none 0 0)),.c (.val (.slice none 0 0))]⟩]) (fun j=>[⟨3,At g.ak⟩,⟨4,Aw (List.replicate 4 default)⟩,⟨17,Af (El g.aq l (k+1))⟩,⟨6,Ba (List.replicate (k * n+j) (H8 g.cap))⟩]) (fun j=>j≤n) (fun j=>n-j) fun j hj=>?_;conv=>whnf
  refine Dv (fun hlt2=>?_) fun hlt2=>?_
  ·have hlt2:j<n:=by omega
   have hkn:k * n≤16:=Fk (Wv (show k≤4 by omega) (show n≤4 by omega)) Bq
   first|(refine Aj 9 rfl [0,1,2,3,4,5] Am (Ah ?_))|(refine Aj 23 rfl [0,1,2,3,4,5,6,7] Am (Ah ?_))|(refine Aj 27 rfl [0,1,2,3,4,5,6,7,8] Am (Ah ?_))
   refine Gf (B6c g.cap) ?_;refine Li A0 rfl rfl rfl rfl (Ah ?_);refine B6 A0 rfl (Ba (List.replicate (k * n+j) (H8 g.cap)++[H8 g.cap])) (Ao rfl) Hd (by (rw [Pl];omega)) (Em ?_);refine Cc [(6,20)] (j+1) A7 A7 ⟨rfl,trivial⟩ ⟨rfl,rfl,rfl,A6 Ba (by rw [show k * n+(j+1)=(k * n+j)+1 by omega,List.replicate_succ']),trivial⟩
  obtain rfl:j=n:=by omega
  refine B4 ?_;refine Cc [(5,17)] (k+1) A7 A7 ⟨rfl,trivial⟩ ⟨rfl,rfl,rfl,A6 (fun m=>Ba (List.replicate m (H8 g.cap))) (by rw [Pi]),trivial⟩
 obtain rfl:k=n:=by omega
 rw [show g.aq.toNat=k by omega]
 refine B4 ?_;exact D4
def Eo (s:C7):A3×List Bool×Bool:=
 if (Bh s.az s.au).2=true then ((Eb (Cs s.bq 0 3000).toNat (Ay (Bh s.az s.au).1 s.ae).1).1,(Ay (Bh s.az s.au).1 s.ae).2,true) else (Lb,[],false)
theorem A8n {s:C7}(h:(Bh s.az s.au).2=false):Eo s=(Lb,[],false):=Ab (by rw [h];decide)
theorem A5q {s:C7}(h:(Bh s.az s.au).2=true):Eo s=((Eb (Cs s.bq 0 3000).toNat (Ay (Bh s.az s.au).1 s.ae).1).1,(Ay (Bh s.az s.au).1 s.ae).2,true):=Ak h
theorem B8f (xs:List Aa):(Ob xs).w=xs.length+12:=by simp [Ae.w,Ob]
variable {l : List Aa}
theorem D0h {n:Int}{k:Nat}(hl:l.length≤20):((El n l k).map Ae.w).sum≤k * 92:=by
 induction k with
 |zero=>simp [El]
 |succ k ih=>
  rw [A2z,Qu,List.sum_append];have h1:=W5 n l k 4;simp only [I1,Wx,Ux,List.sum_nil,B8f];omega
theorem D2d (m:Nat)(n:Int):((List.replicate m (H8 n)).map D5.w).sum=0:=by
 induction m with
 |zero=>rfl
 |succ m ih=>
  rw [List.replicate_succ,I1,Ux,ih];rfl
theorem C7l {g:B0}:(Bh g l).1.w≤g.w+2000:=by
 by_cases h:A44 g l
 ·have hw:=h.1.2.1
  obtain ⟨n,hn⟩:∃n:Nat,g.aq=n:=⟨g.aq.toNat,by omega⟩;have h1:=D0h (n:=g.aq) (l:=l) (k:=g.aq.toNat) h.2.1;have h2:=D2d (g.aq.toNat * g.aq.toNat) g.cap;have h3:=A7x g.aq l g.aq.toNat;have h4:g.aq.toNat * g.aq.toNat≤16:=Wv (show g.aq.toNat≤4 by omega) (show g.aq.toNat≤4 by omega)
  rw [Xl h];simp only [A3.w,wS,Pl,H3];rw [h2,h3];have h5:g.aq.toNat≤4:=by omega
  omega
 rw [N9 h]
 show Lb.w≤_
 have:Lb.w=0:=rfl
 omega
theorem B31 {g:B0}:M6 (Bh g l).1:=by
 by_cases h:A44 g l
 ·rw [Xl h]
  intro k hk
  have:=X7 hk
  rw [this]
  show (0:Int)≤_
  decide
 rw [N9 h];intro k hk
 cases hk
set_option maxHeartbeats 1000000 in
theorem A45 (x:C7)(hx:x.w≤1040000+8576):Di 23 [.agg x.c] [.agg (Eo x).1.c,.one (Df (Eo x).2.1),.one (vb (Eo x).2.2)]:=by
 have hw:x.az.w+x.au.length+x.ae.length≤1040000+8576:=hx;have h1:=C7l (g:=x.az) (l:=x.au);have h2:=Zr (c:=(Bh x.az x.au).1) (l:=x.ae);refine E7 Tryz.func23 fun W=>?_;refine Gf (A7b x.az x.au A7 A7) ?_;refine C1 (fun hk=>?_) fun hk=>?_
 ·have hk:(Bh x.az x.au).2=false:=by simpa using hk
  rw [A8n hk];exact D4
 have hk:(Bh x.az x.au).2=true:=by simpa using hk
 refine As ?_;refine Gf (Pv (Bh x.az x.au).1 x.ae A7 B31) ?_;refine Gf (A32 (Ay (Bh x.az x.au).1 x.ae).1 x.bq A7 (A10 B31)) ?_;rw [A5q hk];exact D4
theorem C7k {g:B0}{l:List Aa}(h:(Bh g l).2=true):Gv .i64 (Bh g l).1.az.aq:=by
 by_cases hN:A44 g l
 ·rw [Xl hN]
  have:=hN.1.2.1
  show (_:Int)≤g.aq∧g.aq≤_
  omega
 rw [N9 hN] at h
 cases h
set_option maxHeartbeats 4000000 in
theorem A4v (x:A3)(most:Int)(h:x.w≤6000000)(og:Gv .i64 x.az.aq):Di 47 [.agg x.c,.one (vi most)] [.agg (Eb (Cs most 0 3000).toNat x).1.c,.one (vi (Eb (Cs most 0 3000).toNat x).2)]:=by
 have hb:=G2 most 0 3000 Bq;have hal:=A0t x;obtain ⟨n,hn⟩:∃n:Nat,Cs most 0 3000=n:=⟨(Cs most 0 3000).toNat,by omega⟩;rw [hn,Bv];refine E7 Tryz.func47 fun W=>?_;have hp:N0 ⟨W,fun _=>False⟩ []:=fun _ h=>by cases h
 have hH:∀w,Fg.rel ⟨W,fun _=>False⟩ w→True:=fun _ _=>trivial
 refine B5i (B2j x A7) hp rfl (fun r hr=>go A0 false ?_);conv=>whnf
 refine Gf (B4j x) ?_;refine Fp (P1 most 0 3000) ?_;rw [hn];refine Fx [] (fun k:Nat=>[(8,.c (vi (k+1)))]) (fun k=>[⟨2,[.own 3,.c (vi (Pg x k).az.aq),.c (vi (Pg x k).az.cap),.own 4,.own 5,.own 6,.own 7,.c (vb (Au (Pg x k)))]⟩,⟨1,[.c (.val (.slice none 0 0)),.c (vi 0),.c (vi 0),.c (.val (.slice none 0 0)),.c (.val (.slice none 0 0)),.c (.val (.slice none 0 0)),.c (.val (.slice none 0 0))]⟩]) (fun k=>[⟨8,D7 (Qy (Iw x))⟩,⟨3,At (Pg x k).az.ak⟩,⟨4,Af (Pg x k).aq⟩,⟨5,Ba (Pg x k).ay⟩,⟨6,Aw (Pg x k).ap⟩,⟨7,Bf (Pg x k).ac⟩]) (fun k=>k≤n∧∀i,i<k→(Ca (Pg x i)).2≠0) (fun k=>n-k) fun k hk=>?_;obtain ⟨hk,he⟩:=hk;conv=>whnf
 refine C1 (fun hlt=>?_) fun hlt=>?_
 ·have hlt:k<n:=by have:=Bn hlt;omega
  have hw:=D1m x k;have hP:Iw (Pg x k)=Iw x:=C7y (B1n x k)
  have hF1:(Ay (Pg x k) (Qy (Iw x))).1=Pg x (k+1):=by
   show _=(Ca (Pg x k)).1
   unfold Ca;rw [hP]
  have hF2:cnt (Pg x k) (Qy (Iw x))=(Ca (Pg x k)).2:=by
   unfold Ca cnt;rw [hP]
  refine M4 (C4r (Pg x k) (Qy (Iw x)) A7 (by rw [B1n];exact og)) hH hp fun r2 hr2=>?_;rw [hF1,hF2];refine Lf (fun h0=>?_) fun h0=>?_
  ·have h0:(Ca (Pg x k)).2=0:=by omega
   refine As ?_;rw [A03 hlt he h0];exact D4
  have h0:(Ca (Pg x k)).2≠0:=by omega
  refine B4 ?_;refine Cc [(3,9),(4,10),(5,11),(6,12),(7,13)] (k+1) ⟨by omega,fun i hi=>(X3.1 hi).elim (fun h4=>he i h4) (fun h4=>by subst h4;exact h0)⟩ A7 ⟨rfl,trivial⟩ ⟨rfl,rfl,rfl,rfl,rfl,rfl,trivial⟩
 have hlt:¬ k<n:=by have:=Cv hlt;omega
 obtain rfl:k=n:=by omega
 refine As ?_;rw [A02 he];exact D4
set_option maxHeartbeats 1000000 in
theorem A48 (x:C7)(hx:x.w≤1040000+8576):Di 24 [.agg x.c] [.agg (Eo x).1.c,.one (Df (Eo x).2.1),.one (vb (Eo x).2.2)]:=by
 have hw:x.az.w+x.au.length+x.ae.length≤1040000+8576:=hx;have h1:=C7l (g:=x.az) (l:=x.au);have h2:=Zr (c:=(Bh x.az x.au).1) (l:=x.ae);refine E7 Tryz.func24 fun W=>?_;refine Gf (A8v x.az x.au A7 A7) ?_;refine C1 (fun hk=>?_) fun hk=>?_
 ·have hk:(Bh x.az x.au).2=false:=by simpa using hk
  rw [A8n hk];refine Oq 8 (Df []) rfl C0 ?_;exact D4
 have hk:(Bh x.az x.au).2=true:=by simpa using hk
 refine As ?_;refine Gf (B4q (Bh x.az x.au).1 x.ae A7 (C7k hk)) ?_;refine Gf (A4v (Ay (Bh x.az x.au).1 x.ae).1 x.bq A7 (by rw [Ug];exact C7k hk)) ?_;rw [A5q hk];exact D4
end Go.Proofs.YtmhcebdkjgkmlaaGreatDoor
