/- Part 21 of the proof that each of the laws FnSpread returns true for every input. No conditions. -/
import Derived.Test.YtdendlkeiaccpaaGreatQ4
import Derived.Test.YtdendlkeiaccpaaGreatQ14
import Derived.Test.YtdendlkeiaccpaaGreatQ20
import Derived.Test.YtdendlkeiaccpaaGreatQ17
import Derived.Test.YtdendlkeiaccpaaGreatQ12
import Derived.Test.YtdendlkeiaccpaaGreatQ13
import Derived.Test.YtdendlkeiaccpaaGreatQ6
import Derived.Test.YtdendlkeiaccpaaGreatQ10
import Derived.Test.YtdendlkeiaccpaaGreatQ15
import Derived.Test.YtdendlkeiaccpaaGreatQ18
import Derived.Test.YtdendlkeiaccpaaGreatQ16
import Derived.Test.YtdendlkeiaccpaaGreatQ11

set_option linter.unusedSimpArgs false
set_option linter.unusedVariables false
set_option maxRecDepth 100000
namespace Go.Proofs.YtdendlkeiaccpaaGreat
open Go.Sx
theorem Zs {α:Type} [Inhabited α] {es:Nat}{e:α→List Ai}{xs:List α}{m:Nat}(hm:m≤xs.length):Ii (.sl m es fun i=>e (xs.getD i default)) (Kv es e (xs.take m)):=by
 have hl:(xs.take m).length=m:=by rw [List.length_take];omega
 refine ⟨hl,rfl,fun i hi=>?_⟩
 have:(xs.take m).getD i default=xs.getD i default:=by
  simp [List.getD,hi]
 show Gb _ (e ((xs.take m).getD i default))
 rw [this];exact Gb.rfl' _
theorem Yi {x y:Ab}(h:x.w≤44)(hw:y.w≤x.w+8):y.w≤100:=by omega
set_option maxHeartbeats 4000000 in
theorem Pg (d:Ey)(i h:Int)(g:Ah)(hi:0≤i∧i≤d.n)(hg:g.w≤1000):E3 Tryz.prog HT 88 d.pins (d.cur i h) [.agg g.c] (fun r:Int×Int×Ab=>(0≤r.1∧r.1≤d.n)∧r.2.2.w≤100∧Za r.2.2) (fun r=>d.cur r.1 r.2.1) (fun r=>[.agg r.2.2.c]):=by
 refine Em A0 false Tryz.func88 rfl B5 fun B b hH hp=>?_;conv=>whnf
 refine Ay (B0t d i h g hi hg) hH hp rfl B0 rfl rfl (fun r hr=>go A0 false ?_);conv=>whnf
 obtain ⟨hr0,hx⟩:=hr;have hxw:r.2.2.w≤44:=hx.w;have hws:=P2 r.2.2;have hs4:=hx.s4;refine Ay (Au d r.1 r.2.1 16 hr0 B5) hH hp rfl B0 rfl rfl (fun t ht=>go A0 false ?_);conv=>whnf
 refine ⟨fun c0=>?_,fun c0=>?_⟩<;>conv=>whnf
 ·refine Gs rfl ?_
  repeat' (first
    |(first|refine Bt A0 false 0 rfl rfl rfl (by decide+kernel) rfl (A4 Br) ?_|refine Bt A0 false 2 rfl rfl rfl (by decide+kernel) rfl (A4 Br) ?_|refine Bt A0 false 6 rfl rfl rfl (by decide+kernel) rfl (A4 Br) ?_)
    |((first|refine A5 [1,3] (by decide+kernel) ⟨?_,?_,trivial⟩|refine A5 [3] (by decide+kernel) ⟨?_,trivial⟩|refine A5 [4] (by decide+kernel) ⟨?_,trivial⟩|refine A5 [5] (by decide+kernel) ⟨?_,trivial⟩|refine A5 [7] (by decide+kernel) ⟨?_,trivial⟩|refine A5 [1,4] (by decide+kernel) ⟨?_,?_,trivial⟩|refine A5 [1] (by decide+kernel) ⟨?_,trivial⟩)<;>(refine go A0 false ?_;(conv=>whnf);(first|(refine Ay (Mj d t.1 t.2.1 ht.1) hH hp rfl B0 rfl rfl (fun r9 hr9=>go A0 false ?_);(conv=>whnf))|(refine Bj A0 rfl rfl rfl rfl rfl rfl rfl rfl rfl rfl rfl (Af (r.2.2.queue++[r9.2.2])) (An rfl) C6 Ad (G3 ?_);(conv=>whnf))|(repeat (refine Gi ?_;(conv=>whnf))));refine Ag ?_))
    |refine Gr (by decide+kernel) (Nf.out ?_))
  all_goals
   refine Nf.mk (A7 ?_)
  all_goals
   exact C3 A0 (r9.1,r9.2.1,⟨r.2.2.queue++[r9.2.2],r.2.2.staged,r.2.2.inputs,r.2.2.cells,r.2.2.sums,r.2.2.black,r.2.2.caps,r.2.2.dones⟩) ⟨hr9.1,Yi hxw B6y,C3b hx.o (Ke hx.o.q hr9.2)⟩ rfl rfl rfl rfl B0
 repeat refine B2 ?_
 refine ⟨fun c1=>?_,fun c1=>?_⟩<;>conv=>whnf
 ·refine Gs rfl ?_
  repeat' (first
    |(first|refine Bt A0 false 0 rfl rfl rfl (by decide+kernel) rfl (A4 Br) ?_|refine Bt A0 false 2 rfl rfl rfl (by decide+kernel) rfl (A4 Br) ?_|refine Bt A0 false 6 rfl rfl rfl (by decide+kernel) rfl (A4 Br) ?_)
    |((first|refine A5 [1,3] (by decide+kernel) ⟨?_,?_,trivial⟩|refine A5 [3] (by decide+kernel) ⟨?_,trivial⟩|refine A5 [4] (by decide+kernel) ⟨?_,trivial⟩|refine A5 [5] (by decide+kernel) ⟨?_,trivial⟩|refine A5 [7] (by decide+kernel) ⟨?_,trivial⟩|refine A5 [1,4] (by decide+kernel) ⟨?_,?_,trivial⟩|refine A5 [1] (by decide+kernel) ⟨?_,trivial⟩)<;>(refine go A0 false ?_;(conv=>whnf);(first|(refine Ay (To d t.1 t.2.1 ht.1) hH hp rfl B0 rfl rfl (fun r9 hr9=>go A0 false ?_);(conv=>whnf))|(refine Bj A0 rfl rfl rfl rfl rfl rfl rfl rfl rfl rfl rfl (Af (r.2.2.inputs++[r9.2.2])) (An rfl) C6 Ad (G3 ?_);(conv=>whnf))|(repeat (refine Gi ?_;(conv=>whnf))));refine Ag ?_))
    |refine Gr (by decide+kernel) (Nf.out ?_))
  all_goals
   refine Nf.mk (A7 ?_)
  all_goals
   exact C3 A0 (r9.1,r9.2.1,⟨r.2.2.queue,r.2.2.staged,r.2.2.inputs++[r9.2.2],r.2.2.cells,r.2.2.sums,r.2.2.black,r.2.2.caps,r.2.2.dones⟩) ⟨hr9.1,Yi hxw B6y,C5d hx.o (Ke hx.o.i hr9.2.2)⟩ rfl rfl rfl rfl B0
 repeat refine B2 ?_
 refine ⟨fun c2=>?_,fun c2=>?_⟩<;>conv=>whnf
 ·refine Gs rfl ?_
  repeat' (first
    |(first|refine Bt A0 false 0 rfl rfl rfl (by decide+kernel) rfl (A4 Br) ?_|refine Bt A0 false 2 rfl rfl rfl (by decide+kernel) rfl (A4 Br) ?_|refine Bt A0 false 5 rfl rfl rfl (by decide+kernel) rfl (A4 Br) ?_)
    |((first|refine A5 [1,3] (by decide+kernel) ⟨?_,?_,trivial⟩|refine A5 [3] (by decide+kernel) ⟨?_,trivial⟩|refine A5 [4] (by decide+kernel) ⟨?_,trivial⟩|refine A5 [6] (by decide+kernel) ⟨?_,trivial⟩|refine A5 [1] (by decide+kernel) ⟨?_,trivial⟩)<;>(refine go A0 false ?_;(conv=>whnf);(first|(refine Ay (Au d t.1 t.2.1 4 ht.1 B5) hH hp rfl B0 rfl rfl (fun r9 hr9=>go A0 false ?_);(conv=>whnf);have hk9:=hr9.2.2.2 B5;have hk8:=hr9.2.1)|(refine B9q A0 rfl rfl rfl rfl rfl rfl rfl rfl rfl ⟨hk8,by omega⟩ Ad _ rfl (G3 ?_);(conv=>whnf))|(repeat (refine Gi ?_;(conv=>whnf))));refine Ag ?_))
    |refine Gr (by decide+kernel) (Nf.out ?_))
  all_goals
   refine Nf.mk (A7 ?_)
  all_goals
   refine Jc 12 (Bh (r.2.2.sums.take r9.2.2.toNat)) rfl (Zs (es:=1) (e:=fun n=>[vi n]) (xs:=r.2.2.sums) (m:=r9.2.2.toNat) Ad) ?_;exact C3 A0 (r9.1,r9.2.1,⟨r.2.2.queue,r.2.2.staged,r.2.2.inputs,r.2.2.cells,r.2.2.sums.take r9.2.2.toNat,r.2.2.black,r.2.2.caps,r.2.2.dones⟩) ⟨hr9.1,Yi hxw (by simp only [Ab.w,List.length_take];omega),B9b hx.o (B2s hx.o.n)⟩ rfl rfl rfl rfl B0
 repeat refine B2 ?_
 refine ⟨fun c3=>?_,fun c3=>?_⟩<;>conv=>whnf
 ·refine Gs rfl ?_
  repeat' (first
    |(first|refine Bt A0 false 0 rfl rfl rfl (by decide+kernel) rfl (A4 Br) ?_|refine Bt A0 false 2 rfl rfl rfl (by decide+kernel) rfl (A4 Br) ?_)
    |((first|refine A5 [1,3] (by decide+kernel) ⟨?_,?_,trivial⟩|refine A5 [3] (by decide+kernel) ⟨?_,trivial⟩|refine A5 [4] (by decide+kernel) ⟨?_,trivial⟩|refine A5 [5] (by decide+kernel) ⟨?_,trivial⟩|refine A5 [6] (by decide+kernel) ⟨?_,trivial⟩|refine A5 [1,4] (by decide+kernel) ⟨?_,?_,trivial⟩|refine A5 [1] (by decide+kernel) ⟨?_,trivial⟩)<;>(refine go A0 false ?_;(conv=>whnf);(first|(refine Fx 12 (Bh [1000000,1000001,-1000001]) rfl (Bu rfl (by repeat' (first|exact trivial|exact rfl|refine ⟨?_,?_⟩))) ?_;refine Ay (Dt d t.1 t.2.1 [1000000,1000001,-1000001] ht.1 B5) hH hp rfl B0 rfl rfl (fun r9 hr9=>go A0 false ?_);(conv=>whnf))|(refine Bv (j:=0) A0 rfl rfl rfl rfl rfl rfl rfl rfl _ (Ck (j:=0) (xs:=r.2.2.sums) (e:=fun n=>[vi n]) (x:=[1000000,1000001,-1000001].getD r9.2.2 0) Ad rfl) (G3 ?_);(conv=>whnf))|(repeat (refine Gi ?_;(conv=>whnf))));refine Ag ?_))
    |refine Gr (by decide+kernel) (Nf.out ?_))
  all_goals
   refine Nf.mk (A7 ?_)
  all_goals
   exact C3 A0 (r9.1,r9.2.1,⟨r.2.2.queue,r.2.2.staged,r.2.2.inputs,r.2.2.cells,r.2.2.sums.set 0 ([1000000,1000001,-1000001].getD r9.2.2 0),r.2.2.black,r.2.2.caps,r.2.2.dones⟩) ⟨hr9.1,Yi hxw (by simp only [Ab.w,List.length_set];omega),B9b hx.o (Uj hx.o.n (Ha _ _ (by intro x hx;simp only [List.mem_cons,List.not_mem_nil,or_false] at hx;show _∧_;omega)))⟩ rfl rfl rfl rfl B0
 repeat refine B2 ?_
 refine ⟨fun c4=>?_,fun c4=>?_⟩<;>conv=>whnf
 ·refine Gs rfl ?_
  repeat' (first
    |(first|refine Bt A0 false 0 rfl rfl rfl (by decide+kernel) rfl (A4 Br) ?_|refine Bt A0 false 2 rfl rfl rfl (by decide+kernel) rfl (A4 Br) ?_|refine Bt A0 false 4 rfl rfl rfl (by decide+kernel) rfl (A4 Br) ?_|refine Bt A0 false 8 rfl rfl rfl (by decide+kernel) rfl (A4 Br) ?_)
    |((first|refine A5 [1,3] (by decide+kernel) ⟨?_,?_,trivial⟩|refine A5 [3] (by decide+kernel) ⟨?_,trivial⟩|refine A5 [5] (by decide+kernel) ⟨?_,trivial⟩|refine A5 [6] (by decide+kernel) ⟨?_,trivial⟩|refine A5 [7] (by decide+kernel) ⟨?_,trivial⟩|refine A5 [9] (by decide+kernel) ⟨?_,trivial⟩|refine A5 [1,5] (by decide+kernel) ⟨?_,?_,trivial⟩|refine A5 [1,6] (by decide+kernel) ⟨?_,?_,trivial⟩|refine A5 [1] (by decide+kernel) ⟨?_,trivial⟩)<;>(refine go A0 false ?_;(conv=>whnf);(first|(refine Ay (Au d t.1 t.2.1 6 ht.1 B5) hH hp rfl B0 rfl rfl (fun r9 hr9=>go A0 false ?_);(conv=>whnf))|(refine Bj A0 rfl rfl rfl rfl rfl rfl rfl rfl rfl rfl rfl (G1 (r.2.2.dones++[⟨r9.2.2-1,false⟩])) (An rfl) C6 Ad (G3 ?_);(conv=>whnf))|(repeat (refine Gi ?_;(conv=>whnf))));refine Ag ?_))
    |refine Gr (by decide+kernel) (Nf.out ?_))
  all_goals
   refine Nf.mk (A7 ?_)
  all_goals
   exact C3 A0 (r9.1,r9.2.1,⟨r.2.2.queue,r.2.2.staged,r.2.2.inputs,r.2.2.cells,r.2.2.sums,r.2.2.black,r.2.2.caps,r.2.2.dones++[⟨r9.2.2-1,false⟩]⟩) ⟨hr9.1,Yi hxw B6y,C3a hx.o (Ke hx.o.d (Gu (by have:=hr9.2.1;show _≤r9.2.2-1;omega) (by have:=hr9.2.2.2 B5;show r9.2.2-1≤_;omega)))⟩ rfl rfl rfl rfl B0
 repeat refine B2 ?_
 refine ⟨fun c5=>?_,fun c5=>?_⟩<;>conv=>whnf
 ·refine Ay (Au d t.1 t.2.1 2 ht.1 B5) hH hp rfl B0 rfl rfl (fun r9 hr9=>go A0 false ?_)
  conv=>whnf
  refine Jc 12 (G1 [⟨1,false⟩,⟨r9.2.2,true⟩]) rfl (Hx rfl A44) ?_;exact C3 A0 (r9.1,r9.2.1,⟨r.2.2.queue,r.2.2.staged,r.2.2.inputs,r.2.2.cells,r.2.2.sums,r.2.2.black,r.2.2.caps,[⟨1,false⟩,⟨r9.2.2,true⟩]⟩) ⟨hr9.1,Yi hxw (by simp only [Ab.w,List.length_cons,List.length_nil];omega),C3a hx.o (Ke (p:=F6.ok) (xs:=[(⟨1,false⟩:F6)]) (fun y hy=>by rw [List.mem_singleton.1 hy];exact Gu (n:=1) B5 B5) (Gu (n:=r9.2.2) (by have:=hr9.2.1;show _≤r9.2.2;omega) (by have:=hr9.2.2.2 B5;show r9.2.2≤_;omega)))⟩ rfl rfl rfl rfl B0
 repeat refine B2 ?_
 refine ⟨fun c6=>?_,fun c6=>?_⟩<;>conv=>whnf
 ·refine Bj A0 rfl rfl rfl rfl rfl rfl rfl rfl rfl rfl rfl (Dw (r.2.2.black++[true])) (An rfl) C6 Ad (A7 ?_)
  exact C3 A0 (t.1,t.2.1,⟨r.2.2.queue,r.2.2.staged,r.2.2.inputs,r.2.2.cells,r.2.2.sums,r.2.2.black++[true],r.2.2.caps,r.2.2.dones⟩) ⟨ht.1,Yi hxw B6y,C29 hx.o⟩ rfl rfl rfl rfl B0
 repeat refine B2 ?_
 refine ⟨fun c7=>?_,fun c7=>?_⟩<;>conv=>whnf
 ·refine Bj A0 rfl rfl rfl rfl rfl rfl rfl rfl rfl rfl rfl (Ak (r.2.2.cells++[⟨0,0,0,0⟩])) (An rfl) C6 Ad (A7 ?_)
  exact C3 A0 (t.1,t.2.1,⟨r.2.2.queue,r.2.2.staged,r.2.2.inputs,r.2.2.cells++[⟨0,0,0,0⟩],r.2.2.sums,r.2.2.black,r.2.2.caps,r.2.2.dones⟩) ⟨ht.1,Yi hxw B6y,C5c hx.o (Ke hx.o.c ⟨Gu B5 B5,Gu B5 B5,Gu B5 B5,Gu B5 B5⟩)⟩ rfl rfl rfl rfl B0
 repeat refine B2 ?_
 exact C3 A0 (t.1,t.2.1,r.2.2) ⟨ht.1,by show r.2.2.w≤100;omega,hx.o⟩ rfl rfl rfl rfl B0
structure JLk where
 k:Nat
 i:Int
 h:Int
 l:Ca
theorem C1p {k:Nat}{l:Ca}(h:l.queue.length≤k):(Bc l).1.queue.length≤k+1:=by
 unfold Bc
 split
 ·show (l.queue.drop 1).length≤_;rw [List.length_drop];omega
 show l.queue.length≤_;omega
theorem C1n {k:Nat}{l:Ca}(h:l.queue.length≤k):(Ce l).1.queue.length≤k+1:=by
 unfold Ce
 split<;>(show l.queue.length≤_;omega)
theorem C1o {k:Nat}{l:Ca}{r:Aa}(h:l.queue.length≤k):(Cf l r).1.queue.length≤k+1:=by
 unfold Cf
 split
 ·show (l.queue++[r]).length≤_;rw [List.length_append];show l.queue.length+1≤_;omega
 show l.queue.length≤_;omega
set_option maxHeartbeats 4000000 in
theorem B7o (d:Ey)(i h:Int)(hi:0≤i∧i≤d.n):E3 Tryz.prog HT 123 d.pins (d.cur i h) [] (fun r:Int×Int×Ca=>(0≤r.1∧r.1≤d.n)∧r.2.2.queue.length≤9∧OkL r.2.2) (fun r=>d.cur r.1 r.2.1) (fun r=>[.agg r.2.2.c]):=by
 refine Em A0 false Tryz.func123 rfl B5 fun B b hH hp=>?_;conv=>whnf
 refine Ay (Au d i h 4 hi B5) hH hp rfl B0 rfl rfl (fun r hr=>go A0 false ?_);conv=>whnf
 have hr4:=hr.2.2.2 B5;have hr5:=hr.2.1;(repeat refine Ap ?_);refine Bd (Yc (1+r.2.2)) rfl (A7 ?_);refine Bk A0 false [8] (fun j:JLk=>[(4,.c (vi j.k))]) (fun j=>[⟨3,[.c (vi j.l.cap),.own 2,.c (vi j.l.credits),.c (vi j.l.back),.c (vi j.l.sent),.c (vi j.l.got)]⟩,⟨0,[.c (.val d.v),.c (vi j.i),.c (vi j.h)]⟩,⟨1,[.c (vi 0),.c (.val (.slice none 0 0)),.c (vi 0),.c (vi 0),.c (vi 0),.c (vi 0)]⟩]) (fun j=>[⟨2,Af j.l.queue⟩]) (fun j=>(0≤j.i∧j.i≤d.n)∧j.k≤8∧j.l.queue.length≤j.k∧OkL j.l) (fun j=>9-j.k) (⟨0,r.1,r.2.1,F2 (1+r.2.2)⟩) (⟨hr.1,Nat.zero_le _,Nat.zero_le _,C17 _⟩) ⟨F0,trivial⟩ C2 ⟨Dm,trivial⟩ C1 A6 (fun j hj=>?_);conv=>whnf
 obtain ⟨hi2,hk2,hx,hxo⟩:=hj;have hlw:j.l.w=j.l.queue.length:=rfl;refine Ay (Au d j.i j.h 9 hi2 B5) hH hp rfl B0 rfl rfl (fun s hs=>go A0 false ?_);conv=>whnf
 refine Eo (fun hlt=>?_) fun hlt=>?_<;>conv=>whnf
 ·have hlt2:s.2.2<9:=hs.2.2.2 B5
  refine Ay (Au d s.1 s.2.1 4 hs.1 B5) hH hp rfl B0 rfl rfl (fun t ht=>go A0 false ?_);conv=>whnf
  refine ⟨fun c0=>?_,fun c0=>?_⟩<;>conv=>whnf
  ·refine Bd (W1 j.l Ad) rfl (A7 ?_)
   (repeat refine Ap ?_);refine Az [(2,4)] (⟨j.k+1,t.1,t.2.1,(Bc j.l).1⟩) (⟨ht.1,by show j.k+1≤8;omega,C1p hx,B89 hxo⟩) (by show 9-(j.k+1)<_;omega) ⟨rfl,trivial⟩ ⟨rfl,trivial⟩ C2 A6 C1 A6
  refine ⟨fun c1=>?_,fun c1=>?_⟩<;>conv=>whnf
  ·refine Bd (Rw j.l Ad) rfl (A7 ?_)
   (repeat refine Ap ?_);refine Az [(2,4)] (⟨j.k+1,t.1,t.2.1,(Ce j.l).1⟩) (⟨ht.1,by show j.k+1≤8;omega,C1n hx,B87 hxo⟩) (by show 9-(j.k+1)<_;omega) ⟨rfl,trivial⟩ ⟨rfl,trivial⟩ C2 A6 C1 A6
  refine Gs rfl ?_
  repeat' (first
    |(first|refine Bt A0 false 1 rfl rfl rfl (by decide+kernel) rfl (A4 Br) ?_|refine Bt A0 false 4 rfl rfl rfl (by decide+kernel) rfl (A4 Br) ?_)
    |((first|refine A5 [0,2] (by decide+kernel) ⟨?_,?_,trivial⟩|refine A5 [2] (by decide+kernel) ⟨?_,trivial⟩|refine A5 [3] (by decide+kernel) ⟨?_,trivial⟩|refine A5 [5,6] (by decide+kernel) ⟨?_,?_,trivial⟩|refine A5 [6,7] (by decide+kernel) ⟨?_,?_,trivial⟩|refine A5 [7] (by decide+kernel) ⟨?_,trivial⟩|refine A5 [6] (by decide+kernel) ⟨?_,trivial⟩|refine A5 [5] (by decide+kernel) ⟨?_,trivial⟩|refine A5 [0] (by decide+kernel) ⟨?_,trivial⟩)<;>(refine go A0 false ?_;(conv=>whnf);(first|(refine Ay (To d t.1 t.2.1 ht.1) hH hp rfl B0 rfl rfl (fun r9 hr9=>go A0 false ?_);(conv=>whnf))|(refine Bd (Ub j.l r9.2.2 Ad) rfl (G3 ?_);(conv=>whnf))|(repeat (refine Gi ?_;(conv=>whnf))));refine Ag ?_))
    |refine Gr (by decide+kernel) (Nf.out ?_))
  all_goals
   refine Nf.mk (A7 ?_)
  all_goals
   (repeat refine Ap ?_);refine Az [(2,4)] (⟨j.k+1,r9.1,r9.2.1,(Cf j.l r9.2.2).1⟩) (⟨hr9.1,by show j.k+1≤8;omega,C1o hx,B88 hxo⟩) (by show 9-(j.k+1)<_;omega) ⟨rfl,trivial⟩ ⟨rfl,trivial⟩ C2 A6 C1 A6
 exact C3 A0 (s.1,s.2.1,j.l) ⟨hs.1,by show j.l.queue.length≤9;omega,hxo⟩ rfl rfl rfl rfl B0
set_option maxHeartbeats 4000000 in
theorem Mz (d:Ey)(i h:Int)(hi:0≤i∧i≤d.n):E3 Tryz.prog HT 89 d.pins (d.cur i h) [] (fun r:Int×Int×Ca=>(0≤r.1∧r.1≤d.n)∧r.2.2.queue.length≤10∧OkL r.2.2) (fun r=>d.cur r.1 r.2.1) (fun r=>[.agg r.2.2.c]):=by
 refine Em A0 false Tryz.func89 rfl B5 fun B b hH hp=>?_;conv=>whnf
 refine Ay (B7o d i h hi) hH hp rfl B0 rfl rfl (fun r hr=>go A0 false ?_);conv=>whnf
 obtain ⟨hx,hxo⟩:=hr.2;refine Ay (Au d r.1 r.2.1 14 hr.1 B5) hH hp rfl B0 rfl rfl (fun t ht=>go A0 false ?_);conv=>whnf
 refine ⟨fun c0=>?_,fun c0=>?_⟩<;>conv=>whnf
 ·refine Ay (Au d t.1 t.2.1 6 ht.1 B5) hH hp rfl B0 rfl rfl (fun r9 hr9=>go A0 false ?_)
  conv=>whnf
  have hn9:=hr9.2.2.2 B5;have hn8:=hr9.2.1;(repeat refine Ap ?_);exact C3 A0 (r9.1,r9.2.1,⟨r.2.2.cap,r.2.2.queue,r9.2.2-1,r.2.2.back,r.2.2.sent,r.2.2.got⟩) ⟨hr9.1,by show r.2.2.queue.length≤10;omega,hxo.c,hxo.q,Gu (by show _≤r9.2.2-1;omega) (by show r9.2.2-1≤_;omega),hxo.b,hxo.s,hxo.g⟩ rfl rfl rfl rfl B0
 repeat refine B2 ?_
 refine ⟨fun c1=>?_,fun c1=>?_⟩<;>conv=>whnf
 ·refine Ay (Au d t.1 t.2.1 6 ht.1 B5) hH hp rfl B0 rfl rfl (fun r9 hr9=>go A0 false ?_)
  conv=>whnf
  have hn9:=hr9.2.2.2 B5;have hn8:=hr9.2.1;(repeat refine Ap ?_);exact C3 A0 (r9.1,r9.2.1,⟨r.2.2.cap,r.2.2.queue,r.2.2.credits,r9.2.2-1,r.2.2.sent,r.2.2.got⟩) ⟨hr9.1,by show r.2.2.queue.length≤10;omega,hxo.c,hxo.q,hxo.r,Gu (by show _≤r9.2.2-1;omega) (by show r9.2.2-1≤_;omega),hxo.s,hxo.g⟩ rfl rfl rfl rfl B0
 repeat refine B2 ?_
 refine ⟨fun c2=>?_,fun c2=>?_⟩<;>conv=>whnf
 ·refine Fx 4 (Bh [-1,0,1000000000,1000000001]) rfl (Bu rfl C2) ?_
  refine Ay (Dt d t.1 t.2.1 [-1,0,1000000000,1000000001] ht.1 B5) hH hp rfl B0 rfl rfl (fun r9 hr9=>go A0 false ?_);conv=>whnf
  exact C3 A0 (r9.1,r9.2.1,⟨r.2.2.cap,r.2.2.queue,r.2.2.credits,r.2.2.back,[-1,0,1000000000,1000000001].getD r9.2.2 0,r.2.2.got⟩) ⟨hr9.1,by show r.2.2.queue.length≤10;omega,hxo.c,hxo.q,hxo.r,hxo.b,Ha _ _ (by intro x hx;simp only [List.mem_cons,List.not_mem_nil,or_false] at hx;show _∧_;omega),hxo.g⟩ rfl rfl rfl rfl B0
 repeat refine B2 ?_
 refine ⟨fun c3=>?_,fun c3=>?_⟩<;>conv=>whnf
 ·refine Gs rfl ?_
  repeat' (first
    |(first|refine Bt A0 false 0 rfl rfl rfl (by decide+kernel) rfl (A4 Br) ?_|refine Bt A0 false 2 rfl rfl rfl (by decide+kernel) rfl (A4 Br) ?_|refine Bt A0 false 6 rfl rfl rfl (by decide+kernel) rfl (A4 Br) ?_)
    |((first|refine A5 [1,3] (by decide+kernel) ⟨?_,?_,trivial⟩|refine A5 [3] (by decide+kernel) ⟨?_,trivial⟩|refine A5 [4] (by decide+kernel) ⟨?_,trivial⟩|refine A5 [5] (by decide+kernel) ⟨?_,trivial⟩|refine A5 [7] (by decide+kernel) ⟨?_,trivial⟩|refine A5 [1,4] (by decide+kernel) ⟨?_,?_,trivial⟩|refine A5 [1] (by decide+kernel) ⟨?_,trivial⟩)<;>(refine go A0 false ?_;(conv=>whnf);(first|(refine Ay (Mj d t.1 t.2.1 ht.1) hH hp rfl B0 rfl rfl (fun r9 hr9=>go A0 false ?_);(conv=>whnf))|(refine Bj A0 rfl rfl rfl rfl rfl rfl rfl rfl rfl rfl rfl (Af (r.2.2.queue++[r9.2.2])) (An rfl) C6 Ad (G3 ?_);(conv=>whnf))|(repeat (refine Gi ?_;(conv=>whnf))));refine Ag ?_))
    |refine Gr (by decide+kernel) (Nf.out ?_))
  all_goals
   refine Nf.mk (A7 ?_)
  all_goals
   exact C3 A0 (r9.1,r9.2.1,⟨r.2.2.cap,r.2.2.queue++[r9.2.2],r.2.2.credits,r.2.2.back,r.2.2.sent,r.2.2.got⟩) ⟨hr9.1,by show (r.2.2.queue++[r9.2.2]).length≤10;rw [List.length_append];show r.2.2.queue.length+1≤10;omega,hxo.c,Ke hxo.q hr9.2,hxo.r,hxo.b,hxo.s,hxo.g⟩ rfl rfl rfl rfl B0
 repeat refine B2 ?_
 refine ⟨fun c4=>?_,fun c4=>?_⟩<;>conv=>whnf
 ·(repeat refine Ap ?_)
  exact C3 A0 (t.1,t.2.1,⟨r.2.2.cap,r.2.2.queue,r.2.2.credits,r.2.2.back,1000000000,1000000000-r.2.2.queue.length⟩) ⟨ht.1,by show r.2.2.queue.length≤10;omega,hxo.c,hxo.q,hxo.r,hxo.b,Gu (n:=1000000000) B5 B5,Gu (by show _≤(1000000000:Int)-r.2.2.queue.length;omega) (by show (1000000000:Int)-r.2.2.queue.length≤_;omega)⟩ rfl rfl rfl rfl B0
 repeat refine B2 ?_
 exact C3 A0 (t.1,t.2.1,r.2.2) ⟨ht.1,by show r.2.2.queue.length≤10;omega,hxo⟩ rfl rfl rfl rfl B0
theorem R9 (k:Nat):Gk .i64 ([1,1,1,2,3,3,3,4,4,5,6,6,7].getD k 0):=
 A0u (p:=fun w=>Gk .i64 w) _ k 0 (fun x hx=>by simp only [List.mem_cons,List.not_mem_nil,or_false] at hx;show _∧_;omega) ⟨by decide,by decide⟩
theorem Yw (n:Int):Gk .i64 (n.tmod 3):=by
 show _∧_
 have h1:=Int.tmod_lt_of_pos n (show (0:Int)<3 by decide)
 have h2:=Int.lt_tmod_of_pos n (show (0:Int)<3 by decide)
 omega
theorem B7q (d:Ey)(i h:Int)(hi:0≤i∧i≤d.n):E3 Tryz.prog HT 128 d.pins (d.cur i h) [] (fun r:Int×Int×D7=>(0≤r.1∧r.1≤d.n)∧r.2.2.ok) (fun r=>d.cur r.1 r.2.1) (fun r=>[.agg r.2.2.c]):=by
 refine Em A0 false Tryz.func128 rfl B5 fun B b hH hp=>?_;conv=>whnf
 refine Fx 2 (Bh [1,1,1,2,3,3,3,4,4,5,6,6,7]) rfl (Bu rfl C2) ?_;refine Ay (Dt d i h [1,1,1,2,3,3,3,4,4,5,6,6,7] hi B5) hH hp rfl B0 rfl rfl (fun r hr=>go A0 false ?_);conv=>whnf
 refine Ay (Au d r.1 r.2.1 3 hr.1 B5) hH hp rfl B0 rfl rfl (fun r2 hr2=>go A0 false ?_);conv=>whnf
 refine ⟨fun c1=>?_,fun c1=>?_⟩<;>conv=>whnf
 ·repeat' (first|(refine L4 ?_;conv=>whnf)|(refine L5 ?_;conv=>whnf)|(refine ⟨fun h=>?_,fun h=>?_⟩<;>conv=>whnf)|(refine Gi ?_;conv=>whnf)|fail)
  refine Gs rfl ?_;refine Bt A0 false 0 rfl rfl rfl A6 rfl (A4 Br) ?_;refine Bt A0 false 3 rfl rfl rfl A6 rfl (A4 Br) ?_;refine A5 [1,4] A6 ⟨?_,?_,trivial⟩
  focus
   refine A7 ?_;refine Ag ?_;refine Bt A0 false 2 rfl rfl rfl A6 rfl (A4 Br) ?_;refine A5 [4] A6 ⟨A7 ?_,trivial⟩;refine Ay (Au d r2.1 r2.2.1 2 hr2.1 B5) hH hp rfl B0 rfl rfl (fun r3 hr3=>go A0 false ?_);conv=>whnf
   refine Ag ?_
  rotate_left 1
  focus
   refine A7 ?_;refine Ay (Au d r2.1 r2.2.1 2 hr2.1 B5) hH hp rfl B0 rfl rfl (fun r3 hr3=>go A0 false ?_);conv=>whnf
   refine Ag (A5 [1] A6 ⟨A7 ?_,trivial⟩);refine Ag ?_;refine Bt A0 false 2 rfl rfl rfl A6 rfl (A4 Br) ?_
  all_goals
   refine Bt A0 false 5 rfl rfl rfl A6 rfl (A4 Br) ?_;refine Bt A0 false 6 rfl rfl rfl A6 rfl (A4 Br) ?_;refine Bt A0 false 7 rfl rfl rfl A6 rfl (A4 Br) ?_;refine A5 [8] A6 ⟨A7 ?_,trivial⟩;refine Ag (Gr A6 (A7 ?_))
  ·exact C3 A0 (r3.1,r3.2.1,⟨[1,1,1,2,3,3,3,4,4,5,6,6,7].getD r.2.2 0,r2.2.2,(r2.2.2+1+r3.2.2).tmod 3⟩) ⟨hr3.1,R9 _,⟨by show _≤r2.2.2;omega,by show r2.2.2≤_;omega⟩,Yw _⟩ rfl rfl rfl rfl B0
  exact C3 A0 (r3.1,r3.2.1,⟨[1,1,1,2,3,3,3,4,4,5,6,6,7].getD r.2.2 0,r2.2.2,(r2.2.2+1+r3.2.2).tmod 3⟩) ⟨hr3.1,R9 _,⟨by show _≤r2.2.2;omega,by show r2.2.2≤_;omega⟩,Yw _⟩ rfl rfl rfl rfl B0
 repeat' (first|(refine L4 ?_;conv=>whnf)|(refine L5 ?_;conv=>whnf)|(refine ⟨fun h=>?_,fun h=>?_⟩<;>conv=>whnf)|(refine Gi ?_;conv=>whnf)|fail)
 ·refine Gs rfl ?_
  refine Bt A0 false 0 rfl rfl rfl A6 rfl (A4 Br) ?_;refine Bt A0 false 3 rfl rfl rfl A6 rfl (A4 Br) ?_;refine A5 [1,4] A6 ⟨?_,?_,trivial⟩
  focus
   refine A7 ?_;refine Ag ?_;refine Bt A0 false 2 rfl rfl rfl A6 rfl (A4 Br) ?_;refine A5 [4] A6 ⟨A7 ?_,trivial⟩;refine Ay (Au d r2.1 r2.2.1 2 hr2.1 B5) hH hp rfl B0 rfl rfl (fun r3 hr3=>go A0 false ?_);conv=>whnf
   refine Ag ?_
  rotate_left 1
  focus
   refine A7 ?_;refine Ay (Au d r2.1 r2.2.1 2 hr2.1 B5) hH hp rfl B0 rfl rfl (fun r3 hr3=>go A0 false ?_);conv=>whnf
   refine Ag (A5 [1] A6 ⟨A7 ?_,trivial⟩);refine Ag ?_;refine Bt A0 false 2 rfl rfl rfl A6 rfl (A4 Br) ?_
  all_goals
   refine Bt A0 false 5 rfl rfl rfl A6 rfl (A4 Br) ?_;refine Bt A0 false 6 rfl rfl rfl A6 rfl (A4 Br) ?_;refine Bt A0 false 7 rfl rfl rfl A6 rfl (A4 Br) ?_;refine A5 [8] A6 ⟨A7 ?_,trivial⟩;refine Ag (Gr A6 (A7 ?_))
  ·exact C3 A0 (r3.1,r3.2.1,⟨[1,1,1,2,3,3,3,4,4,5,6,6,7].getD r.2.2 0,r2.2.2,(r2.2.2+1+r3.2.2).tmod 3⟩) ⟨hr3.1,R9 _,⟨by show _≤r2.2.2;omega,by show r2.2.2≤_;omega⟩,Yw _⟩ rfl rfl rfl rfl B0
  exact C3 A0 (r3.1,r3.2.1,⟨[1,1,1,2,3,3,3,4,4,5,6,6,7].getD r.2.2 0,r2.2.2,(r2.2.2+1+r3.2.2).tmod 3⟩) ⟨hr3.1,R9 _,⟨by show _≤r2.2.2;omega,by show r2.2.2≤_;omega⟩,Yw _⟩ rfl rfl rfl rfl B0
 exact C3 A0 (r2.1,r2.2.1,⟨[1,1,1,2,3,3,3,4,4,5,6,6,7].getD r.2.2 0,r2.2.2,0⟩) ⟨hr2.1,R9 _,⟨by show _≤r2.2.2;omega,by show r2.2.2≤_;omega⟩,⟨by show (-9223372036854775808:Int)≤0;decide,by show (0:Int)≤9223372036854775807;decide⟩⟩ rfl rfl rfl rfl B0
theorem B7p (d:Ey)(i h:Int)(hi:0≤i∧i≤d.n):E3 Tryz.prog HT 128 d.pins (d.cur i h) [] (fun r:Int×Int×D7=>0≤r.1∧r.1≤d.n) (fun r=>d.cur r.1 r.2.1) (fun r=>[.agg r.2.2.c]):=(B7q d i h hi).weak fun _ h=>h.1
structure JPk where
 k:Nat
 i:Int
 h:Int
 xs:List D7
theorem A7w (d:Ey)(i h:Int)(m:Nat)(hm:m≤1000)(hi:0≤i∧i≤d.n):E3 Tryz.prog HT 95 d.pins (d.cur i h) [.one (vi m)] (fun r:Int×Int×List D7=>(0≤r.1∧r.1≤d.n)∧r.2.2.length≤m) (fun r=>d.cur r.1 r.2.1) (fun r=>[.one (El r.2.2)]):=by
 refine Em A0 false Tryz.func95 rfl B5 fun B b hH hp=>?_;conv=>whnf
 refine Es 1 (El []) rfl (Bu rfl C2) ?_;refine Bk A0 false [7] (fun j:JPk=>[(6,.c (vi j.k))]) (fun j=>[⟨0,[.c (.val d.v),.c (vi j.i),.c (vi j.h)]⟩]) (fun j=>[⟨1,El j.xs⟩]) (fun j=>(0≤j.i∧j.i≤d.n)∧j.k≤m∧j.xs.length=j.k) (fun j=>m-j.k) (⟨0,i,h,[]⟩) (⟨hi,Nat.zero_le _,rfl⟩) ⟨F0,trivial⟩ C2 ⟨Dm,trivial⟩ C1 A6 (fun j hj=>?_);conv=>whnf
 obtain ⟨hi,hk,hx⟩:=hj;(repeat refine Ap ?_);refine Ay (Au d j.i j.h (m+1) hi Ad) hH hp rfl B0 rfl rfl (fun r hr=>go A0 false ?_);conv=>whnf
 refine Eo (fun hlt=>?_) fun hlt=>?_<;>conv=>whnf
 ·have hlt2:(r.2.2:Int)<m+1:=hr.2.2.2 Ad
  refine Ay (B7p d r.1 r.2.1 hr.1) hH hp rfl B0 rfl rfl (fun r2 hr2=>go A0 false ?_);conv=>whnf
  refine Bj A0 rfl rfl rfl rfl rfl rfl rfl rfl rfl rfl rfl (El (j.xs++[r2.2.2])) (An rfl) C6 Ad (A7 ?_);(repeat refine Ap ?_);refine Az [(1,3)] (⟨j.k+1,r2.1,r2.2.1,j.xs++[r2.2.2]⟩) (⟨hr2,by show j.k+1≤m;omega,by simp [hx]⟩) (by show m-(j.k+1)<_;omega) ⟨rfl,trivial⟩ ⟨rfl,trivial⟩ C2 A6 C1 A6
 exact C3 A0 (r.1,r.2.1,j.xs) ⟨hr.1,by show j.xs.length≤m;omega⟩ rfl rfl rfl rfl B0
theorem B86 {l:List Bw}(h:Z9 l):Ea ⟨l,1,1⟩:=by
 obtain ⟨G,a,b,k,hG,ha,hb,hk,hl⟩:=h;have ha:a=1∨a=2∨a=3:=by omega
 have hb:b=0∨b=1∨b=2∨b=3:=by omega
 have hk:k=1∨k=2∨k=3:=by omega
 rcases hl with rfl|rfl|rfl|rfl|rfl
 ·show Ea ⟨[⟨1,0,0,[1]⟩,⟨G,0,0,[2,5]⟩,⟨4,a,0,[3]⟩,⟨3,k,0,[4]⟩,⟨7,0,0,[1]⟩,⟨8,0,0,[]⟩],1,1⟩
  rcases hG with rfl|rfl<;>rcases ha with rfl|rfl|rfl<;>rcases hk with rfl|rfl|rfl<;>decide
 ·rcases hG with rfl|rfl<;>rcases ha with rfl|rfl|rfl<;>rcases hb with rfl|rfl|rfl|rfl<;>decide
 ·rcases hG with rfl|rfl<;>rcases ha with rfl|rfl|rfl<;>rcases hb with rfl|rfl|rfl|rfl<;>decide
 ·rcases hG with rfl|rfl<;>rcases ha with rfl|rfl|rfl<;>rcases hb with rfl|rfl|rfl|rfl<;>decide
 rcases hG with rfl|rfl<;>rcases ha with rfl|rfl|rfl<;>rcases hb with rfl|rfl|rfl|rfl<;>decide
theorem B8c {g:Ah}(h:Wc g):Ea g:=by
 obtain ⟨h1,h2,hn⟩:=h
 have:Ea ⟨g.nodes,1,1⟩:=B86 hn
 exact ⟨this.1,by omega,by omega,this.2.2.2⟩
theorem Vc {g:Ah}{ins:List Aa}(hg:Wc g)(hi:Ui ins):L3 g ins:=by
 refine ⟨B8c hg,by have:=hi.1;omega,fun r hr=>?_⟩;obtain ⟨h1,h2,h3,h4,h5⟩:=hi.2 r hr;exact ⟨⟨by omega,h3,by omega,by omega,by omega⟩,h1,h2⟩
theorem B13 (x:A3)(w:Int)(h:x.w≤16000000):E3 Tryz.prog (fun _=>True) 183 [] (rc x) [.one (vi w)] (fun _:Unit=>True) (fun _=>rc x) (fun _=>[.one (vb (decide (Gm x w)))]):=by
 have hwl:=A3.workers_le h;refine Em A0 false Tryz.func183 rfl B5 fun B b hH hp=>?_;conv=>whnf
 refine ⟨fun h1=>?_,fun h1=>?_⟩<;>conv=>whnf
 ·have h1:B7 x:=of_decide_eq_true (show Bf x=true from h1)
  repeat refine B2 ?_
  refine As (G9 w 0 (x.workers.length-1)) rfl (A7 ?_)
  repeat refine B2 ?_
  rw [show E6 w 0 (x.workers.length-1)=decide (Gm x w) by rw [Bool.eq_iff_iff,Go.Sx.Al,decide_eq_true_eq];exact ⟨fun p=>⟨h1,by omega,by omega⟩,fun p=>⟨p.2.1,by have:=p.2.2;omega⟩⟩]
  exact C3 A0 () trivial rfl rfl rfl rfl B0
 repeat refine B2 ?_
 rw [show decide (Gm x w)=false from decide_eq_false fun p=>absurd p.1 (of_decide_eq_false (show Bf x=false from h1))]
 exact C3 A0 () trivial rfl rfl rfl rfl B0
set_option maxHeartbeats 4000000 in
theorem B31 (x:A3)(ok:Bool)(w e n:Int)(h0:0≤w)(hk:w.toNat<x.workers.length)(he:0≤e)(hke:e.toNat<(A8 x w).sums.length)(hs:Hf ((A8 x w).sums.getD e.toNat default))(hn: -1≤n∧n≤1):
  E3 Tryz.prog (fun _=>True) 185 [] (X6 x ok) [.one (vi w),.one (vi e),.one (vi n)] (fun _:Unit=>True) (fun _=>X6 (Av x w (Fk (A8 x w) e n)) (ok&&E6 ((A8 x w).sums.getD e.toNat default+n) (-1000000) 1000000)) (fun _=>[]):=by
 obtain ⟨s1,s2⟩:=hs;have hke2:e.toNat<(x.workers.getD w.toNat default).sums.length:=hke;have hg:(x.workers.getD w.toNat default).sums.getD e.toNat default=(A8 x w).sums.getD e.toNat default:=rfl;refine Em A0 false Tryz.func185 rfl B5 fun B b hH hp=>?_;conv=>whnf
 first|(refine Ax 0 rfl [0,1,2,3,4,5,6,7,8,9,10,11,12,13,14,15,16,17,18,19,20,21,22,23,24,25] A6 (A7 ?_))
 (repeat refine Ap ?_);refine Jq A0 rfl rfl rfl rfl rfl rfl (jn:=w.toNat) rfl rfl rfl (fun v=>go A0 false ?_);conv=>whnf
 (repeat refine Ap ?_);refine Kk A0 rfl rfl rfl rfl rfl rfl (jn:=w.toNat) rfl (Dg _ _ _) rfl (A7 ?_);refine Gd 26 6 rfl rfl (A7 ?_);(repeat refine Ap ?_);refine Bv (j:=e) A0 rfl rfl rfl rfl rfl rfl rfl rfl (Bh ((x.workers.getD w.toNat default).sums.set e.toNat ((x.workers.getD w.toNat default).sums.getD e.toNat default+n))) (Ck hke2 rfl) (A7 ?_)
 cases ok
 ·repeat refine B2 ?_
  refine Mf 2 (w.toNat) [(4,6)] (Ar (x.workers.set w.toNat (Fk (A8 x w) e n))) hk rfl rfl H3 rfl (Gq hk rfl) (G3 ?_);conv=>whnf
  exact C3q (C3 A0 () trivial rfl rfl rfl rfl B0)
 repeat refine B2 ?_
 refine Kk A0 rfl rfl rfl rfl rfl rfl (jn:=w.toNat) rfl (Dg _ _ _) rfl (A7 ?_)
 repeat refine B2 ?_
 refine Gd 47 6 rfl rfl (A7 ?_)
 repeat refine B2 ?_
 refine ⟨by (rw [List.length_set];show _∧_;omega),?_⟩
 conv=>whnf
 repeat refine B2 ?_
 refine As (G9 (((x.workers.getD w.toNat default).sums.set e.toNat ((x.workers.getD w.toNat default).sums.getD e.toNat default+n)).getD e.toNat default) (-1000000) 1000000) rfl (A7 ?_)
 repeat refine B2 ?_
 rw [Sx.getD_set_self _ _ _ _ hke2];refine Mf 2 (w.toNat) [(4,6)] (Ar (x.workers.set w.toNat (Fk (A8 x w) e n))) hk rfl rfl H3 rfl (Gq hk rfl) (G3 ?_);conv=>whnf
 exact C3q (C3 A0 () trivial rfl rfl rfl rfl B0)
theorem Y8 {x:A3}{w:Int}(hk:w.toNat<x.workers.length):Av x w (A8 x w)=x:=by
 have e:x.workers.set w.toNat (x.workers.getD w.toNat default)=x.workers:=by
  apply List.ext_getElem
  ·simp
  intro i h1 h2;rw [List.getElem_set]
  split
  ·rename_i h;subst h;simp [List.getD,hk]
  rfl
 unfold Av A8;rw [e]
theorem T8 {c:A3}{w:Int}(h:Gm c w)(hk:w.toNat<c.workers.length)(h2:¬ Qu c.graph (A8 c w)):Dk c w=(c,false):=by
 rw [Q3 h,Wa h2,Y8 hk]
theorem T7 {c:A3}{w:Int}(h:Gm c w)(h2:Qu c.graph (A8 c w)):Dk c w=(Av c w (F9 c.graph (A8 c w)),true):=by
 rw [Q3 h,A2r h2]
theorem N9 {c:A3}{w:Int}(h:Gm c w)(hk:w.toNat<c.workers.length)(h2:¬ O4 c.graph (A8 c w)):D9 c w=(c,false):=by
 rw [Oa h,Ou h2,Y8 hk]
theorem A1v {c:A3}{w:Int}(h:Gm c w)(h2:O4 c.graph (A8 c w)):D9 c w=(Av c w (I7 (A8 c w)),true):=by
 rw [Oa h,A38 h2]
set_option maxHeartbeats 8000000 in
theorem C0b (x:A3)(w:Int)(h:x.w≤16000000):E3 Tryz.prog (fun _=>True) 159 [] (rc x) [.one (vi w)] (fun _:Unit=>True) (fun _=>X6 (Dk x w).1 (Bf x)) (fun _=>[.one (vb (Dk x w).2)]):=by
 refine Em A0 false Tryz.func159 rfl B5 fun B b hH hp=>?_;conv=>whnf
 refine Ay (B13 x w h) hH hp rfl B0 rfl rfl (fun r hr=>go A0 false ?_);conv=>whnf
 refine ⟨fun h1=>?_,fun h1=>?_⟩<;>conv=>whnf
 ·have h1:¬ Gm x w:=of_decide_eq_false (by simpa using h1)
  repeat refine B2 ?_
  rw [Y1 h1];exact C3 A0 () trivial rfl rfl rfl rfl B0
 have h1:Gm x w:=of_decide_eq_true (show decide (Gm x w)=true by simpa using h1)
 have hC:=h1.1;have hb:=h1.2;have hk:w.toNat<x.workers.length:=by omega
 have hw:=A3.worker_le h hk;have hg:=Pt h;have hWP:=hC.2.1 _ (At (d:=default) hk);have hww:(A8 x w).w≤16000000:=by show (x.workers.getD w.toNat default).w≤_;omega
 have hlw:=Lo (x.workers.getD w.toNat default)
 repeat refine B2 ?_
 refine T0 A0 rfl rfl rfl rfl rfl (jn:=w.toNat) rfl (r:=Ab.c ((x.workers).getD (w.toNat) default)) rfl hk rfl rfl (fun u=>go A0 false ?_);conv=>whnf
 refine ⟨fun h3=>?_,fun h3=>?_⟩<;>conv=>whnf
 ·have h3:¬ (A8 x w).staged.length=0:=by have:=of_decide_eq_true h3;simp only [A8];omega
  repeat refine B2 ?_
  rw [T8 h1 hk (fun p=>h3 p.2.2.1)];refine Fp Tryz.prog 7 (w.toNat) [(0,11),(1,12),(2,13),(3,14),(4,15),(5,16),(6,17),(7,18)] (Ar x.workers) hk rfl rfl H3 rfl (D8 rfl) ?_;exact C3 A0 () trivial rfl rfl rfl rfl B0
 have h3:(A8 x w).staged.length=0:=by have:=of_decide_eq_false h3;simp only [A8];omega
 repeat refine B2 ?_
 refine ⟨fun h4=>have h4:=eq_of_beq h4;?_,fun h4=>have h4:=beq_eq_false_iff_ne.1 h4;?_⟩<;>conv=>whnf
 ·repeat refine B2 ?_
  rw [T8 h1 hk (fun p=>by have:=p.2.2.2;simp only [A8] at this;omega)];refine Fp Tryz.prog 7 (w.toNat) [(0,11),(1,12),(2,13),(3,14),(4,15),(5,16),(6,17),(7,18)] (Ar x.workers) hk rfl rfl H3 rfl (D8 rfl) ?_;exact C3 A0 () trivial rfl rfl rfl rfl B0
 have h4:0<(x.workers.getD w.toNat default).queue.length:=by omega
 have hP:Qu x.graph (A8 x w):=⟨hC.1.1,hWP,h3,h4⟩;have hR:=hWP.1.1 _ (At (d:=default) h4);have hE:=hR.1.2.1;have hcl:(x.workers.getD w.toNat default).caps.length=4:=hWP.2.1.2.2;have hc:((x.workers.getD w.toNat default).queue.getD 0 default).stamp.epoch.toNat<(x.workers.getD w.toNat default).caps.length:=by omega
 repeat refine B2 ?_
 first|(refine Ax 7 rfl [0,1,2,3,4,5,6,7,8,9,10,11,12,13,14,15] A6 (A7 ?_))|(refine Ax 11 rfl [0,1,2,3,4,5,6] A6 (A7 ?_))|(refine Ax 13 rfl [0,1,2,3,4,5,6,7,8] A6 (A7 ?_))
 refine Bd (A2k x.graph (x.workers.getD w.toNat default).cells ((x.workers.getD w.toNat default).queue.getD 0 default) Ad Ad) rfl (A7 ?_);refine Xh A0 rfl rfl rfl rfl rfl rfl rfl rfl (l:=1) rfl rfl (⟨by omega,by omega,by omega⟩) (Af ((x.workers.getD w.toNat default).queue.drop 1)) (Fq (k:=1) h4) (A7 ?_);refine Bj A0 rfl rfl rfl rfl rfl rfl rfl rfl rfl rfl rfl (Af ((x.workers.getD w.toNat default).queue.drop 1)) (C9) (fun _=>G5 _) (by (rw [List.length_drop];omega)) (A7 ?_)
 first|(refine Ax 7 rfl [0,1,2,3,4,5,6,7,8,9,10,11,12,13,14,15] A6 (A7 ?_))|(refine Ax 11 rfl [0,1,2,3,4,5,6] A6 (A7 ?_))|(refine Ax 13 rfl [0,1,2,3,4,5,6,7,8] A6 (A7 ?_))
 refine As (A2f x.graph ((x.workers.getD w.toNat default).queue.getD 0 default) Ad) rfl (A7 ?_);refine ⟨fun h5=>?_,fun h5=>?_⟩<;>conv=>whnf
 ·have h5:capped x.graph ((A8 x w).queue.getD 0 default)=true:=h5
  refine ⟨by (show 0≤((x.workers.getD w.toNat default).queue.getD 0 default).stamp.epoch∧((x.workers.getD w.toNat default).queue.getD 0 default).stamp.epoch<(x.workers.getD w.toNat default).caps.length;omega),?_⟩
  conv=>whnf
  refine Bv (j:=((x.workers.getD w.toNat default).queue.getD 0 default).stamp.epoch) A0 rfl rfl rfl rfl rfl rfl rfl rfl (Dw ((x.workers.getD w.toNat default).caps.set ((x.workers.getD w.toNat default).queue.getD 0 default).stamp.epoch.toNat true)) (Ck hc rfl) (A7 ?_)
  first|(refine Ax 7 rfl [0,1,2,3,4,5,6,7,8,9,10,11,12,13,14,15] A6 (A7 ?_))|(refine Ax 11 rfl [0,1,2,3,4,5,6] A6 (A7 ?_))|(refine Ax 13 rfl [0,1,2,3,4,5,6,7,8] A6 (A7 ?_))
  (repeat refine Ap ?_);refine Bv (j:=w) A0 rfl rfl rfl rfl rfl rfl rfl rfl (Ar (x.workers.set w.toNat (F9 x.graph (A8 x w)))) (G6 hk (by rw [F9,if_pos h5];rfl)) (A7 ?_);rw [T7 h1 hP];exact C3 A0 () trivial rfl rfl rfl rfl B0
 have h5:capped x.graph ((A8 x w).queue.getD 0 default)=false:=h5
 first|(refine Ax 7 rfl [0,1,2,3,4,5,6,7,8,9,10,11,12,13,14,15] A6 (A7 ?_))|(refine Ax 11 rfl [0,1,2,3,4,5,6] A6 (A7 ?_))|(refine Ax 13 rfl [0,1,2,3,4,5,6,7,8] A6 (A7 ?_))
 (repeat refine Ap ?_);refine Bv (j:=w) A0 rfl rfl rfl rfl rfl rfl rfl rfl (Ar (x.workers.set w.toNat (F9 x.graph (A8 x w)))) (G6 hk (by rw [F9,if_neg (by rw [h5];decide)];rfl)) (A7 ?_);rw [T7 h1 hP];exact C3 A0 () trivial rfl rfl rfl rfl B0
set_option maxHeartbeats 8000000 in
theorem B56 (x:A3)(w:Int)(h:x.w≤16000000):E3 Tryz.prog (fun _=>True) 160 [] (rc x) [.one (vi w)] (fun _:Unit=>True) (fun _=>X6 (D9 x w).1 (Bf x)) (fun _=>[.one (vb (D9 x w).2)]):=by
 refine Em A0 false Tryz.func160 rfl B5 fun B b hH hp=>?_;conv=>whnf
 refine Ay (B13 x w h) hH hp rfl B0 rfl rfl (fun r hr=>go A0 false ?_);conv=>whnf
 refine ⟨fun h1=>?_,fun h1=>?_⟩<;>conv=>whnf
 ·have h1:¬ Gm x w:=of_decide_eq_false (by simpa using h1)
  repeat refine B2 ?_
  rw [Vj h1];exact C3 A0 () trivial rfl rfl rfl rfl B0
 have h1:Gm x w:=of_decide_eq_true (show decide (Gm x w)=true by simpa using h1)
 have hC:=h1.1;have hb:=h1.2;have hk:w.toNat<x.workers.length:=by omega
 have hw:=A3.worker_le h hk;have hg:=Pt h;have hWP:=hC.2.1 _ (At (d:=default) hk);have hww:(A8 x w).w≤16000000:=by show (x.workers.getD w.toNat default).w≤_;omega
 have hlw:=Lo (x.workers.getD w.toNat default)
 repeat refine B2 ?_
 refine T0 A0 rfl rfl rfl rfl rfl (jn:=w.toNat) rfl (r:=Ab.c ((x.workers).getD (w.toNat) default)) rfl hk rfl rfl (fun u=>go A0 false ?_);conv=>whnf
 refine ⟨fun h3=>?_,fun h3=>?_⟩<;>conv=>whnf
 ·have h3:¬ (A8 x w).staged.length=0:=by have:=of_decide_eq_true h3;simp only [A8];omega
  repeat refine B2 ?_
  rw [N9 h1 hk (fun p=>h3 p.2.2.1)];refine Fp Tryz.prog 7 (w.toNat) [(0,11),(1,12),(2,13),(3,14),(4,15),(5,16),(6,17),(7,18)] (Ar x.workers) hk rfl rfl H3 rfl (D8 rfl) ?_;exact C3 A0 () trivial rfl rfl rfl rfl B0
 have h3:(A8 x w).staged.length=0:=by have:=of_decide_eq_false h3;simp only [A8];omega
 repeat refine B2 ?_
 refine ⟨fun h4=>?_,fun h4=>?_⟩<;>conv=>whnf
 ·have h4:¬ (A8 x w).queue.length=0:=by have:=of_decide_eq_true h4;simp only [A8];omega
  repeat refine B2 ?_
  rw [N9 h1 hk (fun p=>h4 p.2.2.2.1)];refine Fp Tryz.prog 7 (w.toNat) [(0,11),(1,12),(2,13),(3,14),(4,15),(5,16),(6,17),(7,18)] (Ar x.workers) hk rfl rfl H3 rfl (D8 rfl) ?_;exact C3 A0 () trivial rfl rfl rfl rfl B0
 have h4:(A8 x w).queue.length=0:=by have:=of_decide_eq_false h4;simp only [A8];omega
 repeat refine B2 ?_
 refine ⟨fun h5=>have h5:=eq_of_beq h5;?_,fun h5=>have h5:=beq_eq_false_iff_ne.1 h5;?_⟩<;>conv=>whnf
 ·repeat refine B2 ?_
  rw [N9 h1 hk (fun p=>by have:=p.2.2.2.2;simp only [A8] at this;omega)];refine Fp Tryz.prog 7 (w.toNat) [(0,11),(1,12),(2,13),(3,14),(4,15),(5,16),(6,17),(7,18)] (Ar x.workers) hk rfl rfl H3 rfl (D8 rfl) ?_;exact C3 A0 () trivial rfl rfl rfl rfl B0
 have h5:0<(x.workers.getD w.toNat default).inputs.length:=by omega
 have hP:O4 x.graph (A8 x w):=⟨hC.1.1,hWP,h3,h4,h5⟩;have hq0:(A8 x w).queue=[]:=List.eq_nil_of_length_eq_zero h4
 repeat refine B2 ?_
 refine Es 20 (Af [(x.workers.getD w.toNat default).inputs.getD 0 default]) rfl (Bu rfl C2) ?_;refine Xh A0 rfl rfl rfl rfl rfl rfl rfl rfl (l:=1) rfl rfl (⟨by omega,by omega,by omega⟩) (Af ((x.workers.getD w.toNat default).inputs.drop 1)) (Fq (k:=1) h5) (A7 ?_);refine Bj A0 rfl rfl rfl rfl rfl rfl rfl rfl rfl rfl rfl (Af ((x.workers.getD w.toNat default).inputs.drop 1)) (C9) (fun _=>G5 _) (by (rw [List.length_drop];omega)) (A7 ?_)
 first|(refine Ax 8 rfl [0,1,2,3,4,5,6,7,8] A6 (A7 ?_))
 (repeat refine Ap ?_);refine Bv (j:=w) A0 rfl rfl rfl rfl rfl rfl rfl rfl (Ar (x.workers.set w.toNat (I7 (A8 x w)))) (G6 hk (by rw [I7,hq0];rfl)) (A7 ?_);rw [A1v h1 hP];exact C3 A0 () trivial rfl rfl rfl rfl B0
set_option maxHeartbeats 8000000 in
theorem B11 (x:A3)(f t:Int)(h:x.w≤16000000)(og:Gk .i64 x.graph.workers):E3 Tryz.prog (fun _=>True) 163 [] (rc x) [.one (vi f),.one (vi t)] (fun _:Unit=>True) (fun _=>X6 (D4 x f t).1 (Bf x)) (fun _=>[.one (vb (D4 x f t).2)]):=by
 refine Em A0 false Tryz.func163 rfl B5 fun B b hH hp=>?_;conv=>whnf
 refine As (Od x.graph f t og) rfl (A7 ?_);refine ⟨fun hok=>?_,fun hok=>?_⟩<;>conv=>whnf
 ·have hok:¬ B7 x:=of_decide_eq_false (show Bf x=false by simpa using hok)
  repeat refine B2 ?_
  rw [Jg (fun p=>hok p.1)];exact C3 A0 () trivial rfl rfl rfl rfl B0
 have hC:B7 x:=of_decide_eq_true (show Bf x=true by simpa using hok)
 by_cases hne:f=t
 ·repeat refine B2 ?_
  refine ⟨fun hz=>?_,fun hz=>?_⟩<;>conv=>whnf
  ·repeat refine B2 ?_
   rw [Jg (fun p=>p.2.1 hne)];exact C3 A0 () trivial rfl rfl rfl rfl B0
  repeat refine B2 ?_
  refine ⟨fun hft=>have hft:=eq_of_beq hft;?_,fun hft=>have hft:=beq_eq_false_iff_ne.1 hft;?_⟩<;>conv=>whnf
  ·repeat refine B2 ?_
   rw [Jg (fun p=>p.2.1 hne)];exact C3 A0 () trivial rfl rfl rfl rfl B0
  exact absurd hne hft
 rw [A1h hC hne]
 cases hLd:decide (L0 x f t)
 ·have hL:¬ L0 x f t:=of_decide_eq_false hLd
  rw [Lb,if_neg hL]
  repeat refine B2 ?_
  rw [Jg hL];exact C3 A0 () trivial rfl rfl rfl rfl B0
 have hL:L0 x f t:=of_decide_eq_true hLd;have hln:=Mn hC hL.2.2.1 hL.2.2.2;have hlk:(Ao x f t).toNat<x.links.length:=by omega
 have hlw:=A3.link_le h hlk;rw [Lb,if_pos hL]
 repeat refine B2 ?_
 refine ⟨fun hz=>?_,fun hz=>?_⟩<;>conv=>whnf
 ·have:=of_decide_eq_true hz
  omega
 repeat refine B2 ?_
 refine ⟨fun hft=>have hft:=eq_of_beq hft;?_,fun hft=>have hft:=beq_eq_false_iff_ne.1 hft;?_⟩<;>conv=>whnf
 ·exact absurd hft hne
 repeat refine B2 ?_
 refine T0 A0 rfl rfl rfl rfl rfl (jn:=(Ao x f t).toNat) rfl (r:=Ca.c ((x.links).getD ((Ao x f t).toNat) default)) rfl hlk rfl rfl (fun u=>go A0 false ?_);conv=>whnf
 refine Bd (Rw (Ba x (Ao x f t)) (by show (x.links.getD _ default).w≤_;omega)) rfl (A7 ?_)
 first|(refine Ax 5 rfl [0,1,2,3,4,5,6,7,8] A6 (A7 ?_))
 (repeat refine Ap ?_);refine Bv (j:=(Ao x f t)) A0 rfl rfl rfl rfl rfl rfl rfl rfl (C4 (x.links.set (Ao x f t).toNat (Ce (Ba x (Ao x f t))).1)) (G6 hlk rfl) (A7 ?_);rw [Rh hL];exact C3 A0 () trivial rfl rfl rfl rfl B0
theorem A95 (n:Int):E6 n (-1000000) 1000000=decide (Hf n):=by
 rw [Bool.eq_iff_iff,Go.Sx.Al,decide_eq_true_eq];exact Iff.rfl
theorem C0i {c:A3}{f t:Int}(h:B7 c)(h2:(Ct c f t).2=true):Bf (Ct c f t).1=decide (Hf (Z0 c f t)):=by
 rw [Y0 h,if_pos h2]
theorem Z2 {c:A3}{t:Int}{W:Ab}(hk:t.toNat<c.workers.length):A8 (Av c t W) t=W:=by
 unfold A8 Av;exact Sx.getD_set_self _ _ _ _ hk
theorem Mp {c:A3}{t:Int}{W V:Ab}:Av (Av c t W) t V=Av c t V:=by
 unfold Av;rw [List.set_set]
set_option maxHeartbeats 8000000 in
theorem C0a (x:A3)(f t:Int)(h:x.w≤8000000)(og:Gk .i64 x.graph.workers):E3 Tryz.prog (fun _=>True) 162 [] (rc x) [.one (vi f),.one (vi t)] (fun _:Unit=>True) (fun _=>rc (Ct x f t).1) (fun _=>[.one (vb (Ct x f t).2)]):=by
 have h8:=h;have h:x.w≤16000000:=by omega
 refine Em A0 false Tryz.func162 rfl B5 fun B b hH hp=>?_;conv=>whnf
 refine As (Od x.graph f t og) rfl (A7 ?_);refine ⟨fun hok=>?_,fun hok=>?_⟩<;>conv=>whnf
 ·have hok:¬ B7 x:=of_decide_eq_false (show Bf x=false by simpa using hok)
  repeat refine B2 ?_
  rw [M0 (fun p=>hok p.1)];exact C3 A0 () trivial rfl rfl rfl rfl B0
 have hC:B7 x:=of_decide_eq_true (show Bf x=true by simpa using hok)
 by_cases hne:f=t
 ·repeat refine B2 ?_
  refine ⟨fun hz=>?_,fun hz=>?_⟩<;>conv=>whnf
  ·repeat refine B2 ?_
   rw [M0 (fun p=>p.2.1 hne)];exact C3 A0 () trivial rfl rfl rfl rfl B0
  repeat refine B2 ?_
  refine ⟨fun hft=>have hft:=eq_of_beq hft;?_,fun hft=>have hft:=beq_eq_false_iff_ne.1 hft;?_⟩<;>conv=>whnf
  ·repeat refine B2 ?_
   rw [M0 (fun p=>p.2.1 hne)];exact C3 A0 () trivial rfl rfl rfl rfl B0
  exact absurd hne hft
 rw [A1h hC hne]
 cases hLd:decide (L0 x f t)
 ·have hL:¬ L0 x f t:=of_decide_eq_false hLd
  rw [Lb,if_neg hL]
  repeat refine B2 ?_
  rw [M0 hL];exact C3 A0 () trivial rfl rfl rfl rfl B0
 have hL:L0 x f t:=of_decide_eq_true hLd;have hln:=Mn hC hL.2.2.1 hL.2.2.2;have hlk:(Ao x f t).toNat<x.links.length:=by omega
 have hlw:=A3.link_le h hlk;rw [Lb,if_pos hL]
 repeat refine B2 ?_
 refine ⟨fun hz=>?_,fun hz=>?_⟩<;>conv=>whnf
 ·have:=of_decide_eq_true hz
  omega
 repeat refine B2 ?_
 refine ⟨fun hft=>have hft:=eq_of_beq hft;?_,fun hft=>have hft:=beq_eq_false_iff_ne.1 hft;?_⟩<;>conv=>whnf
 ·exact absurd hft hne
 repeat refine B2 ?_
 refine T0 A0 rfl rfl rfl rfl rfl (jn:=(Ao x f t).toNat) rfl (r:=Ca.c ((x.links).getD ((Ao x f t).toNat) default)) rfl hlk rfl rfl (fun u=>go A0 false ?_);conv=>whnf
 refine Bd (W1 (Ba x (Ao x f t)) (by show (x.links.getD _ default).w≤_;omega)) rfl (A7 ?_)
 refine ⟨fun h4=>?_,fun h4=>?_⟩<;>conv=>whnf
 ·have h4:(Bc (Ba x (Ao x f t))).2.2=false:=by simpa using h4
  repeat refine B2 ?_
  rw [T6 h4];refine Fp Tryz.prog 3 ((Ao x f t).toNat) [(1,6)] (C4 x.links) hlk rfl rfl H3 rfl (D8 rfl) ?_;exact C3 A0 () trivial rfl rfl rfl rfl B0
 have h4:(Bc (Ba x (Ao x f t))).2.2=true:=by simpa using h4
 have hT:0<(Ba x (Ao x f t)).queue.length:=by
  rcases Nat.eq_zero_or_pos (Ba x (Ao x f t)).queue.length with e|e
  ·rw [Sn (fun p=>by omega)] at h4;cases h4
  exact e
 have hLA:=hC.2.2.1 _ hlk;have hLP:Gn (Ba x (Ao x f t)):=hLA.1;have hrec:(Bc (Ba x (Ao x f t))).2.1=(Ba x (Ao x f t)).queue.getD 0 default:=by rw [W5 ⟨hLP,hT⟩]
 have hRP:H2 (Bc (Ba x (Ao x f t))).2.1:=by rw [hrec];exact hLP.2 _ (At hT)
 have hb:=hL.2.2.2;have hwl:=hC.1.2.1;have hk:t.toNat<x.workers.length:=by omega
 have hw:=A3.worker_le h8 hk;have hWP:=hC.2.1 _ (At (d:=default) hk);have hql:=(Lo (x.workers.getD t.toNat default)).1;have hyes:=Vl hL h4;have hfl:=C0i hC (show (Ct x f t).2=true by rw [hyes])
 repeat refine B2 ?_
 first|(refine Ax 7 rfl [0,1,2,3,4,5,6,7,8] A6 (A7 ?_))|(refine Ax 8 rfl [0,1,2,3,4,5,6,7,8,9,10,11,12,13,14,15,16,17,18,19,20] A6 (A7 ?_))|(refine Ax 9 rfl [0,1,2,3,4,5,6,7,8,9,10,11,12,13] A6 (A7 ?_))
 (repeat refine Ap ?_);refine Bv (j:=(Ao x f t)) A0 rfl rfl rfl rfl rfl rfl rfl rfl (C4 (x.links.set (Ao x f t).toNat (Bc (Ba x (Ao x f t))).1)) (G6 hlk rfl) (A7 ?_);generalize hR:(Bc (Ba x (Ao x f t))).2.1=R at *;generalize hLk:(Bc (Ba x (Ao x f t))).1=LK at *;refine Ty 0 3 2 rfl rfl (fun v2=>?_);refine A1l 0 3 rfl rfl (fun ho_v2=>?_);refine H0 rfl ?_;refine Bp A0 false 0 rfl rfl A6 rfl (A4 Br) ?_;refine Bp A0 false 1 rfl rfl A6 rfl (A4 Br) ?_;refine Bp A0 false 2 rfl rfl A6 rfl (A4 Br) ?_;refine Bp A0 false 3 rfl rfl A6 rfl (A4 Br) ?_;refine Bp A0 false 5 rfl rfl A6 rfl (A4 Br) ?_;refine Bp A0 false 6 rfl rfl A6 rfl (A4 Br) ?_;refine Bp A0 false 7 rfl rfl A6 rfl (A4 Br) ?_;refine Bp A0 false 8 rfl rfl A6 rfl (A4 Br) ?_;refine Bp A0 false 9 rfl rfl A6 rfl (A4 Br) ?_;refine Bp A0 false 11 rfl rfl A6 rfl (A4 Br) ?_;refine Cl (s':=?_) 10 rfl A6 ?_ ?_;rotate_left;refine A7 ?_;refine Gd 66 2 rfl rfl (A7 ?_);(repeat refine Ap ?_);exact B6
 refine Cl (s':=?_) 12 rfl A6 ?_ ?_;rotate_left;refine A7 ?_;(repeat refine Ap ?_);exact B6
 refine Bp A0 false 13 rfl rfl A6 rfl (A4 Br) ?_;refine Rl (α:=Value) (s':=?_) 14 rfl A6 ?_ ?_;rotate_left;refine A7 ?_;refine Jq A0 rfl rfl rfl rfl rfl rfl (jn:=t.toNat) rfl rfl rfl (fun v=>go A0 false ?_);conv=>whnf
 exact Xp v
 intro v;refine Cl (s':=?_) 15 rfl A6 ?_ ?_;rotate_left;refine A7 ?_;(repeat refine Ap ?_);exact B6
 refine Kz [16,17,18,19,20] [⟨4,60,.rd v2⟩] A6 ?_;refine Bl (s':=?_) A0 rfl A6 E8 ?_ ?_;rotate_left;refine A7 ?_;(repeat refine Ap ?_);exact B6
 refine Bl (s':=?_) A0 rfl A6 E8 ?_ ?_;rotate_left;refine A7 ?_;refine Bj A0 rfl rfl rfl rfl rfl rfl rfl rfl rfl rfl rfl (Af ((x.workers.getD t.toNat default).queue++[R])) (An rfl) C6 Ad (A7 ?_);exact B6
 refine Bl (s':=?_) A0 rfl A6 E8 ?_ ?_;rotate_left;refine A7 ?_;refine Gd 60 2 rfl rfl (A7 ?_);(repeat refine Ap ?_);exact B6
 refine Bl (s':=?_) A0 rfl A6 E8 ?_ ?_;rotate_left;refine A7 ?_;(repeat refine Ap ?_);exact B6
 refine Bl (s':=?_) A0 rfl A6 E8 ?_ ?_;rotate_left;refine A7 ?_;refine Bv (j:=t) A0 rfl rfl rfl rfl rfl rfl rfl rfl (Ar (Av x t (kept (A8 x t) R)).workers) (G6 hk rfl) (A7 ?_);exact B6
 refine Jf A0 A6 E8 (GW.out (G3 ?_));conv=>whnf
 refine Tv 0 3 2 rfl rfl rfl ?_;have hsl:(Av x t (kept (A8 x t) R)).workers.length=x.workers.length:=List.length_set;have hk1:t.toNat<(Av x t (kept (A8 x t) R)).workers.length:=by omega
 have hg1:(Av x t (kept (A8 x t) R)).workers.getD t.toNat default=kept (A8 x t) R:=Z2 hk;have hbl:((Av x t (kept (A8 x t) R)).workers.getD t.toNat default).black.length=4:=by rw [hg1];exact hWP.2.1.2.1
 have hE:=hRP.2.1;have hbk:R.stamp.epoch.toNat<((Av x t (kept (A8 x t) R)).workers.getD t.toNat default).black.length:=by omega
 first|(refine Ax 7 rfl [0,1,2,3,4,5,6,7,8] A6 (A7 ?_))|(refine Ax 8 rfl [0,1,2,3,4,5,6,7,8,9,10,11,12,13,14,15,16,17,18,19,20] A6 (A7 ?_))|(refine Ax 9 rfl [0,1,2,3,4,5,6,7,8,9,10,11,12,13] A6 (A7 ?_))
 (repeat refine Ap ?_);refine Jq A0 rfl rfl rfl rfl rfl rfl (jn:=t.toNat) rfl rfl rfl (fun v3=>go A0 false ?_);conv=>whnf
 (repeat refine Ap ?_);refine Bv (j:=R.stamp.epoch) A0 rfl rfl rfl rfl rfl rfl rfl rfl (Dw (((Av x t (kept (A8 x t) R)).workers.getD t.toNat default).black.set R.stamp.epoch.toNat true)) (Ck hbk rfl) (A7 ?_);refine B10 2 (t.toNat) [(5,13)] (Ar (Av (Av (Bi x (Ao x f t) LK) t (kept (A8 x t) R)) t (Hw (kept (A8 x t) R) R.stamp.epoch)).workers) hk1 rfl rfl H3 rfl (Gq hk1 (by rw [hg1];rfl)) ?_;have hk0:t.toNat<(Bi x (Ao x f t) LK).workers.length:=hk;have hk2:t.toNat<(Av (Av (Bi x (Ao x f t) LK) t (kept (A8 x t) R)) t (Hw (kept (A8 x t) R) R.stamp.epoch)).workers.length:=by rw [Mp];show t.toNat<(x.workers.set _ _).length;rw [List.length_set];exact hk
 have hw2:A8 (Av (Av (Bi x (Ao x f t) LK) t (kept (A8 x t) R)) t (Hw (kept (A8 x t) R) R.stamp.epoch)) t=Hw (kept (A8 x t) R) R.stamp.epoch:=by rw [Mp];exact Z2 hk0
 have hs4:(A8 x t).sums.length=4:=hWP.2.1.1;refine Ay (B31 (Av (Av (Bi x (Ao x f t) LK) t (kept (A8 x t) R)) t (Hw (kept (A8 x t) R) R.stamp.epoch)) (Bf x) t R.stamp.epoch (-1) Ad hk2 Ad (by rw [hw2];show R.stamp.epoch.toNat<(A8 x t).sums.length;omega) (by rw [hw2];exact hWP.2.2.2.1 _ (At (by show R.stamp.epoch.toNat<(A8 x t).sums.length;omega))) B5) hH hp rfl B0 rfl rfl (fun r hr=>go A0 false ?_)
 conv=>whnf
 rw [hw2,Mp,Mp];have hcs:Bf x=true:=decide_eq_true hC
 have hz:rc (Ct x f t).1=X6 (Av (Bi x (Ao x f t) LK) t (Fk (Hw (kept (A8 x t) R) R.stamp.epoch) R.stamp.epoch (-1))) (Bf x&&E6 ((Hw (kept (A8 x t) R) R.stamp.epoch).sums.getD R.stamp.epoch.toNat default+ -1) (-1000000) 1000000):=by
  show X6 (Ct x f t).1 (Bf (Ct x f t).1)=_
  rw [hfl,hyes,hcs,Bool.true_and,A95,Y4 (w:=A8 x t) hWP.2.1.1 hWP.2.1.2.1 hE]
  show X6 _ (decide (Hf ((A8 x t).sums.getD (Hq x f t).stamp.epoch.toNat default+ -1)))=_
  rw [show Hq x f t=R from hR]
  rfl
 rw [hz,hyes];exact C3 A0 () trivial rfl rfl rfl rfl B0
end Go.Proofs.YtdendlkeiaccpaaGreat
