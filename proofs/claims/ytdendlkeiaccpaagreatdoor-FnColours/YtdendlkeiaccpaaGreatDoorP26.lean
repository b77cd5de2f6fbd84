/- Part 26 of the proof that each of the laws FnColours returns true for every input. No conditions. -/
import Derived.Test.YtdendlkeiaccpaaGreatDoorP4
import Derived.Test.YtdendlkeiaccpaaGreatDoorP6
import Derived.Test.YtdendlkeiaccpaaGreatDoorP25
import Derived.Test.YtdendlkeiaccpaaGreatDoorP19

set_option linter.unusedSimpArgs false
set_option linter.unusedVariables false
set_option maxRecDepth 100000
namespace Go.Proofs.YtdendlkeiaccpaaGreatDoor
open Go.Sx
theorem Vp {α:Type} [Inhabited α] {es:Nat}{e:α→List Af}{xs:List α}{m:Nat}(hm:m≤xs.length):Hk (.sl m es fun i=>e (xs.getD i default)) (Kq es e (xs.take m)):=by
 have hl:(xs.take m).length=m:=by rw [List.length_take];omega
 refine ⟨hl,rfl,fun i hi=>?_⟩
 have:(xs.take m).getD i default=xs.getD i default:=by
  simp [List.getD,hi]
 show Gi _ (e ((xs.take m).getD i default))
 rw [this]
 exact Gi.rfl' _
theorem Uk {x y:Aa}(h:x.w≤44)(hw:y.w≤x.w+8):y.w≤100:=by omega
set_option maxHeartbeats 4000000 in
theorem N7 (d:E4)(i h:Int)(g:Aq)(hi:0≤i∧i≤d.n)(hg:g.w≤1000):Dd Tryz.prog HT 120 d.pins (d.cur i h) [.agg g.c] (fun r:Int×Int×Aa=>(0≤r.1∧r.1≤d.n)∧r.2.2.w≤100∧V7 r.2.2) (fun r=>d.cur r.1 r.2.1) (fun r=>[.agg r.2.2.c]):=by
 refine Dp A0 false Tryz.func120 rfl Az fun B b hH hp=>?_
 conv=>whnf
 refine Ak (A5l d i h g hi hg) hH hp rfl B1 rfl rfl (fun r hr=>go A0 false ?_)
 conv=>whnf
 obtain ⟨hr0,hx⟩:=hr
 have hxw:r.2.2.w≤44:=hx.w
 have hws:=Mt r.2.2
 have hs4:=hx.s4
 refine Ak (Ai d r.1 r.2.1 16 hr0 Az) hH hp rfl B1 rfl rfl (fun t ht=>go A0 false ?_)
 conv=>whnf
 refine ⟨fun c0=>?_,fun c0=>?_⟩<;>conv=>whnf
 ·refine Fx rfl ?_
  repeat' (first
    |(first|refine Ao A0 false 0 rfl rfl rfl (by decide+kernel) rfl (A5 Bb) ?_|refine Ao A0 false 2 rfl rfl rfl (by decide+kernel) rfl (A5 Bb) ?_|refine Ao A0 false 6 rfl rfl rfl (by decide+kernel) rfl (A5 Bb) ?_)
    |((first|refine A4 [1,3] (by decide+kernel) ⟨?_,?_,trivial⟩|refine A4 [3] (by decide+kernel) ⟨?_,trivial⟩|refine A4 [4] (by decide+kernel) ⟨?_,trivial⟩|refine A4 [5] (by decide+kernel) ⟨?_,trivial⟩|refine A4 [7] (by decide+kernel) ⟨?_,trivial⟩|refine A4 [1,4] (by decide+kernel) ⟨?_,?_,trivial⟩|refine A4 [1] (by decide+kernel) ⟨?_,trivial⟩)<;>(refine go A0 false ?_;(conv=>whnf);(first|(refine Ak (Rj d t.1 t.2.1 ht.1) hH hp rfl B1 rfl rfl (fun r9 hr9=>go A0 false ?_);(conv=>whnf))|(refine B6 A0 rfl rfl rfl rfl rfl rfl rfl rfl rfl rfl rfl (Ag (r.2.2.queue++[r9.2.2])) (Ad rfl) Bp Ac (I5 ?_);(conv=>whnf))|(repeat (refine Ex ?_;(conv=>whnf))));refine A6 ?_))
    |refine B2 (by decide+kernel) (O4.out ?_))
  all_goals
   refine O4.mk (A8 ?_)
  all_goals
   exact Bu A0 (r9.1,r9.2.1,⟨r.2.2.queue++[r9.2.2],r.2.2.staged,r.2.2.inputs,r.2.2.cells,r.2.2.sums,r.2.2.black,r.2.2.caps,r.2.2.dones⟩) ⟨hr9.1,Uk hxw B1k,B7m hx.o (J9 hx.o.q hr9.2)⟩ rfl rfl rfl rfl B1
 repeat refine Bd ?_
 refine ⟨fun c1=>?_,fun c1=>?_⟩<;>conv=>whnf
 ·refine Fx rfl ?_
  repeat' (first
    |(first|refine Ao A0 false 0 rfl rfl rfl (by decide+kernel) rfl (A5 Bb) ?_|refine Ao A0 false 2 rfl rfl rfl (by decide+kernel) rfl (A5 Bb) ?_|refine Ao A0 false 6 rfl rfl rfl (by decide+kernel) rfl (A5 Bb) ?_)
    |((first|refine A4 [1,3] (by decide+kernel) ⟨?_,?_,trivial⟩|refine A4 [3] (by decide+kernel) ⟨?_,trivial⟩|refine A4 [4] (by decide+kernel) ⟨?_,trivial⟩|refine A4 [5] (by decide+kernel) ⟨?_,trivial⟩|refine A4 [7] (by decide+kernel) ⟨?_,trivial⟩|refine A4 [1,4] (by decide+kernel) ⟨?_,?_,trivial⟩|refine A4 [1] (by decide+kernel) ⟨?_,trivial⟩)<;>(refine go A0 false ?_;(conv=>whnf);(first|(refine Ak (Qs d t.1 t.2.1 ht.1) hH hp rfl B1 rfl rfl (fun r9 hr9=>go A0 false ?_);(conv=>whnf))|(refine B6 A0 rfl rfl rfl rfl rfl rfl rfl rfl rfl rfl rfl (Ag (r.2.2.inputs++[r9.2.2])) (Ad rfl) Bp Ac (I5 ?_);(conv=>whnf))|(repeat (refine Ex ?_;(conv=>whnf))));refine A6 ?_))
    |refine B2 (by decide+kernel) (O4.out ?_))
  all_goals
   refine O4.mk (A8 ?_)
  all_goals
   exact Bu A0 (r9.1,r9.2.1,⟨r.2.2.queue,r.2.2.staged,r.2.2.inputs++[r9.2.2],r.2.2.cells,r.2.2.sums,r.2.2.black,r.2.2.caps,r.2.2.dones⟩) ⟨hr9.1,Uk hxw B1k,B9j hx.o (J9 hx.o.i hr9.2.2)⟩ rfl rfl rfl rfl B1
 repeat refine Bd ?_
 refine ⟨fun c2=>?_,fun c2=>?_⟩<;>conv=>whnf
 ·refine Fx rfl ?_
  repeat' (first
    |(first|refine Ao A0 false 0 rfl rfl rfl (by decide+kernel) rfl (A5 Bb) ?_|refine Ao A0 false 2 rfl rfl rfl (by decide+kernel) rfl (A5 Bb) ?_|refine Ao A0 false 5 rfl rfl rfl (by decide+kernel) rfl (A5 Bb) ?_)
    |((first|refine A4 [1,3] (by decide+kernel) ⟨?_,?_,trivial⟩|refine A4 [3] (by decide+kernel) ⟨?_,trivial⟩|refine A4 [4] (by decide+kernel) ⟨?_,trivial⟩|refine A4 [6] (by decide+kernel) ⟨?_,trivial⟩|refine A4 [1] (by decide+kernel) ⟨?_,trivial⟩)<;>(refine go A0 false ?_;(conv=>whnf);(first|(refine Ak (Ai d t.1 t.2.1 4 ht.1 Az) hH hp rfl B1 rfl rfl (fun r9 hr9=>go A0 false ?_);(conv=>whnf);have hk9:=hr9.2.2.2 Az;have hk8:=hr9.2.1)|(refine B33 A0 rfl rfl rfl rfl rfl rfl rfl rfl rfl ⟨hk8,by omega⟩ Ac _ rfl (I5 ?_);(conv=>whnf))|(repeat (refine Ex ?_;(conv=>whnf))));refine A6 ?_))
    |refine B2 (by decide+kernel) (O4.out ?_))
  all_goals
   refine O4.mk (A8 ?_)
  all_goals
   refine Ml 12 (Au (r.2.2.sums.take r9.2.2.toNat)) rfl (Vp (es:=1) (e:=fun n=>[vi n]) (xs:=r.2.2.sums) (m:=r9.2.2.toNat) Ac) ?_
   exact Bu A0 (r9.1,r9.2.1,⟨r.2.2.queue,r.2.2.staged,r.2.2.inputs,r.2.2.cells,r.2.2.sums.take r9.2.2.toNat,r.2.2.black,r.2.2.caps,r.2.2.dones⟩) ⟨hr9.1,Uk hxw (by simp only [Aa.w,List.length_take];omega),B3o hx.o (A7a hx.o.n)⟩ rfl rfl rfl rfl B1
 repeat refine Bd ?_
 refine ⟨fun c3=>?_,fun c3=>?_⟩<;>conv=>whnf
 ·refine Fx rfl ?_
  repeat' (first
    |(first|refine Ao A0 false 0 rfl rfl rfl (by decide+kernel) rfl (A5 Bb) ?_|refine Ao A0 false 2 rfl rfl rfl (by decide+kernel) rfl (A5 Bb) ?_)
    |((first|refine A4 [1,3] (by decide+kernel) ⟨?_,?_,trivial⟩|refine A4 [3] (by decide+kernel) ⟨?_,trivial⟩|refine A4 [4] (by decide+kernel) ⟨?_,trivial⟩|refine A4 [5] (by decide+kernel) ⟨?_,trivial⟩|refine A4 [6] (by decide+kernel) ⟨?_,trivial⟩|refine A4 [1,4] (by decide+kernel) ⟨?_,?_,trivial⟩|refine A4 [1] (by decide+kernel) ⟨?_,trivial⟩)<;>(refine go A0 false ?_;(conv=>whnf);(first|(refine Fl 12 (Au [1000000,1000001,-1000001]) rfl (Bq rfl (by repeat' (first|exact trivial|exact rfl|refine ⟨?_,?_⟩))) ?_;refine Ak (De d t.1 t.2.1 [1000000,1000001,-1000001] ht.1 Az) hH hp rfl B1 rfl rfl (fun r9 hr9=>go A0 false ?_);(conv=>whnf))|(refine Am (j:=0) A0 rfl rfl rfl rfl rfl rfl rfl rfl _ (C6 (j:=0) (xs:=r.2.2.sums) (e:=fun n=>[vi n]) (x:=[1000000,1000001,-1000001].getD r9.2.2 0) Ac rfl) (I5 ?_);(conv=>whnf))|(repeat (refine Ex ?_;(conv=>whnf))));refine A6 ?_))
    |refine B2 (by decide+kernel) (O4.out ?_))
  all_goals
   refine O4.mk (A8 ?_)
  all_goals
   exact Bu A0 (r9.1,r9.2.1,⟨r.2.2.queue,r.2.2.staged,r.2.2.inputs,r.2.2.cells,r.2.2.sums.set 0 ([1000000,1000001,-1000001].getD r9.2.2 0),r.2.2.black,r.2.2.caps,r.2.2.dones⟩) ⟨hr9.1,Uk hxw (by simp only [Aa.w,List.length_set];omega),B3o hx.o (Rh hx.o.n (Gb _ _ (by intro x hx;simp only [List.mem_cons,List.not_mem_nil,or_false] at hx;show _∧_;omega)))⟩ rfl rfl rfl rfl B1
 repeat refine Bd ?_
 refine ⟨fun c4=>?_,fun c4=>?_⟩<;>conv=>whnf
 ·refine Fx rfl ?_
  repeat' (first
    |(first|refine Ao A0 false 0 rfl rfl rfl (by decide+kernel) rfl (A5 Bb) ?_|refine Ao A0 false 2 rfl rfl rfl (by decide+kernel) rfl (A5 Bb) ?_|refine Ao A0 false 4 rfl rfl rfl (by decide+kernel) rfl (A5 Bb) ?_|refine Ao A0 false 8 rfl rfl rfl (by decide+kernel) rfl (A5 Bb) ?_)
    |((first|refine A4 [1,3] (by decide+kernel) ⟨?_,?_,trivial⟩|refine A4 [3] (by decide+kernel) ⟨?_,trivial⟩|refine A4 [5] (by decide+kernel) ⟨?_,trivial⟩|refine A4 [6] (by decide+kernel) ⟨?_,trivial⟩|refine A4 [7] (by decide+kernel) ⟨?_,trivial⟩|refine A4 [9] (by decide+kernel) ⟨?_,trivial⟩|refine A4 [1,5] (by decide+kernel) ⟨?_,?_,trivial⟩|refine A4 [1,6] (by decide+kernel) ⟨?_,?_,trivial⟩|refine A4 [1] (by decide+kernel) ⟨?_,trivial⟩)<;>(refine go A0 false ?_;(conv=>whnf);(first|(refine Ak (Ai d t.1 t.2.1 6 ht.1 Az) hH hp rfl B1 rfl rfl (fun r9 hr9=>go A0 false ?_);(conv=>whnf))|(refine B6 A0 rfl rfl rfl rfl rfl rfl rfl rfl rfl rfl rfl (G1 (r.2.2.dones++[⟨r9.2.2-1,false⟩])) (Ad rfl) Bp Ac (I5 ?_);(conv=>whnf))|(repeat (refine Ex ?_;(conv=>whnf))));refine A6 ?_))
    |refine B2 (by decide+kernel) (O4.out ?_))
  all_goals
   refine O4.mk (A8 ?_)
  all_goals
   exact Bu A0 (r9.1,r9.2.1,⟨r.2.2.queue,r.2.2.staged,r.2.2.inputs,r.2.2.cells,r.2.2.sums,r.2.2.black,r.2.2.caps,r.2.2.dones++[⟨r9.2.2-1,false⟩]⟩) ⟨hr9.1,Uk hxw B1k,B7l hx.o (J9 hx.o.d (Fb (by have:=hr9.2.1;show _≤r9.2.2-1;omega) (by have:=hr9.2.2.2 Az;show r9.2.2-1≤_;omega)))⟩ rfl rfl rfl rfl B1
 repeat refine Bd ?_
 refine ⟨fun c5=>?_,fun c5=>?_⟩<;>conv=>whnf
 ·refine Ak (Ai d t.1 t.2.1 2 ht.1 Az) hH hp rfl B1 rfl rfl (fun r9 hr9=>go A0 false ?_)
  conv=>whnf
  refine Ml 12 (G1 [⟨1,false⟩,⟨r9.2.2,true⟩]) rfl (Hn rfl A2m) ?_
  exact Bu A0 (r9.1,r9.2.1,⟨r.2.2.queue,r.2.2.staged,r.2.2.inputs,r.2.2.cells,r.2.2.sums,r.2.2.black,r.2.2.caps,[⟨1,false⟩,⟨r9.2.2,true⟩]⟩) ⟨hr9.1,Uk hxw (by simp only [Aa.w,List.length_cons,List.length_nil];omega),B7l hx.o (J9 (p:=Dn.ok) (xs:=[(⟨1,false⟩:Dn)]) (fun y hy=>by rw [List.mem_singleton.1 hy];exact Fb (n:=1) Az Az) (Fb (n:=r9.2.2) (by have:=hr9.2.1;show _≤r9.2.2;omega) (by have:=hr9.2.2.2 Az;show r9.2.2≤_;omega)))⟩ rfl rfl rfl rfl B1
 repeat refine Bd ?_
 refine ⟨fun c6=>?_,fun c6=>?_⟩<;>conv=>whnf
 ·refine B6 A0 rfl rfl rfl rfl rfl rfl rfl rfl rfl rfl rfl (Dq (r.2.2.black++[true])) (Ad rfl) Bp Ac (A8 ?_)
  exact Bu A0 (t.1,t.2.1,⟨r.2.2.queue,r.2.2.staged,r.2.2.inputs,r.2.2.cells,r.2.2.sums,r.2.2.black++[true],r.2.2.caps,r.2.2.dones⟩) ⟨ht.1,Uk hxw B1k,B7k hx.o⟩ rfl rfl rfl rfl B1
 repeat refine Bd ?_
 refine ⟨fun c7=>?_,fun c7=>?_⟩<;>conv=>whnf
 ·refine B6 A0 rfl rfl rfl rfl rfl rfl rfl rfl rfl rfl rfl (Bm (r.2.2.cells++[⟨0,0,0,0⟩])) (Ad rfl) Bp Ac (A8 ?_)
  exact Bu A0 (t.1,t.2.1,⟨r.2.2.queue,r.2.2.staged,r.2.2.inputs,r.2.2.cells++[⟨0,0,0,0⟩],r.2.2.sums,r.2.2.black,r.2.2.caps,r.2.2.dones⟩) ⟨ht.1,Uk hxw B1k,B9i hx.o (J9 hx.o.c ⟨Fb Az Az,Fb Az Az,Fb Az Az,Fb Az Az⟩)⟩ rfl rfl rfl rfl B1
 repeat refine Bd ?_
 exact Bu A0 (t.1,t.2.1,r.2.2) ⟨ht.1,by show r.2.2.w≤100;omega,hx.o⟩ rfl rfl rfl rfl B1
structure JLk where
 k:Nat
 i:Int
 h:Int
 l:Bz
theorem B5y {k:Nat}{l:Bz}(h:l.queue.length≤k):(Bw l).1.queue.length≤k+1:=by
 unfold Bw
 split
 ·show (l.queue.drop 1).length≤_;rw [List.length_drop];omega
 show l.queue.length≤_;omega
theorem B5w {k:Nat}{l:Bz}(h:l.queue.length≤k):(Cr l).1.queue.length≤k+1:=by
 unfold Cr
 split<;>(show l.queue.length≤_;omega)
theorem B5x {k:Nat}{l:Bz}{r:Ae}(h:l.queue.length≤k):(Cs l r).1.queue.length≤k+1:=by
 unfold Cs
 split
 ·show (l.queue++[r]).length≤_;rw [List.length_append];show l.queue.length+1≤_;omega
 show l.queue.length≤_;omega
set_option maxHeartbeats 4000000 in
theorem B15 (d:E4)(i h:Int)(hi:0≤i∧i≤d.n):Dd Tryz.prog HT 160 d.pins (d.cur i h) [] (fun r:Int×Int×Bz=>(0≤r.1∧r.1≤d.n)∧r.2.2.queue.length≤9∧OkL r.2.2) (fun r=>d.cur r.1 r.2.1) (fun r=>[.agg r.2.2.c]):=by
 refine Dp A0 false Tryz.func160 rfl Az fun B b hH hp=>?_
 conv=>whnf
 refine Ak (Ai d i h 4 hi Az) hH hp rfl B1 rfl rfl (fun r hr=>go A0 false ?_)
 conv=>whnf
 have hr4:=hr.2.2.2 Az
 have hr5:=hr.2.1
 (repeat refine An ?_)
 refine Cn (Uf (1+r.2.2)) rfl (A8 ?_)
 refine C0 A0 false [8] (fun j:JLk=>[(4,.c (vi j.k))]) (fun j=>[⟨3,[.c (vi j.l.cap),.own 2,.c (vi j.l.credits),.c (vi j.l.back),.c (vi j.l.sent),.c (vi j.l.got)]⟩,⟨0,[.c (.val d.v),.c (vi j.i),.c (vi j.h)]⟩,⟨1,[.c (vi 0),.c (.val (.slice none 0 0)),.c (vi 0),.c (vi 0),.c (vi 0),.c (vi 0)]⟩]) (fun j=>[⟨2,Ag j.l.queue⟩]) (fun j=>(0≤j.i∧j.i≤d.n)∧j.k≤8∧j.l.queue.length≤j.k∧OkL j.l) (fun j=>9-j.k) (⟨0,r.1,r.2.1,Gc (1+r.2.2)⟩) (⟨hr.1,Nat.zero_le _,Nat.zero_le _,B6i _⟩) ⟨G3,trivial⟩ Cg ⟨Ek,trivial⟩ Co A7 (fun j hj=>?_)
 conv=>whnf
 obtain ⟨hi2,hk2,hx,hxo⟩:=hj
 have hlw:j.l.w=j.l.queue.length:=rfl
 refine Ak (Ai d j.i j.h 9 hi2 Az) hH hp rfl B1 rfl rfl (fun s hs=>go A0 false ?_)
 conv=>whnf
 refine F4 (fun hlt=>?_) fun hlt=>?_<;>conv=>whnf
 ·have hlt2:s.2.2<9:=hs.2.2.2 Az
  refine Ak (Ai d s.1 s.2.1 4 hs.1 Az) hH hp rfl B1 rfl rfl (fun t ht=>go A0 false ?_)
  conv=>whnf
  refine ⟨fun c0=>?_,fun c0=>?_⟩<;>conv=>whnf
  ·refine Cn (Si j.l Ac) rfl (A8 ?_)
   (repeat refine An ?_)
   refine B8 [(2,4)] (⟨j.k+1,t.1,t.2.1,(Bw j.l).1⟩) (⟨ht.1,by show j.k+1≤8;omega,B5y hx,B3m hxo⟩) (by show 9-(j.k+1)<_;omega) ⟨rfl,trivial⟩ ⟨rfl,trivial⟩ Cg A7 Co A7
  refine ⟨fun c1=>?_,fun c1=>?_⟩<;>conv=>whnf
  ·refine Cn (Pb j.l Ac) rfl (A8 ?_)
   (repeat refine An ?_)
   refine B8 [(2,4)] (⟨j.k+1,t.1,t.2.1,(Cr j.l).1⟩) (⟨ht.1,by show j.k+1≤8;omega,B5w hx,B3k hxo⟩) (by show 9-(j.k+1)<_;omega) ⟨rfl,trivial⟩ ⟨rfl,trivial⟩ Cg A7 Co A7
  refine Fx rfl ?_
  repeat' (first
    |(first|refine Ao A0 false 1 rfl rfl rfl (by decide+kernel) rfl (A5 Bb) ?_|refine Ao A0 false 4 rfl rfl rfl (by decide+kernel) rfl (A5 Bb) ?_)
    |((first|refine A4 [0,2] (by decide+kernel) ⟨?_,?_,trivial⟩|refine A4 [2] (by decide+kernel) ⟨?_,trivial⟩|refine A4 [3] (by decide+kernel) ⟨?_,trivial⟩|refine A4 [5,6] (by decide+kernel) ⟨?_,?_,trivial⟩|refine A4 [6,7] (by decide+kernel) ⟨?_,?_,trivial⟩|refine A4 [7] (by decide+kernel) ⟨?_,trivial⟩|refine A4 [6] (by decide+kernel) ⟨?_,trivial⟩|refine A4 [5] (by decide+kernel) ⟨?_,trivial⟩|refine A4 [0] (by decide+kernel) ⟨?_,trivial⟩)<;>(refine go A0 false ?_;(conv=>whnf);(first|(refine Ak (Qs d t.1 t.2.1 ht.1) hH hp rfl B1 rfl rfl (fun r9 hr9=>go A0 false ?_);(conv=>whnf))|(refine Cn (R8 j.l r9.2.2 Ac) rfl (I5 ?_);(conv=>whnf))|(repeat (refine Ex ?_;(conv=>whnf))));refine A6 ?_))
    |refine B2 (by decide+kernel) (O4.out ?_))
  all_goals
   refine O4.mk (A8 ?_)
  all_goals
   (repeat refine An ?_)
   refine B8 [(2,4)] (⟨j.k+1,r9.1,r9.2.1,(Cs j.l r9.2.2).1⟩) (⟨hr9.1,by show j.k+1≤8;omega,B5x hx,B3l hxo⟩) (by show 9-(j.k+1)<_;omega) ⟨rfl,trivial⟩ ⟨rfl,trivial⟩ Cg A7 Co A7
 exact Bu A0 (s.1,s.2.1,j.l) ⟨hs.1,by show j.l.queue.length≤9;omega,hxo⟩ rfl rfl rfl rfl B1
set_option maxHeartbeats 4000000 in
theorem Lc (d:E4)(i h:Int)(hi:0≤i∧i≤d.n):Dd Tryz.prog HT 121 d.pins (d.cur i h) [] (fun r:Int×Int×Bz=>(0≤r.1∧r.1≤d.n)∧r.2.2.queue.length≤10∧OkL r.2.2) (fun r=>d.cur r.1 r.2.1) (fun r=>[.agg r.2.2.c]):=by
 refine Dp A0 false Tryz.func121 rfl Az fun B b hH hp=>?_
 conv=>whnf
 refine Ak (B15 d i h hi) hH hp rfl B1 rfl rfl (fun r hr=>go A0 false ?_)
 conv=>whnf
 obtain ⟨hx,hxo⟩:=hr.2
 refine Ak (Ai d r.1 r.2.1 14 hr.1 Az) hH hp rfl B1 rfl rfl (fun t ht=>go A0 false ?_)
 conv=>whnf
 refine ⟨fun c0=>?_,fun c0=>?_⟩<;>conv=>whnf
 ·refine Ak (Ai d t.1 t.2.1 6 ht.1 Az) hH hp rfl B1 rfl rfl (fun r9 hr9=>go A0 false ?_)
  conv=>whnf
  have hn9:=hr9.2.2.2 Az
  have hn8:=hr9.2.1
  (repeat refine An ?_)
  exact Bu A0 (r9.1,r9.2.1,⟨r.2.2.cap,r.2.2.queue,r9.2.2-1,r.2.2.back,r.2.2.sent,r.2.2.got⟩) ⟨hr9.1,by show r.2.2.queue.length≤10;omega,hxo.c,hxo.q,Fb (by show _≤r9.2.2-1;omega) (by show r9.2.2-1≤_;omega),hxo.b,hxo.s,hxo.g⟩ rfl rfl rfl rfl B1
 repeat refine Bd ?_
 refine ⟨fun c1=>?_,fun c1=>?_⟩<;>conv=>whnf
 ·refine Ak (Ai d t.1 t.2.1 6 ht.1 Az) hH hp rfl B1 rfl rfl (fun r9 hr9=>go A0 false ?_)
  conv=>whnf
  have hn9:=hr9.2.2.2 Az
  have hn8:=hr9.2.1
  (repeat refine An ?_)
  exact Bu A0 (r9.1,r9.2.1,⟨r.2.2.cap,r.2.2.queue,r.2.2.credits,r9.2.2-1,r.2.2.sent,r.2.2.got⟩) ⟨hr9.1,by show r.2.2.queue.length≤10;omega,hxo.c,hxo.q,hxo.r,Fb (by show _≤r9.2.2-1;omega) (by show r9.2.2-1≤_;omega),hxo.s,hxo.g⟩ rfl rfl rfl rfl B1
 repeat refine Bd ?_
 refine ⟨fun c2=>?_,fun c2=>?_⟩<;>conv=>whnf
 ·refine Fl 4 (Au [-1,0,1000000000,1000000001]) rfl (Bq rfl Cg) ?_
  refine Ak (De d t.1 t.2.1 [-1,0,1000000000,1000000001] ht.1 Az) hH hp rfl B1 rfl rfl (fun r9 hr9=>go A0 false ?_)
  conv=>whnf
  exact Bu A0 (r9.1,r9.2.1,⟨r.2.2.cap,r.2.2.queue,r.2.2.credits,r.2.2.back,[-1,0,1000000000,1000000001].getD r9.2.2 0,r.2.2.got⟩) ⟨hr9.1,by show r.2.2.queue.length≤10;omega,hxo.c,hxo.q,hxo.r,hxo.b,Gb _ _ (by intro x hx;simp only [List.mem_cons,List.not_mem_nil,or_false] at hx;show _∧_;omega),hxo.g⟩ rfl rfl rfl rfl B1
 repeat refine Bd ?_
 refine ⟨fun c3=>?_,fun c3=>?_⟩<;>conv=>whnf
 ·refine Fx rfl ?_
  repeat' (first
    |(first|refine Ao A0 false 0 rfl rfl rfl (by decide+kernel) rfl (A5 Bb) ?_|refine Ao A0 false 2 rfl rfl rfl (by decide+kernel) rfl (A5 Bb) ?_|refine Ao A0 false 6 rfl rfl rfl (by decide+kernel) rfl (A5 Bb) ?_)
    |((first|refine A4 [1,3] (by decide+kernel) ⟨?_,?_,trivial⟩|refine A4 [3] (by decide+kernel) ⟨?_,trivial⟩|refine A4 [4] (by decide+kernel) ⟨?_,trivial⟩|refine A4 [5] (by decide+kernel) ⟨?_,trivial⟩|refine A4 [7] (by decide+kernel) ⟨?_,trivial⟩|refine A4 [1,4] (by decide+kernel) ⟨?_,?_,trivial⟩|refine A4 [1] (by decide+kernel) ⟨?_,trivial⟩)<;>(refine go A0 false ?_;(conv=>whnf);(first|(refine Ak (Rj d t.1 t.2.1 ht.1) hH hp rfl B1 rfl rfl (fun r9 hr9=>go A0 false ?_);(conv=>whnf))|(refine B6 A0 rfl rfl rfl rfl rfl rfl rfl rfl rfl rfl rfl (Ag (r.2.2.queue++[r9.2.2])) (Ad rfl) Bp Ac (I5 ?_);(conv=>whnf))|(repeat (refine Ex ?_;(conv=>whnf))));refine A6 ?_))
    |refine B2 (by decide+kernel) (O4.out ?_))
  all_goals
   refine O4.mk (A8 ?_)
  all_goals
   exact Bu A0 (r9.1,r9.2.1,⟨r.2.2.cap,r.2.2.queue++[r9.2.2],r.2.2.credits,r.2.2.back,r.2.2.sent,r.2.2.got⟩) ⟨hr9.1,by show (r.2.2.queue++[r9.2.2]).length≤10;rw [List.length_append];show r.2.2.queue.length+1≤10;omega,hxo.c,J9 hxo.q hr9.2,hxo.r,hxo.b,hxo.s,hxo.g⟩ rfl rfl rfl rfl B1
 repeat refine Bd ?_
 refine ⟨fun c4=>?_,fun c4=>?_⟩<;>conv=>whnf
 ·(repeat refine An ?_)
  exact Bu A0 (t.1,t.2.1,⟨r.2.2.cap,r.2.2.queue,r.2.2.credits,r.2.2.back,1000000000,1000000000-r.2.2.queue.length⟩) ⟨ht.1,by show r.2.2.queue.length≤10;omega,hxo.c,hxo.q,hxo.r,hxo.b,Fb (n:=1000000000) Az Az,Fb (by show _≤(1000000000:Int)-r.2.2.queue.length;omega) (by show (1000000000:Int)-r.2.2.queue.length≤_;omega)⟩ rfl rfl rfl rfl B1
 repeat refine Bd ?_
 exact Bu A0 (t.1,t.2.1,r.2.2) ⟨ht.1,by show r.2.2.queue.length≤10;omega,hxo⟩ rfl rfl rfl rfl B1
end Go.Proofs.YtdendlkeiaccpaaGreatDoor
