/- Part 24 of the proof that each of the laws FnTold returns true for every input. No conditions. -/
import Derived.Test.YtdendlkeiaccpaaGreatDoorP4
import Derived.Test.YtdendlkeiaccpaaGreatDoorP6
import Derived.Test.YtdendlkeiaccpaaGreatDoorP23
import Derived.Test.YtdendlkeiaccpaaGreatDoorP18

set_option linter.unusedSimpArgs false
set_option linter.unusedVariables false
set_option maxRecDepth 100000
namespace Go.Proofs.YtdendlkeiaccpaaGreatDoor
open Go.Sx
theorem Tv {α:Type} [Inhabited α] {es:Nat}{e:α→List Ac}{xs:List α}{m:Nat}(hm:m≤xs.length):Gy (.sl m es fun i=>e (xs.getD i default)) (Is es e (xs.take m)):=by
 have hl:(xs.take m).length=m:=by rw [List.length_take];omega
 refine ⟨hl,rfl,fun i hi=>?_⟩
 have:(xs.take m).getD i default=xs.getD i default:=by
  simp [List.getD,hi]
 show Fx _ (e ((xs.take m).getD i default))
 rw [this]
 exact Fx.rfl' _
theorem T2 {x y:A9}(h:x.w≤44)(hw:y.w≤x.w+8):y.w≤100:=by omega
set_option maxHeartbeats 4000000 in
theorem Lt (d:Dx)(i h:Int)(g:Ap)(hi:0≤i∧i≤d.n)(hg:g.w≤1000):Cw Tryz.prog HT 120 d.pins (d.cur i h) [.agg g.c] (fun r:Int×Int×A9=>(0≤r.1∧r.1≤d.n)∧r.2.2.w≤100∧Tl r.2.2) (fun r=>d.cur r.1 r.2.1) (fun r=>[.agg r.2.2.c]):=by
 refine Dn A0 false Tryz.func120 rfl Aw fun B b hH hp=>?_
 conv=>whnf
 refine Aj (A3e d i h g hi hg) hH hp rfl Ay rfl rfl (fun r hr=>go A0 false ?_)
 conv=>whnf
 obtain ⟨hr0,hx⟩:=hr
 have hxw:r.2.2.w≤44:=hx.w
 have hws:=Lh r.2.2
 have hs4:=hx.s4
 refine Aj (Ai d r.1 r.2.1 16 hr0 Aw) hH hp rfl Ay rfl rfl (fun t ht=>go A0 false ?_)
 conv=>whnf
 refine ⟨fun c0=>?_,fun c0=>?_⟩<;>conv=>whnf
 ·refine Fq rfl ?_
  repeat' (first
    |(first|refine Am A0 false 0 rfl rfl rfl (by decide+kernel) rfl (A4 B2) ?_|refine Am A0 false 2 rfl rfl rfl (by decide+kernel) rfl (A4 B2) ?_|refine Am A0 false 6 rfl rfl rfl (by decide+kernel) rfl (A4 B2) ?_)
    |((first|refine A3 [1,3] (by decide+kernel) ⟨?_,?_,trivial⟩|refine A3 [3] (by decide+kernel) ⟨?_,trivial⟩|refine A3 [4] (by decide+kernel) ⟨?_,trivial⟩|refine A3 [5] (by decide+kernel) ⟨?_,trivial⟩|refine A3 [7] (by decide+kernel) ⟨?_,trivial⟩|refine A3 [1,4] (by decide+kernel) ⟨?_,?_,trivial⟩|refine A3 [1] (by decide+kernel) ⟨?_,trivial⟩)<;>(refine go A0 false ?_;(conv=>whnf);(first|(refine Aj (Q5 d t.1 t.2.1 ht.1) hH hp rfl Ay rfl rfl (fun r9 hr9=>go A0 false ?_);(conv=>whnf))|(refine B1 A0 rfl rfl rfl rfl rfl rfl rfl rfl rfl rfl rfl (Ah (r.2.2.queue++[r9.2.2])) (Aa rfl) Bg Ab (Ji ?_);(conv=>whnf))|(repeat (refine Ft ?_;(conv=>whnf))));refine A6 ?_))
    |refine Au (by decide+kernel) (Mt.out ?_))
  all_goals
   refine Mt.mk (A8 ?_)
  all_goals
   exact Bl A0 (r9.1,r9.2.1,⟨r.2.2.queue++[r9.2.2],r.2.2.staged,r.2.2.inputs,r.2.2.cells,r.2.2.sums,r.2.2.black,r.2.2.caps,r.2.2.dones⟩) ⟨hr9.1,T2 hxw A8v,B41 hx.o (I6 hx.o.q hr9.2)⟩ rfl rfl rfl rfl Ay
 repeat refine Bj ?_
 refine ⟨fun c1=>?_,fun c1=>?_⟩<;>conv=>whnf
 ·refine Fq rfl ?_
  repeat' (first
    |(first|refine Am A0 false 0 rfl rfl rfl (by decide+kernel) rfl (A4 B2) ?_|refine Am A0 false 2 rfl rfl rfl (by decide+kernel) rfl (A4 B2) ?_|refine Am A0 false 6 rfl rfl rfl (by decide+kernel) rfl (A4 B2) ?_)
    |((first|refine A3 [1,3] (by decide+kernel) ⟨?_,?_,trivial⟩|refine A3 [3] (by decide+kernel) ⟨?_,trivial⟩|refine A3 [4] (by decide+kernel) ⟨?_,trivial⟩|refine A3 [5] (by decide+kernel) ⟨?_,trivial⟩|refine A3 [7] (by decide+kernel) ⟨?_,trivial⟩|refine A3 [1,4] (by decide+kernel) ⟨?_,?_,trivial⟩|refine A3 [1] (by decide+kernel) ⟨?_,trivial⟩)<;>(refine go A0 false ?_;(conv=>whnf);(first|(refine Aj (P6 d t.1 t.2.1 ht.1) hH hp rfl Ay rfl rfl (fun r9 hr9=>go A0 false ?_);(conv=>whnf))|(refine B1 A0 rfl rfl rfl rfl rfl rfl rfl rfl rfl rfl rfl (Ah (r.2.2.inputs++[r9.2.2])) (Aa rfl) Bg Ab (Ji ?_);(conv=>whnf))|(repeat (refine Ft ?_;(conv=>whnf))));refine A6 ?_))
    |refine Au (by decide+kernel) (Mt.out ?_))
  all_goals
   refine Mt.mk (A8 ?_)
  all_goals
   exact Bl A0 (r9.1,r9.2.1,⟨r.2.2.queue,r.2.2.staged,r.2.2.inputs++[r9.2.2],r.2.2.cells,r.2.2.sums,r.2.2.black,r.2.2.caps,r.2.2.dones⟩) ⟨hr9.1,T2 hxw A8v,B6x hx.o (I6 hx.o.i hr9.2.2)⟩ rfl rfl rfl rfl Ay
 repeat refine Bj ?_
 refine ⟨fun c2=>?_,fun c2=>?_⟩<;>conv=>whnf
 ·refine Fq rfl ?_
  repeat' (first
    |(first|refine Am A0 false 0 rfl rfl rfl (by decide+kernel) rfl (A4 B2) ?_|refine Am A0 false 2 rfl rfl rfl (by decide+kernel) rfl (A4 B2) ?_|refine Am A0 false 5 rfl rfl rfl (by decide+kernel) rfl (A4 B2) ?_)
    |((first|refine A3 [1,3] (by decide+kernel) ⟨?_,?_,trivial⟩|refine A3 [3] (by decide+kernel) ⟨?_,trivial⟩|refine A3 [4] (by decide+kernel) ⟨?_,trivial⟩|refine A3 [6] (by decide+kernel) ⟨?_,trivial⟩|refine A3 [1] (by decide+kernel) ⟨?_,trivial⟩)<;>(refine go A0 false ?_;(conv=>whnf);(first|(refine Aj (Ai d t.1 t.2.1 4 ht.1 Aw) hH hp rfl Ay rfl rfl (fun r9 hr9=>go A0 false ?_);(conv=>whnf);have hk9:=hr9.2.2.2 Aw;have hk8:=hr9.2.1)|(refine B1e A0 rfl rfl rfl rfl rfl rfl rfl rfl rfl ⟨hk8,by omega⟩ Ab _ rfl (Ji ?_);(conv=>whnf))|(repeat (refine Ft ?_;(conv=>whnf))));refine A6 ?_))
    |refine Au (by decide+kernel) (Mt.out ?_))
  all_goals
   refine Mt.mk (A8 ?_)
  all_goals
   refine L9 12 (At (r.2.2.sums.take r9.2.2.toNat)) rfl (Tv (es:=1) (e:=fun n=>[vi n]) (xs:=r.2.2.sums) (m:=r9.2.2.toNat) Ab) ?_
   exact Bl A0 (r9.1,r9.2.1,⟨r.2.2.queue,r.2.2.staged,r.2.2.inputs,r.2.2.cells,r.2.2.sums.take r9.2.2.toNat,r.2.2.black,r.2.2.caps,r.2.2.dones⟩) ⟨hr9.1,T2 hxw (by simp only [A9.w,List.length_take];omega),B01 hx.o (A40 hx.o.n)⟩ rfl rfl rfl rfl Ay
 repeat refine Bj ?_
 refine ⟨fun c3=>?_,fun c3=>?_⟩<;>conv=>whnf
 ·refine Fq rfl ?_
  repeat' (first
    |(first|refine Am A0 false 0 rfl rfl rfl (by decide+kernel) rfl (A4 B2) ?_|refine Am A0 false 2 rfl rfl rfl (by decide+kernel) rfl (A4 B2) ?_)
    |((first|refine A3 [1,3] (by decide+kernel) ⟨?_,?_,trivial⟩|refine A3 [3] (by decide+kernel) ⟨?_,trivial⟩|refine A3 [4] (by decide+kernel) ⟨?_,trivial⟩|refine A3 [5] (by decide+kernel) ⟨?_,trivial⟩|refine A3 [6] (by decide+kernel) ⟨?_,trivial⟩|refine A3 [1,4] (by decide+kernel) ⟨?_,?_,trivial⟩|refine A3 [1] (by decide+kernel) ⟨?_,trivial⟩)<;>(refine go A0 false ?_;(conv=>whnf);(first|(refine Ev 12 (At [1000000,1000001,-1000001]) rfl (Bd rfl (by repeat' (first|exact trivial|exact rfl|refine ⟨?_,?_⟩))) ?_;refine Aj (Cn d t.1 t.2.1 [1000000,1000001,-1000001] ht.1 Aw) hH hp rfl Ay rfl rfl (fun r9 hr9=>go A0 false ?_);(conv=>whnf))|(refine Ao (j:=0) A0 rfl rfl rfl rfl rfl rfl rfl rfl _ (Cb (j:=0) (xs:=r.2.2.sums) (e:=fun n=>[vi n]) (x:=[1000000,1000001,-1000001].getD r9.2.2 0) Ab rfl) (Ji ?_);(conv=>whnf))|(repeat (refine Ft ?_;(conv=>whnf))));refine A6 ?_))
    |refine Au (by decide+kernel) (Mt.out ?_))
  all_goals
   refine Mt.mk (A8 ?_)
  all_goals
   exact Bl A0 (r9.1,r9.2.1,⟨r.2.2.queue,r.2.2.staged,r.2.2.inputs,r.2.2.cells,r.2.2.sums.set 0 ([1000000,1000001,-1000001].getD r9.2.2 0),r.2.2.black,r.2.2.caps,r.2.2.dones⟩) ⟨hr9.1,T2 hxw (by simp only [A9.w,List.length_set];omega),B01 hx.o (Q0 hx.o.n (Fs _ _ (by intro x hx;simp only [List.mem_cons,List.not_mem_nil,or_false] at hx;show _∧_;omega)))⟩ rfl rfl rfl rfl Ay
 repeat refine Bj ?_
 refine ⟨fun c4=>?_,fun c4=>?_⟩<;>conv=>whnf
 ·refine Fq rfl ?_
  repeat' (first
    |(first|refine Am A0 false 0 rfl rfl rfl (by decide+kernel) rfl (A4 B2) ?_|refine Am A0 false 2 rfl rfl rfl (by decide+kernel) rfl (A4 B2) ?_|refine Am A0 false 4 rfl rfl rfl (by decide+kernel) rfl (A4 B2) ?_|refine Am A0 false 8 rfl rfl rfl (by decide+kernel) rfl (A4 B2) ?_)
    |((first|refine A3 [1,3] (by decide+kernel) ⟨?_,?_,trivial⟩|refine A3 [3] (by decide+kernel) ⟨?_,trivial⟩|refine A3 [5] (by decide+kernel) ⟨?_,trivial⟩|refine A3 [6] (by decide+kernel) ⟨?_,trivial⟩|refine A3 [7] (by decide+kernel) ⟨?_,trivial⟩|refine A3 [9] (by decide+kernel) ⟨?_,trivial⟩|refine A3 [1,5] (by decide+kernel) ⟨?_,?_,trivial⟩|refine A3 [1,6] (by decide+kernel) ⟨?_,?_,trivial⟩|refine A3 [1] (by decide+kernel) ⟨?_,trivial⟩)<;>(refine go A0 false ?_;(conv=>whnf);(first|(refine Aj (Ai d t.1 t.2.1 6 ht.1 Aw) hH hp rfl Ay rfl rfl (fun r9 hr9=>go A0 false ?_);(conv=>whnf))|(refine B1 A0 rfl rfl rfl rfl rfl rfl rfl rfl rfl rfl rfl (Hv (r.2.2.dones++[⟨r9.2.2-1,false⟩])) (Aa rfl) Bg Ab (Ji ?_);(conv=>whnf))|(repeat (refine Ft ?_;(conv=>whnf))));refine A6 ?_))
    |refine Au (by decide+kernel) (Mt.out ?_))
  all_goals
   refine Mt.mk (A8 ?_)
  all_goals
   exact Bl A0 (r9.1,r9.2.1,⟨r.2.2.queue,r.2.2.staged,r.2.2.inputs,r.2.2.cells,r.2.2.sums,r.2.2.black,r.2.2.caps,r.2.2.dones++[⟨r9.2.2-1,false⟩]⟩) ⟨hr9.1,T2 hxw A8v,B40 hx.o (I6 hx.o.d (E6 (by have:=hr9.2.1;show _≤r9.2.2-1;omega) (by have:=hr9.2.2.2 Aw;show r9.2.2-1≤_;omega)))⟩ rfl rfl rfl rfl Ay
 repeat refine Bj ?_
 refine ⟨fun c5=>?_,fun c5=>?_⟩<;>conv=>whnf
 ·refine Aj (Ai d t.1 t.2.1 2 ht.1 Aw) hH hp rfl Ay rfl rfl (fun r9 hr9=>go A0 false ?_)
  conv=>whnf
  refine L9 12 (Hv [⟨1,false⟩,⟨r9.2.2,true⟩]) rfl (H1 rfl A0q) ?_
  exact Bl A0 (r9.1,r9.2.1,⟨r.2.2.queue,r.2.2.staged,r.2.2.inputs,r.2.2.cells,r.2.2.sums,r.2.2.black,r.2.2.caps,[⟨1,false⟩,⟨r9.2.2,true⟩]⟩) ⟨hr9.1,T2 hxw (by simp only [A9.w,List.length_cons,List.length_nil];omega),B40 hx.o (I6 (p:=Ep.ok) (xs:=[(⟨1,false⟩:Ep)]) (fun y hy=>by rw [List.mem_singleton.1 hy];exact E6 (n:=1) Aw Aw) (E6 (n:=r9.2.2) (by have:=hr9.2.1;show _≤r9.2.2;omega) (by have:=hr9.2.2.2 Aw;show r9.2.2≤_;omega)))⟩ rfl rfl rfl rfl Ay
 repeat refine Bj ?_
 refine ⟨fun c6=>?_,fun c6=>?_⟩<;>conv=>whnf
 ·refine B1 A0 rfl rfl rfl rfl rfl rfl rfl rfl rfl rfl rfl (Ek (r.2.2.black++[true])) (Aa rfl) Bg Ab (A8 ?_)
  exact Bl A0 (t.1,t.2.1,⟨r.2.2.queue,r.2.2.staged,r.2.2.inputs,r.2.2.cells,r.2.2.sums,r.2.2.black++[true],r.2.2.caps,r.2.2.dones⟩) ⟨ht.1,T2 hxw A8v,B4z hx.o⟩ rfl rfl rfl rfl Ay
 repeat refine Bj ?_
 refine ⟨fun c7=>?_,fun c7=>?_⟩<;>conv=>whnf
 ·refine B1 A0 rfl rfl rfl rfl rfl rfl rfl rfl rfl rfl rfl (Ak (r.2.2.cells++[⟨0,0,0,0⟩])) (Aa rfl) Bg Ab (A8 ?_)
  exact Bl A0 (t.1,t.2.1,⟨r.2.2.queue,r.2.2.staged,r.2.2.inputs,r.2.2.cells++[⟨0,0,0,0⟩],r.2.2.sums,r.2.2.black,r.2.2.caps,r.2.2.dones⟩) ⟨ht.1,T2 hxw A8v,B6w hx.o (I6 hx.o.c ⟨E6 Aw Aw,E6 Aw Aw,E6 Aw Aw,E6 Aw Aw⟩)⟩ rfl rfl rfl rfl Ay
 repeat refine Bj ?_
 exact Bl A0 (t.1,t.2.1,r.2.2) ⟨ht.1,by show r.2.2.w≤100;omega,hx.o⟩ rfl rfl rfl rfl Ay
structure JLk where
 k:Nat
 i:Int
 h:Int
 l:Bv
theorem B3d {k:Nat}{l:Bv}(h:l.queue.length≤k):(C1 l).1.queue.length≤k+1:=by
 unfold C1
 split
 ·show (l.queue.drop 1).length≤_;rw [List.length_drop];omega
 show l.queue.length≤_;omega
theorem B3b {k:Nat}{l:Bv}(h:l.queue.length≤k):(D6 l).1.queue.length≤k+1:=by
 unfold D6
 split<;>(show l.queue.length≤_;omega)
theorem B3c {k:Nat}{l:Bv}{r:Ae}(h:l.queue.length≤k):(Co l r).1.queue.length≤k+1:=by
 unfold Co
 split
 ·show (l.queue++[r]).length≤_;rw [List.length_append];show l.queue.length+1≤_;omega
 show l.queue.length≤_;omega
set_option maxHeartbeats 4000000 in
theorem A9c (d:Dx)(i h:Int)(hi:0≤i∧i≤d.n):Cw Tryz.prog HT 160 d.pins (d.cur i h) [] (fun r:Int×Int×Bv=>(0≤r.1∧r.1≤d.n)∧r.2.2.queue.length≤9∧OkL r.2.2) (fun r=>d.cur r.1 r.2.1) (fun r=>[.agg r.2.2.c]):=by
 refine Dn A0 false Tryz.func160 rfl Aw fun B b hH hp=>?_
 conv=>whnf
 refine Aj (Ai d i h 4 hi Aw) hH hp rfl Ay rfl rfl (fun r hr=>go A0 false ?_)
 conv=>whnf
 have hr4:=hr.2.2.2 Aw
 have hr5:=hr.2.1
 (repeat refine An ?_)
 refine Cq (Sv (1+r.2.2)) rfl (A8 ?_)
 refine C0 A0 false [8] (fun j:JLk=>[(4,.c (vi j.k))]) (fun j=>[⟨3,[.c (vi j.l.cap),.own 2,.c (vi j.l.credits),.c (vi j.l.back),.c (vi j.l.sent),.c (vi j.l.got)]⟩,⟨0,[.c (.val d.v),.c (vi j.i),.c (vi j.h)]⟩,⟨1,[.c (vi 0),.c (.val (.slice none 0 0)),.c (vi 0),.c (vi 0),.c (vi 0),.c (vi 0)]⟩]) (fun j=>[⟨2,Ah j.l.queue⟩]) (fun j=>(0≤j.i∧j.i≤d.n)∧j.k≤8∧j.l.queue.length≤j.k∧OkL j.l) (fun j=>9-j.k) (⟨0,r.1,r.2.1,Gw (1+r.2.2)⟩) (⟨hr.1,Nat.zero_le _,Nat.zero_le _,B3x _⟩) ⟨G9,trivial⟩ Cf ⟨Eu,trivial⟩ Cr A7 (fun j hj=>?_)
 conv=>whnf
 obtain ⟨hi2,hk2,hx,hxo⟩:=hj
 have hlw:j.l.w=j.l.queue.length:=rfl
 refine Aj (Ai d j.i j.h 9 hi2 Aw) hH hp rfl Ay rfl rfl (fun s hs=>go A0 false ?_)
 conv=>whnf
 refine Fi (fun hlt=>?_) fun hlt=>?_<;>conv=>whnf
 ·have hlt2:s.2.2<9:=hs.2.2.2 Aw
  refine Aj (Ai d s.1 s.2.1 4 hs.1 Aw) hH hp rfl Ay rfl rfl (fun t ht=>go A0 false ?_)
  conv=>whnf
  refine ⟨fun c0=>?_,fun c0=>?_⟩<;>conv=>whnf
  ·refine Cq (R3 j.l Ab) rfl (A8 ?_)
   (repeat refine An ?_)
   refine B9 [(2,4)] (⟨j.k+1,t.1,t.2.1,(C1 j.l).1⟩) (⟨ht.1,by show j.k+1≤8;omega,B3d hx,B0z hxo⟩) (by show 9-(j.k+1)<_;omega) ⟨rfl,trivial⟩ ⟨rfl,trivial⟩ Cf A7 Cr A7
  refine ⟨fun c1=>?_,fun c1=>?_⟩<;>conv=>whnf
  ·refine Cq (Np j.l Ab) rfl (A8 ?_)
   (repeat refine An ?_)
   refine B9 [(2,4)] (⟨j.k+1,t.1,t.2.1,(D6 j.l).1⟩) (⟨ht.1,by show j.k+1≤8;omega,B3b hx,B0x hxo⟩) (by show 9-(j.k+1)<_;omega) ⟨rfl,trivial⟩ ⟨rfl,trivial⟩ Cf A7 Cr A7
  refine Fq rfl ?_
  repeat' (first
    |(first|refine Am A0 false 1 rfl rfl rfl (by decide+kernel) rfl (A4 B2) ?_|refine Am A0 false 4 rfl rfl rfl (by decide+kernel) rfl (A4 B2) ?_)
    |((first|refine A3 [0,2] (by decide+kernel) ⟨?_,?_,trivial⟩|refine A3 [2] (by decide+kernel) ⟨?_,trivial⟩|refine A3 [3] (by decide+kernel) ⟨?_,trivial⟩|refine A3 [5,6] (by decide+kernel) ⟨?_,?_,trivial⟩|refine A3 [6,7] (by decide+kernel) ⟨?_,?_,trivial⟩|refine A3 [7] (by decide+kernel) ⟨?_,trivial⟩|refine A3 [6] (by decide+kernel) ⟨?_,trivial⟩|refine A3 [5] (by decide+kernel) ⟨?_,trivial⟩|refine A3 [0] (by decide+kernel) ⟨?_,trivial⟩)<;>(refine go A0 false ?_;(conv=>whnf);(first|(refine Aj (P6 d t.1 t.2.1 ht.1) hH hp rfl Ay rfl rfl (fun r9 hr9=>go A0 false ?_);(conv=>whnf))|(refine Cq (Pp j.l r9.2.2 Ab) rfl (Ji ?_);(conv=>whnf))|(repeat (refine Ft ?_;(conv=>whnf))));refine A6 ?_))
    |refine Au (by decide+kernel) (Mt.out ?_))
  all_goals
   refine Mt.mk (A8 ?_)
  all_goals
   (repeat refine An ?_)
   refine B9 [(2,4)] (⟨j.k+1,r9.1,r9.2.1,(Co j.l r9.2.2).1⟩) (⟨hr9.1,by show j.k+1≤8;omega,B3c hx,B0y hxo⟩) (by show 9-(j.k+1)<_;omega) ⟨rfl,trivial⟩ ⟨rfl,trivial⟩ Cf A7 Cr A7
 exact Bl A0 (s.1,s.2.1,j.l) ⟨hs.1,by show j.l.queue.length≤9;omega,hxo⟩ rfl rfl rfl rfl Ay
set_option maxHeartbeats 4000000 in
theorem Jy (d:Dx)(i h:Int)(hi:0≤i∧i≤d.n):Cw Tryz.prog HT 121 d.pins (d.cur i h) [] (fun r:Int×Int×Bv=>(0≤r.1∧r.1≤d.n)∧r.2.2.queue.length≤10∧OkL r.2.2) (fun r=>d.cur r.1 r.2.1) (fun r=>[.agg r.2.2.c]):=by
 refine Dn A0 false Tryz.func121 rfl Aw fun B b hH hp=>?_
 conv=>whnf
 refine Aj (A9c d i h hi) hH hp rfl Ay rfl rfl (fun r hr=>go A0 false ?_)
 conv=>whnf
 obtain ⟨hx,hxo⟩:=hr.2
 refine Aj (Ai d r.1 r.2.1 14 hr.1 Aw) hH hp rfl Ay rfl rfl (fun t ht=>go A0 false ?_)
 conv=>whnf
 refine ⟨fun c0=>?_,fun c0=>?_⟩<;>conv=>whnf
 ·refine Aj (Ai d t.1 t.2.1 6 ht.1 Aw) hH hp rfl Ay rfl rfl (fun r9 hr9=>go A0 false ?_)
  conv=>whnf
  have hn9:=hr9.2.2.2 Aw
  have hn8:=hr9.2.1
  (repeat refine An ?_)
  exact Bl A0 (r9.1,r9.2.1,⟨r.2.2.cap,r.2.2.queue,r9.2.2-1,r.2.2.back,r.2.2.sent,r.2.2.got⟩) ⟨hr9.1,by show r.2.2.queue.length≤10;omega,hxo.c,hxo.q,E6 (by show _≤r9.2.2-1;omega) (by show r9.2.2-1≤_;omega),hxo.b,hxo.s,hxo.g⟩ rfl rfl rfl rfl Ay
 repeat refine Bj ?_
 refine ⟨fun c1=>?_,fun c1=>?_⟩<;>conv=>whnf
 ·refine Aj (Ai d t.1 t.2.1 6 ht.1 Aw) hH hp rfl Ay rfl rfl (fun r9 hr9=>go A0 false ?_)
  conv=>whnf
  have hn9:=hr9.2.2.2 Aw
  have hn8:=hr9.2.1
  (repeat refine An ?_)
  exact Bl A0 (r9.1,r9.2.1,⟨r.2.2.cap,r.2.2.queue,r.2.2.credits,r9.2.2-1,r.2.2.sent,r.2.2.got⟩) ⟨hr9.1,by show r.2.2.queue.length≤10;omega,hxo.c,hxo.q,hxo.r,E6 (by show _≤r9.2.2-1;omega) (by show r9.2.2-1≤_;omega),hxo.s,hxo.g⟩ rfl rfl rfl rfl Ay
 repeat refine Bj ?_
 refine ⟨fun c2=>?_,fun c2=>?_⟩<;>conv=>whnf
 ·refine Ev 4 (At [-1,0,1000000000,1000000001]) rfl (Bd rfl Cf) ?_
  refine Aj (Cn d t.1 t.2.1 [-1,0,1000000000,1000000001] ht.1 Aw) hH hp rfl Ay rfl rfl (fun r9 hr9=>go A0 false ?_)
  conv=>whnf
  exact Bl A0 (r9.1,r9.2.1,⟨r.2.2.cap,r.2.2.queue,r.2.2.credits,r.2.2.back,[-1,0,1000000000,1000000001].getD r9.2.2 0,r.2.2.got⟩) ⟨hr9.1,by show r.2.2.queue.length≤10;omega,hxo.c,hxo.q,hxo.r,hxo.b,Fs _ _ (by intro x hx;simp only [List.mem_cons,List.not_mem_nil,or_false] at hx;show _∧_;omega),hxo.g⟩ rfl rfl rfl rfl Ay
 repeat refine Bj ?_
 refine ⟨fun c3=>?_,fun c3=>?_⟩<;>conv=>whnf
 ·refine Fq rfl ?_
  repeat' (first
    |(first|refine Am A0 false 0 rfl rfl rfl (by decide+kernel) rfl (A4 B2) ?_|refine Am A0 false 2 rfl rfl rfl (by decide+kernel) rfl (A4 B2) ?_|refine Am A0 false 6 rfl rfl rfl (by decide+kernel) rfl (A4 B2) ?_)
    |((first|refine A3 [1,3] (by decide+kernel) ⟨?_,?_,trivial⟩|refine A3 [3] (by decide+kernel) ⟨?_,trivial⟩|refine A3 [4] (by decide+kernel) ⟨?_,trivial⟩|refine A3 [5] (by decide+kernel) ⟨?_,trivial⟩|refine A3 [7] (by decide+kernel) ⟨?_,trivial⟩|refine A3 [1,4] (by decide+kernel) ⟨?_,?_,trivial⟩|refine A3 [1] (by decide+kernel) ⟨?_,trivial⟩)<;>(refine go A0 false ?_;(conv=>whnf);(first|(refine Aj (Q5 d t.1 t.2.1 ht.1) hH hp rfl Ay rfl rfl (fun r9 hr9=>go A0 false ?_);(conv=>whnf))|(refine B1 A0 rfl rfl rfl rfl rfl rfl rfl rfl rfl rfl rfl (Ah (r.2.2.queue++[r9.2.2])) (Aa rfl) Bg Ab (Ji ?_);(conv=>whnf))|(repeat (refine Ft ?_;(conv=>whnf))));refine A6 ?_))
    |refine Au (by decide+kernel) (Mt.out ?_))
  all_goals
   refine Mt.mk (A8 ?_)
  all_goals
   exact Bl A0 (r9.1,r9.2.1,⟨r.2.2.cap,r.2.2.queue++[r9.2.2],r.2.2.credits,r.2.2.back,r.2.2.sent,r.2.2.got⟩) ⟨hr9.1,by show (r.2.2.queue++[r9.2.2]).length≤10;rw [List.length_append];show r.2.2.queue.length+1≤10;omega,hxo.c,I6 hxo.q hr9.2,hxo.r,hxo.b,hxo.s,hxo.g⟩ rfl rfl rfl rfl Ay
 repeat refine Bj ?_
 refine ⟨fun c4=>?_,fun c4=>?_⟩<;>conv=>whnf
 ·(repeat refine An ?_)
  exact Bl A0 (t.1,t.2.1,⟨r.2.2.cap,r.2.2.queue,r.2.2.credits,r.2.2.back,1000000000,1000000000-r.2.2.queue.length⟩) ⟨ht.1,by show r.2.2.queue.length≤10;omega,hxo.c,hxo.q,hxo.r,hxo.b,E6 (n:=1000000000) Aw Aw,E6 (by show _≤(1000000000:Int)-r.2.2.queue.length;omega) (by show (1000000000:Int)-r.2.2.queue.length≤_;omega)⟩ rfl rfl rfl rfl Ay
 repeat refine Bj ?_
 exact Bl A0 (t.1,t.2.1,r.2.2) ⟨ht.1,by show r.2.2.queue.length≤10;omega,hxo⟩ rfl rfl rfl rfl Ay
end Go.Proofs.YtdendlkeiaccpaaGreatDoor
