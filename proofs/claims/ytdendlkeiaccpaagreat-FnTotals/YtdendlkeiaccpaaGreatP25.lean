/- Part 25 of the proof that each of the laws FnTotals returns true for every input. No conditions. -/
import Derived.Test.YtdendlkeiaccpaaGreatP4
import Derived.Test.YtdendlkeiaccpaaGreatP19
import Derived.Test.YtdendlkeiaccpaaGreatP24
import Derived.Test.YtdendlkeiaccpaaGreatP17

set_option linter.unusedSimpArgs false
set_option linter.unusedVariables false
set_option maxRecDepth 100000
namespace Go.Proofs.YtdendlkeiaccpaaGreat
open Go.Sx
theorem Ti {α:Type} [Inhabited α] {es:Nat}{e:α→List Ae}{xs:List α}{m:Nat}(hm:m≤xs.length):Ge (.sl m es fun i=>e (xs.getD i default)) (Kt es e (xs.take m)):=by
 have hl:(xs.take m).length=m:=by rw [List.length_take];omega
 refine ⟨hl,rfl,fun i hi=>?_⟩
 have:(xs.take m).getD i default=xs.getD i default:=by
  simp [List.getD,hi]
 show Fh _ (e ((xs.take m).getD i default))
 rw [this]
 exact Fh.rfl' _
theorem Sk {x y:Ac}(h:x.w≤44)(hw:y.w≤x.w+8):y.w≤100:=by omega
set_option maxHeartbeats 4000000 in
theorem Lr (d:Dy)(i h:Int)(g:Ao)(hi:0≤i∧i≤d.n)(hg:g.w≤1000):Cr Tryz.prog HT 88 d.pins (d.cur i h) [.agg g.c] (fun r:Int×Int×Ac=>(0≤r.1∧r.1≤d.n)∧r.2.2.w≤100∧T7 r.2.2) (fun r=>d.cur r.1 r.2.1) (fun r=>[.agg r.2.2.c]):=by
 refine Df A0 false Tryz.func88 rfl Aw fun B b hH hp=>?_
 conv=>whnf
 refine Ai (A2l d i h g hi hg) hH hp rfl At rfl rfl (fun r hr=>go A0 false ?_)
 conv=>whnf
 obtain ⟨hr0,hx⟩:=hr
 have hxw:r.2.2.w≤44:=hx.w
 have hws:=Le r.2.2
 have hs4:=hx.s4
 refine Ai (Ah d r.1 r.2.1 16 hr0 Aw) hH hp rfl At rfl rfl (fun t ht=>go A0 false ?_)
 conv=>whnf
 refine ⟨fun c0=>?_,fun c0=>?_⟩<;>conv=>whnf
 ·refine Fk rfl ?_
  repeat' (first
    |(first|refine Aj A0 false 0 rfl rfl rfl (by decide+kernel) rfl (A4 B1) ?_|refine Aj A0 false 2 rfl rfl rfl (by decide+kernel) rfl (A4 B1) ?_|refine Aj A0 false 6 rfl rfl rfl (by decide+kernel) rfl (A4 B1) ?_)
    |((first|refine A3 [1,3] (by decide+kernel) ⟨?_,?_,trivial⟩|refine A3 [3] (by decide+kernel) ⟨?_,trivial⟩|refine A3 [4] (by decide+kernel) ⟨?_,trivial⟩|refine A3 [5] (by decide+kernel) ⟨?_,trivial⟩|refine A3 [7] (by decide+kernel) ⟨?_,trivial⟩|refine A3 [1,4] (by decide+kernel) ⟨?_,?_,trivial⟩|refine A3 [1] (by decide+kernel) ⟨?_,trivial⟩)<;>(refine go A0 false ?_;(conv=>whnf);(first|(refine Ai (Jj d t.1 t.2.1 ht.1) hH hp rfl At rfl rfl (fun r9 hr9=>go A0 false ?_);(conv=>whnf))|(refine Av A0 rfl rfl rfl rfl rfl rfl rfl rfl rfl rfl rfl (Aa (r.2.2.queue++[r9.2.2])) (Ad rfl) Bj Ab (Jf ?_);(conv=>whnf))|(repeat (refine Gl ?_;(conv=>whnf))));refine A5 ?_))
    |refine Aq (by decide+kernel) (Ms.out ?_))
  all_goals
   refine Ms.mk (A8 ?_)
  all_goals
   exact Bm A0 (r9.1,r9.2.1,⟨r.2.2.queue++[r9.2.2],r.2.2.staged,r.2.2.inputs,r.2.2.cells,r.2.2.sums,r.2.2.black,r.2.2.caps,r.2.2.dones⟩) ⟨hr9.1,Sk hxw A75,B31 hx.o (Hy hx.o.q hr9.2)⟩ rfl rfl rfl rfl At
 repeat refine B7 ?_
 refine ⟨fun c1=>?_,fun c1=>?_⟩<;>conv=>whnf
 ·refine Fk rfl ?_
  repeat' (first
    |(first|refine Aj A0 false 0 rfl rfl rfl (by decide+kernel) rfl (A4 B1) ?_|refine Aj A0 false 2 rfl rfl rfl (by decide+kernel) rfl (A4 B1) ?_|refine Aj A0 false 6 rfl rfl rfl (by decide+kernel) rfl (A4 B1) ?_)
    |((first|refine A3 [1,3] (by decide+kernel) ⟨?_,?_,trivial⟩|refine A3 [3] (by decide+kernel) ⟨?_,trivial⟩|refine A3 [4] (by decide+kernel) ⟨?_,trivial⟩|refine A3 [5] (by decide+kernel) ⟨?_,trivial⟩|refine A3 [7] (by decide+kernel) ⟨?_,trivial⟩|refine A3 [1,4] (by decide+kernel) ⟨?_,?_,trivial⟩|refine A3 [1] (by decide+kernel) ⟨?_,trivial⟩)<;>(refine go A0 false ?_;(conv=>whnf);(first|(refine Ai (Oz d t.1 t.2.1 ht.1) hH hp rfl At rfl rfl (fun r9 hr9=>go A0 false ?_);(conv=>whnf))|(refine Av A0 rfl rfl rfl rfl rfl rfl rfl rfl rfl rfl rfl (Aa (r.2.2.inputs++[r9.2.2])) (Ad rfl) Bj Ab (Jf ?_);(conv=>whnf))|(repeat (refine Gl ?_;(conv=>whnf))));refine A5 ?_))
    |refine Aq (by decide+kernel) (Ms.out ?_))
  all_goals
   refine Ms.mk (A8 ?_)
  all_goals
   exact Bm A0 (r9.1,r9.2.1,⟨r.2.2.queue,r.2.2.staged,r.2.2.inputs++[r9.2.2],r.2.2.cells,r.2.2.sums,r.2.2.black,r.2.2.caps,r.2.2.dones⟩) ⟨hr9.1,Sk hxw A75,B5v hx.o (Hy hx.o.i hr9.2.2)⟩ rfl rfl rfl rfl At
 repeat refine B7 ?_
 refine ⟨fun c2=>?_,fun c2=>?_⟩<;>conv=>whnf
 ·refine Fk rfl ?_
  repeat' (first
    |(first|refine Aj A0 false 0 rfl rfl rfl (by decide+kernel) rfl (A4 B1) ?_|refine Aj A0 false 2 rfl rfl rfl (by decide+kernel) rfl (A4 B1) ?_|refine Aj A0 false 5 rfl rfl rfl (by decide+kernel) rfl (A4 B1) ?_)
    |((first|refine A3 [1,3] (by decide+kernel) ⟨?_,?_,trivial⟩|refine A3 [3] (by decide+kernel) ⟨?_,trivial⟩|refine A3 [4] (by decide+kernel) ⟨?_,trivial⟩|refine A3 [6] (by decide+kernel) ⟨?_,trivial⟩|refine A3 [1] (by decide+kernel) ⟨?_,trivial⟩)<;>(refine go A0 false ?_;(conv=>whnf);(first|(refine Ai (Ah d t.1 t.2.1 4 ht.1 Aw) hH hp rfl At rfl rfl (fun r9 hr9=>go A0 false ?_);(conv=>whnf);have hk9:=hr9.2.2.2 Aw;have hk8:=hr9.2.1)|(refine B0p A0 rfl rfl rfl rfl rfl rfl rfl rfl rfl ⟨hk8,by omega⟩ Ab _ rfl (Jf ?_);(conv=>whnf))|(repeat (refine Gl ?_;(conv=>whnf))));refine A5 ?_))
    |refine Aq (by decide+kernel) (Ms.out ?_))
  all_goals
   refine Ms.mk (A8 ?_)
  all_goals
   refine L7 12 (Ap (r.2.2.sums.take r9.2.2.toNat)) rfl (Ti (es:=1) (e:=fun n=>[vi n]) (xs:=r.2.2.sums) (m:=r9.2.2.toNat) Ab) ?_
   exact Bm A0 (r9.1,r9.2.1,⟨r.2.2.queue,r.2.2.staged,r.2.2.inputs,r.2.2.cells,r.2.2.sums.take r9.2.2.toNat,r.2.2.black,r.2.2.caps,r.2.2.dones⟩) ⟨hr9.1,Sk hxw (by simp only [Ac.w,List.length_take];omega),A99 hx.o (A4a hx.o.n)⟩ rfl rfl rfl rfl At
 repeat refine B7 ?_
 refine ⟨fun c3=>?_,fun c3=>?_⟩<;>conv=>whnf
 ·refine Fk rfl ?_
  repeat' (first
    |(first|refine Aj A0 false 0 rfl rfl rfl (by decide+kernel) rfl (A4 B1) ?_|refine Aj A0 false 2 rfl rfl rfl (by decide+kernel) rfl (A4 B1) ?_)
    |((first|refine A3 [1,3] (by decide+kernel) ⟨?_,?_,trivial⟩|refine A3 [3] (by decide+kernel) ⟨?_,trivial⟩|refine A3 [4] (by decide+kernel) ⟨?_,trivial⟩|refine A3 [5] (by decide+kernel) ⟨?_,trivial⟩|refine A3 [6] (by decide+kernel) ⟨?_,trivial⟩|refine A3 [1,4] (by decide+kernel) ⟨?_,?_,trivial⟩|refine A3 [1] (by decide+kernel) ⟨?_,trivial⟩)<;>(refine go A0 false ?_;(conv=>whnf);(first|(refine Em 12 (Ap [1000000,1000001,-1000001]) rfl (Ba rfl (by repeat' (first|exact trivial|exact rfl|refine ⟨?_,?_⟩))) ?_;refine Ai (D4 d t.1 t.2.1 [1000000,1000001,-1000001] ht.1 Aw) hH hp rfl At rfl rfl (fun r9 hr9=>go A0 false ?_);(conv=>whnf))|(refine Al (j:=0) A0 rfl rfl rfl rfl rfl rfl rfl rfl _ (C0 (j:=0) (xs:=r.2.2.sums) (e:=fun n=>[vi n]) (x:=[1000000,1000001,-1000001].getD r9.2.2 0) Ab rfl) (Jf ?_);(conv=>whnf))|(repeat (refine Gl ?_;(conv=>whnf))));refine A5 ?_))
    |refine Aq (by decide+kernel) (Ms.out ?_))
  all_goals
   refine Ms.mk (A8 ?_)
  all_goals
   exact Bm A0 (r9.1,r9.2.1,⟨r.2.2.queue,r.2.2.staged,r.2.2.inputs,r.2.2.cells,r.2.2.sums.set 0 ([1000000,1000001,-1000001].getD r9.2.2 0),r.2.2.black,r.2.2.caps,r.2.2.dones⟩) ⟨hr9.1,Sk hxw (by simp only [Ac.w,List.length_set];omega),A99 hx.o (Po hx.o.n (Fl _ _ (by intro x hx;simp only [List.mem_cons,List.not_mem_nil,or_false] at hx;show _∧_;omega)))⟩ rfl rfl rfl rfl At
 repeat refine B7 ?_
 refine ⟨fun c4=>?_,fun c4=>?_⟩<;>conv=>whnf
 ·refine Fk rfl ?_
  repeat' (first
    |(first|refine Aj A0 false 0 rfl rfl rfl (by decide+kernel) rfl (A4 B1) ?_|refine Aj A0 false 2 rfl rfl rfl (by decide+kernel) rfl (A4 B1) ?_|refine Aj A0 false 4 rfl rfl rfl (by decide+kernel) rfl (A4 B1) ?_|refine Aj A0 false 8 rfl rfl rfl (by decide+kernel) rfl (A4 B1) ?_)
    |((first|refine A3 [1,3] (by decide+kernel) ⟨?_,?_,trivial⟩|refine A3 [3] (by decide+kernel) ⟨?_,trivial⟩|refine A3 [5] (by decide+kernel) ⟨?_,trivial⟩|refine A3 [6] (by decide+kernel) ⟨?_,trivial⟩|refine A3 [7] (by decide+kernel) ⟨?_,trivial⟩|refine A3 [9] (by decide+kernel) ⟨?_,trivial⟩|refine A3 [1,5] (by decide+kernel) ⟨?_,?_,trivial⟩|refine A3 [1,6] (by decide+kernel) ⟨?_,?_,trivial⟩|refine A3 [1] (by decide+kernel) ⟨?_,trivial⟩)<;>(refine go A0 false ?_;(conv=>whnf);(first|(refine Ai (Ah d t.1 t.2.1 6 ht.1 Aw) hH hp rfl At rfl rfl (fun r9 hr9=>go A0 false ?_);(conv=>whnf))|(refine Av A0 rfl rfl rfl rfl rfl rfl rfl rfl rfl rfl rfl (Il (r.2.2.dones++[⟨r9.2.2-1,false⟩])) (Ad rfl) Bj Ab (Jf ?_);(conv=>whnf))|(repeat (refine Gl ?_;(conv=>whnf))));refine A5 ?_))
    |refine Aq (by decide+kernel) (Ms.out ?_))
  all_goals
   refine Ms.mk (A8 ?_)
  all_goals
   exact Bm A0 (r9.1,r9.2.1,⟨r.2.2.queue,r.2.2.staged,r.2.2.inputs,r.2.2.cells,r.2.2.sums,r.2.2.black,r.2.2.caps,r.2.2.dones++[⟨r9.2.2-1,false⟩]⟩) ⟨hr9.1,Sk hxw A75,B30 hx.o (Hy hx.o.d (F6 (by have:=hr9.2.1;show _≤r9.2.2-1;omega) (by have:=hr9.2.2.2 Aw;show r9.2.2-1≤_;omega)))⟩ rfl rfl rfl rfl At
 repeat refine B7 ?_
 refine ⟨fun c5=>?_,fun c5=>?_⟩<;>conv=>whnf
 ·refine Ai (Ah d t.1 t.2.1 2 ht.1 Aw) hH hp rfl At rfl rfl (fun r9 hr9=>go A0 false ?_)
  conv=>whnf
  refine L7 12 (Il [⟨1,false⟩,⟨r9.2.2,true⟩]) rfl (Gq rfl Zs) ?_
  exact Bm A0 (r9.1,r9.2.1,⟨r.2.2.queue,r.2.2.staged,r.2.2.inputs,r.2.2.cells,r.2.2.sums,r.2.2.black,r.2.2.caps,[⟨1,false⟩,⟨r9.2.2,true⟩]⟩) ⟨hr9.1,Sk hxw (by simp only [Ac.w,List.length_cons,List.length_nil];omega),B30 hx.o (Hy (p:=Fi.ok) (xs:=[(⟨1,false⟩:Fi)]) (fun y hy=>by rw [List.mem_singleton.1 hy];exact F6 (n:=1) Aw Aw) (F6 (n:=r9.2.2) (by have:=hr9.2.1;show _≤r9.2.2;omega) (by have:=hr9.2.2.2 Aw;show r9.2.2≤_;omega)))⟩ rfl rfl rfl rfl At
 repeat refine B7 ?_
 refine ⟨fun c6=>?_,fun c6=>?_⟩<;>conv=>whnf
 ·refine Av A0 rfl rfl rfl rfl rfl rfl rfl rfl rfl rfl rfl (Eg (r.2.2.black++[true])) (Ad rfl) Bj Ab (A8 ?_)
  exact Bm A0 (t.1,t.2.1,⟨r.2.2.queue,r.2.2.staged,r.2.2.inputs,r.2.2.cells,r.2.2.sums,r.2.2.black++[true],r.2.2.caps,r.2.2.dones⟩) ⟨ht.1,Sk hxw A75,B3z hx.o⟩ rfl rfl rfl rfl At
 repeat refine B7 ?_
 refine ⟨fun c7=>?_,fun c7=>?_⟩<;>conv=>whnf
 ·refine Av A0 rfl rfl rfl rfl rfl rfl rfl rfl rfl rfl rfl (Bg (r.2.2.cells++[⟨0,0,0,0⟩])) (Ad rfl) Bj Ab (A8 ?_)
  exact Bm A0 (t.1,t.2.1,⟨r.2.2.queue,r.2.2.staged,r.2.2.inputs,r.2.2.cells++[⟨0,0,0,0⟩],r.2.2.sums,r.2.2.black,r.2.2.caps,r.2.2.dones⟩) ⟨ht.1,Sk hxw A75,B5u hx.o (Hy hx.o.c ⟨F6 Aw Aw,F6 Aw Aw,F6 Aw Aw,F6 Aw Aw⟩)⟩ rfl rfl rfl rfl At
 repeat refine B7 ?_
 exact Bm A0 (t.1,t.2.1,r.2.2) ⟨ht.1,by show r.2.2.w≤100;omega,hx.o⟩ rfl rfl rfl rfl At
structure JLk where
 k:Nat
 i:Int
 h:Int
 l:B8
theorem B2j {k:Nat}{l:B8}(h:l.queue.length≤k):(C3 l).1.queue.length≤k+1:=by
 unfold C3
 split
 ·show (l.queue.drop 1).length≤_;rw [List.length_drop];omega
 show l.queue.length≤_;omega
theorem B2h {k:Nat}{l:B8}(h:l.queue.length≤k):(D3 l).1.queue.length≤k+1:=by
 unfold D3
 split<;>(show l.queue.length≤_;omega)
theorem B2i {k:Nat}{l:B8}{r:A9}(h:l.queue.length≤k):(Cl l r).1.queue.length≤k+1:=by
 unfold Cl
 split
 ·show (l.queue++[r]).length≤_;rw [List.length_append];show l.queue.length+1≤_;omega
 show l.queue.length≤_;omega
set_option maxHeartbeats 4000000 in
theorem A8m (d:Dy)(i h:Int)(hi:0≤i∧i≤d.n):Cr Tryz.prog HT 123 d.pins (d.cur i h) [] (fun r:Int×Int×B8=>(0≤r.1∧r.1≤d.n)∧r.2.2.queue.length≤9∧OkL r.2.2) (fun r=>d.cur r.1 r.2.1) (fun r=>[.agg r.2.2.c]):=by
 refine Df A0 false Tryz.func123 rfl Aw fun B b hH hp=>?_
 conv=>whnf
 refine Ai (Ah d i h 4 hi Aw) hH hp rfl At rfl rfl (fun r hr=>go A0 false ?_)
 conv=>whnf
 have hr4:=hr.2.2.2 Aw
 have hr5:=hr.2.1
 (repeat refine Am ?_)
 refine Cx (Sd (1+r.2.2)) rfl (A8 ?_)
 refine Bv A0 false [8] (fun j:JLk=>[(4,.c (vi j.k))]) (fun j=>[⟨3,[.c (vi j.l.cap),.own 2,.c (vi j.l.credits),.c (vi j.l.back),.c (vi j.l.sent),.c (vi j.l.got)]⟩,⟨0,[.c (.val d.v),.c (vi j.i),.c (vi j.h)]⟩,⟨1,[.c (vi 0),.c (.val (.slice none 0 0)),.c (vi 0),.c (vi 0),.c (vi 0),.c (vi 0)]⟩]) (fun j=>[⟨2,Aa j.l.queue⟩]) (fun j=>(0≤j.i∧j.i≤d.n)∧j.k≤8∧j.l.queue.length≤j.k∧OkL j.l) (fun j=>9-j.k) (⟨0,r.1,r.2.1,Gk (1+r.2.2)⟩) (⟨hr.1,Nat.zero_le _,Nat.zero_le _,B21 _⟩) ⟨F3,trivial⟩ Cf ⟨F2,trivial⟩ Cj A7 (fun j hj=>?_)
 conv=>whnf
 obtain ⟨hi2,hk2,hx,hxo⟩:=hj
 have hlw:j.l.w=j.l.queue.length:=rfl
 refine Ai (Ah d j.i j.h 9 hi2 Aw) hH hp rfl At rfl rfl (fun s hs=>go A0 false ?_)
 conv=>whnf
 refine Es (fun hlt=>?_) fun hlt=>?_<;>conv=>whnf
 ·have hlt2:s.2.2<9:=hs.2.2.2 Aw
  refine Ai (Ah d s.1 s.2.1 4 hs.1 Aw) hH hp rfl At rfl rfl (fun t ht=>go A0 false ?_)
  conv=>whnf
  refine ⟨fun c0=>?_,fun c0=>?_⟩<;>conv=>whnf
  ·refine Cx (Ql j.l Ab) rfl (A8 ?_)
   (repeat refine Am ?_)
   refine B6 [(2,4)] (⟨j.k+1,t.1,t.2.1,(C3 j.l).1⟩) (⟨ht.1,by show j.k+1≤8;omega,B2j hx,A97 hxo⟩) (by show 9-(j.k+1)<_;omega) ⟨rfl,trivial⟩ ⟨rfl,trivial⟩ Cf A7 Cj A7
  refine ⟨fun c1=>?_,fun c1=>?_⟩<;>conv=>whnf
  ·refine Cx (Nl j.l Ab) rfl (A8 ?_)
   (repeat refine Am ?_)
   refine B6 [(2,4)] (⟨j.k+1,t.1,t.2.1,(D3 j.l).1⟩) (⟨ht.1,by show j.k+1≤8;omega,B2h hx,A95 hxo⟩) (by show 9-(j.k+1)<_;omega) ⟨rfl,trivial⟩ ⟨rfl,trivial⟩ Cf A7 Cj A7
  refine Fk rfl ?_
  repeat' (first
    |(first|refine Aj A0 false 1 rfl rfl rfl (by decide+kernel) rfl (A4 B1) ?_|refine Aj A0 false 4 rfl rfl rfl (by decide+kernel) rfl (A4 B1) ?_)
    |((first|refine A3 [0,2] (by decide+kernel) ⟨?_,?_,trivial⟩|refine A3 [2] (by decide+kernel) ⟨?_,trivial⟩|refine A3 [3] (by decide+kernel) ⟨?_,trivial⟩|refine A3 [5,6] (by decide+kernel) ⟨?_,?_,trivial⟩|refine A3 [6,7] (by decide+kernel) ⟨?_,?_,trivial⟩|refine A3 [7] (by decide+kernel) ⟨?_,trivial⟩|refine A3 [6] (by decide+kernel) ⟨?_,trivial⟩|refine A3 [5] (by decide+kernel) ⟨?_,trivial⟩|refine A3 [0] (by decide+kernel) ⟨?_,trivial⟩)<;>(refine go A0 false ?_;(conv=>whnf);(first|(refine Ai (Oz d t.1 t.2.1 ht.1) hH hp rfl At rfl rfl (fun r9 hr9=>go A0 false ?_);(conv=>whnf))|(refine Cx (Pd j.l r9.2.2 Ab) rfl (Jf ?_);(conv=>whnf))|(repeat (refine Gl ?_;(conv=>whnf))));refine A5 ?_))
    |refine Aq (by decide+kernel) (Ms.out ?_))
  all_goals
   refine Ms.mk (A8 ?_)
  all_goals
   (repeat refine Am ?_)
   refine B6 [(2,4)] (⟨j.k+1,r9.1,r9.2.1,(Cl j.l r9.2.2).1⟩) (⟨hr9.1,by show j.k+1≤8;omega,B2i hx,A96 hxo⟩) (by show 9-(j.k+1)<_;omega) ⟨rfl,trivial⟩ ⟨rfl,trivial⟩ Cf A7 Cj A7
 exact Bm A0 (s.1,s.2.1,j.l) ⟨hs.1,by show j.l.queue.length≤9;omega,hxo⟩ rfl rfl rfl rfl At
set_option maxHeartbeats 4000000 in
theorem Jv (d:Dy)(i h:Int)(hi:0≤i∧i≤d.n):Cr Tryz.prog HT 89 d.pins (d.cur i h) [] (fun r:Int×Int×B8=>(0≤r.1∧r.1≤d.n)∧r.2.2.queue.length≤10∧OkL r.2.2) (fun r=>d.cur r.1 r.2.1) (fun r=>[.agg r.2.2.c]):=by
 refine Df A0 false Tryz.func89 rfl Aw fun B b hH hp=>?_
 conv=>whnf
 refine Ai (A8m d i h hi) hH hp rfl At rfl rfl (fun r hr=>go A0 false ?_)
 conv=>whnf
 obtain ⟨hx,hxo⟩:=hr.2
 refine Ai (Ah d r.1 r.2.1 14 hr.1 Aw) hH hp rfl At rfl rfl (fun t ht=>go A0 false ?_)
 conv=>whnf
 refine ⟨fun c0=>?_,fun c0=>?_⟩<;>conv=>whnf
 ·refine Ai (Ah d t.1 t.2.1 6 ht.1 Aw) hH hp rfl At rfl rfl (fun r9 hr9=>go A0 false ?_)
  conv=>whnf
  have hn9:=hr9.2.2.2 Aw
  have hn8:=hr9.2.1
  (repeat refine Am ?_)
  exact Bm A0 (r9.1,r9.2.1,⟨r.2.2.cap,r.2.2.queue,r9.2.2-1,r.2.2.back,r.2.2.sent,r.2.2.got⟩) ⟨hr9.1,by show r.2.2.queue.length≤10;omega,hxo.c,hxo.q,F6 (by show _≤r9.2.2-1;omega) (by show r9.2.2-1≤_;omega),hxo.b,hxo.s,hxo.g⟩ rfl rfl rfl rfl At
 repeat refine B7 ?_
 refine ⟨fun c1=>?_,fun c1=>?_⟩<;>conv=>whnf
 ·refine Ai (Ah d t.1 t.2.1 6 ht.1 Aw) hH hp rfl At rfl rfl (fun r9 hr9=>go A0 false ?_)
  conv=>whnf
  have hn9:=hr9.2.2.2 Aw
  have hn8:=hr9.2.1
  (repeat refine Am ?_)
  exact Bm A0 (r9.1,r9.2.1,⟨r.2.2.cap,r.2.2.queue,r.2.2.credits,r9.2.2-1,r.2.2.sent,r.2.2.got⟩) ⟨hr9.1,by show r.2.2.queue.length≤10;omega,hxo.c,hxo.q,hxo.r,F6 (by show _≤r9.2.2-1;omega) (by show r9.2.2-1≤_;omega),hxo.s,hxo.g⟩ rfl rfl rfl rfl At
 repeat refine B7 ?_
 refine ⟨fun c2=>?_,fun c2=>?_⟩<;>conv=>whnf
 ·refine Em 4 (Ap [-1,0,1000000000,1000000001]) rfl (Ba rfl Cf) ?_
  refine Ai (D4 d t.1 t.2.1 [-1,0,1000000000,1000000001] ht.1 Aw) hH hp rfl At rfl rfl (fun r9 hr9=>go A0 false ?_)
  conv=>whnf
  exact Bm A0 (r9.1,r9.2.1,⟨r.2.2.cap,r.2.2.queue,r.2.2.credits,r.2.2.back,[-1,0,1000000000,1000000001].getD r9.2.2 0,r.2.2.got⟩) ⟨hr9.1,by show r.2.2.queue.length≤10;omega,hxo.c,hxo.q,hxo.r,hxo.b,Fl _ _ (by intro x hx;simp only [List.mem_cons,List.not_mem_nil,or_false] at hx;show _∧_;omega),hxo.g⟩ rfl rfl rfl rfl At
 repeat refine B7 ?_
 refine ⟨fun c3=>?_,fun c3=>?_⟩<;>conv=>whnf
 ·refine Fk rfl ?_
  repeat' (first
    |(first|refine Aj A0 false 0 rfl rfl rfl (by decide+kernel) rfl (A4 B1) ?_|refine Aj A0 false 2 rfl rfl rfl (by decide+kernel) rfl (A4 B1) ?_|refine Aj A0 false 6 rfl rfl rfl (by decide+kernel) rfl (A4 B1) ?_)
    |((first|refine A3 [1,3] (by decide+kernel) ⟨?_,?_,trivial⟩|refine A3 [3] (by decide+kernel) ⟨?_,trivial⟩|refine A3 [4] (by decide+kernel) ⟨?_,trivial⟩|refine A3 [5] (by decide+kernel) ⟨?_,trivial⟩|refine A3 [7] (by decide+kernel) ⟨?_,trivial⟩|refine A3 [1,4] (by decide+kernel) ⟨?_,?_,trivial⟩|refine A3 [1] (by decide+kernel) ⟨?_,trivial⟩)<;>(refine go A0 false ?_;(conv=>whnf);(first|(refine Ai (Jj d t.1 t.2.1 ht.1) hH hp rfl At rfl rfl (fun r9 hr9=>go A0 false ?_);(conv=>whnf))|(refine Av A0 rfl rfl rfl rfl rfl rfl rfl rfl rfl rfl rfl (Aa (r.2.2.queue++[r9.2.2])) (Ad rfl) Bj Ab (Jf ?_);(conv=>whnf))|(repeat (refine Gl ?_;(conv=>whnf))));refine A5 ?_))
    |refine Aq (by decide+kernel) (Ms.out ?_))
  all_goals
   refine Ms.mk (A8 ?_)
  all_goals
   exact Bm A0 (r9.1,r9.2.1,⟨r.2.2.cap,r.2.2.queue++[r9.2.2],r.2.2.credits,r.2.2.back,r.2.2.sent,r.2.2.got⟩) ⟨hr9.1,by show (r.2.2.queue++[r9.2.2]).length≤10;rw [List.length_append];show r.2.2.queue.length+1≤10;omega,hxo.c,Hy hxo.q hr9.2,hxo.r,hxo.b,hxo.s,hxo.g⟩ rfl rfl rfl rfl At
 repeat refine B7 ?_
 refine ⟨fun c4=>?_,fun c4=>?_⟩<;>conv=>whnf
 ·(repeat refine Am ?_)
  exact Bm A0 (t.1,t.2.1,⟨r.2.2.cap,r.2.2.queue,r.2.2.credits,r.2.2.back,1000000000,1000000000-r.2.2.queue.length⟩) ⟨ht.1,by show r.2.2.queue.length≤10;omega,hxo.c,hxo.q,hxo.r,hxo.b,F6 (n:=1000000000) Aw Aw,F6 (by show _≤(1000000000:Int)-r.2.2.queue.length;omega) (by show (1000000000:Int)-r.2.2.queue.length≤_;omega)⟩ rfl rfl rfl rfl At
 repeat refine B7 ?_
 exact Bm A0 (t.1,t.2.1,r.2.2) ⟨ht.1,by show r.2.2.queue.length≤10;omega,hxo⟩ rfl rfl rfl rfl At
end Go.Proofs.YtdendlkeiaccpaaGreat
