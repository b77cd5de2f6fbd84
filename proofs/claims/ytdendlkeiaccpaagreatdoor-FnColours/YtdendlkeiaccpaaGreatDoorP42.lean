/- Part 42 of the proof that each of the laws FnColours returns true for every input. No conditions. -/
import Derived.Test.YtdendlkeiaccpaaGreatDoorP41
import Derived.Test.YtdendlkeiaccpaaGreatDoorP5
import Derived.Test.YtdendlkeiaccpaaGreatDoorP6
import Derived.Test.YtdendlkeiaccpaaGreatDoorP3
import Derived.Test.YtdendlkeiaccpaaGreatDoorP36
import Derived.Test.YtdendlkeiaccpaaGreatDoorP14

set_option linter.unusedSimpArgs false
set_option linter.unusedVariables false
set_option maxRecDepth 100000
namespace Go.Proofs.YtdendlkeiaccpaaGreatDoor
open Go.Sx
def Pw (t:Cu):ByteArray:=
 if t.going then
  (if t.capped then dec t.at_++(⟨#[32]⟩:ByteArray)++dec t.sum++(if t.black then (⟨#[32,98,108,97,99,107]⟩:ByteArray) else (⟨#[32,119,104,105,116,101]⟩:ByteArray))++(⟨#[32,99,97,112,112,101,100]⟩:ByteArray) else dec t.at_++(⟨#[32]⟩:ByteArray)++dec t.sum++(if t.black then (⟨#[32,98,108,97,99,107]⟩:ByteArray) else (⟨#[32,119,104,105,116,101]⟩:ByteArray)))
 else (⟨#[114,101,115,116]⟩:ByteArray)
theorem Yh (t:Cu)(o:t.ok):Be Tryz.prog 18 [.agg t.c] [.one (vs (Pw t))]:=by
 obtain ⟨g,a,s,b,c⟩:=t
 have o1:Eu .i64 a:=by simp [Cu.ok] at o;exact o.1
 have o2:Eu .i64 s:=by simp [Cu.ok] at o;exact o.2
 have d1:=Rl o1
 have d2:=Rl o2
 refine B5 A0 false Tryz.func18 rfl Az fun W=>?_
 conv=>whnf
 repeat' (first|(refine J1 ?_;conv=>whnf)|(refine J2 ?_;conv=>whnf)|(refine ⟨fun h=>?_,fun h=>?_⟩<;>conv=>whnf)|(refine At (Uc _ o1) rfl (A8 ?_))|(refine At (Uc _ o2) rfl (A8 ?_))|(refine Ep ?_;conv=>whnf)|(refine Ax 3 rfl [0,1,4,5,2,3,6,7,8] A7 (A8 ?_))|fail)
 all_goals (refine Ap A0 rfl rfl ⟨congrArg vs ?_,trivial⟩;simp_all [Pw])
theorem Q3 (t:Cu)(o:t.ok):Kk Tryz.prog Tab 17 [.agg t.c] [.one (vs (Pw t))]:=by
 obtain ⟨g,a,s,b,c⟩:=t
 have o1:Eu .i64 a:=by simp [Cu.ok] at o;exact o.1
 have o2:Eu .i64 s:=by simp [Cu.ok] at o;exact o.2
 have d1:=Rl o1
 have d2:=Rl o2
 refine A0z A0 false Tryz.func17 rfl Az fun W hW=>?_
 conv=>whnf
 repeat' (first|(refine J1 ?_;conv=>whnf)|(refine J2 ?_;conv=>whnf)|(refine ⟨fun h=>?_,fun h=>?_⟩<;>conv=>whnf)|(refine Vo (Tw _ o1) Pg hW rfl (A8 ?_))|(refine Vo (Tw _ o2) Pg hW rfl (A8 ?_))|(refine Ep ?_;conv=>whnf)|(refine Ax 3 rfl [0,1,4,5,2,3,6,7,8] A7 (A8 ?_))|fail)
 all_goals (refine Ap A0 rfl rfl ⟨congrArg vs ?_,trivial⟩;simp_all [Pw])
def A01 (l:List Bool) (k:Int):Bool:=if Di k 0 (l.length-1) then l.getD k.toNat default else false
def Ih (p:Nat→Bool) (n:Nat):List Int:=(List.range n).flatMap fun k=>if p k then [(k:Int)] else []
theorem Nv (p:Nat→Bool)(k:Nat):Ih p (k+1)=Ih p k++if p k then [(k:Int)] else []:=Jb _ _
theorem Ms (p:Nat→Bool)(k:Nat):(Ih p k).length≤k:=by
 induction k with
 |zero=>exact Nat.le_refl _
 |succ k ih=>rw [Nv,List.length_append];split<;>simp<;>omega
def Hd (x:A3) (e:Int) (k:Nat):Bool:=A01 (x.workers.getD k default).black e
def Jl (x:A3) (e:Int) (k:Nat):Bool:=A01 (x.workers.getD k default).caps e
theorem Vl (x:Aa):x.black.length≤x.w:=by simp only [Aa.w];omega
theorem Yv (x:Aa):x.caps.length≤x.w:=by simp only [Aa.w];omega
theorem Tx (l:List Bool)(k:Int)(hx:l.length≤16777216):Be Tryz.prog 57 [.one (Dq l),.one (vi k)] [.one (vb (A01 l k))]:=by
 refine B5 A0 false Tryz.func57 rfl Az fun W=>?_
 conv=>whnf
 (repeat refine An ?_)
 refine At (I3 k 0 (l.length-1)) rfl (A8 ?_)
 by_cases h1:Di k 0 (l.length-1)=true
 ·have h2:=Go.Sx.Ah.1 h1
  repeat' (first|(refine J1 ?_;conv=>whnf)|(refine J2 ?_;conv=>whnf)|(refine ⟨fun h=>?_,fun h=>?_⟩<;>conv=>whnf)|(refine Ex ?_;conv=>whnf)|fail)
  exact Ap A0 rfl rfl ⟨congrArg vb (by rw [A01,if_pos h1]),trivial⟩
 have h3:Di k 0 (l.length-1)=false:=by simpa using h1
 repeat' (first|(refine J1 ?_;conv=>whnf)|(refine J2 ?_;conv=>whnf)|(refine ⟨fun h=>?_,fun h=>?_⟩<;>conv=>whnf)|(refine Ex ?_;conv=>whnf)|fail)
 exact Ap A0 rfl rfl ⟨congrArg vb (by rw [A01,if_neg h1]),trivial⟩
theorem B7o (x:A3)(hx:x.w≤16777216)(f:Nat)(cs ds:List Af)(p:Nat→Bool)(hf:∀k:Nat,k<x.workers.length→Be Tryz.prog f [.one (vi k),.ptr cs,.ptr ds] [.one (vb (p k))]):
  Be Tryz.prog 55 [.agg x.c,.fn f [.ptr cs,.ptr ds]] [.one (Au (Ih p x.workers.length))]:=by
 have hl:=A3.workers_le hx
 refine B5 A0 false Tryz.func55 rfl Az fun W=>?_
 conv=>whnf
 refine B9g 5 1 (fun i=>(fun n=>[vi n]) (([]:List Int).getD i default)) rfl ?_
 refine C0 A0 false [] (fun k:Nat=>[(10,.c (vi k))]) (fun k=>[]) (fun k=>[⟨1,Au (Ih p k)⟩])
  (fun k=>k≤x.workers.length) (fun k=>x.workers.length-k) 0 (Nat.zero_le _) ⟨G3,trivial⟩ trivial ⟨Ek,trivial⟩ Co A7 (fun k hk=>?_)
 conv=>whnf
 refine F4 (fun h'=>?_) fun h'=>?_<;>conv=>whnf
 ·have h':k<x.workers.length:=by omega
  have ht:=Nv p k
  have hn:=Ms p k
  (repeat refine An ?_)
  refine At (hf k h') rfl (A8 ?_)
  refine ⟨fun hc=>?_,fun hc=>?_⟩<;>conv=>whnf
  ·(repeat refine An ?_)
   refine B6 A0 rfl rfl rfl rfl rfl rfl rfl rfl rfl rfl rfl (Au (Ih p k++[(k:Int)])) (Ad rfl) Bp Ac (A8 ?_)
   (repeat refine An ?_)
   refine B8 [(1,3)] (k+1) Ac Ac ⟨rfl,trivial⟩ ⟨congrArg Au (by rw [ht,if_pos hc]),trivial⟩ trivial A7 Co A7
  (repeat refine An ?_)
  refine B8 [] (k+1) Ac Ac ⟨rfl,trivial⟩ ⟨congrArg Au (by rw [ht,if_neg (by rw [hc];decide),List.append_nil]),trivial⟩ trivial A7 Co A7
 refine Ap A0 rfl rfl ⟨?_,trivial⟩
 exact congrArg (fun k=>Au (Ih p k)) (show k=x.workers.length by omega)
theorem A4m (x:A3)(e:Int)(hx:x.w≤16777216):Be Tryz.prog 14 [.agg x.c,.one (vi e)] [.one (Au (Ih (Hd x e) x.workers.length))]:=by
 have hl:=A3.workers_le hx
 refine B5 A0 false Tryz.func14 rfl Az fun W=>?_
 conv=>whnf
 refine Eo 1 (Au []) rfl Du ?_
 refine C0 A0 false [7] (fun k:Nat=>[(6,.c (vi k))]) (fun k=>[⟨0,[.c (Bn x.graph.nodes),.c (vi x.graph.workers),.c (vi x.graph.cap),.c (Al x.workers),.c (Cf x.links),.c (Bo x.tokens),.c (C5 x.news)]⟩]) (fun k=>[⟨1,Au (Ih (Hd x e) k)⟩])
  (fun k=>k≤x.workers.length) (fun k=>x.workers.length-k) 0 (Nat.zero_le _) ⟨G3,trivial⟩ Cg ⟨Ek,trivial⟩ Co A7 (fun k hk=>?_)
 conv=>whnf
 refine F4 (fun h'=>?_) fun h'=>?_<;>conv=>whnf
 ·have h':k<x.workers.length:=by omega
  have hw:=Go.Sx.A3.worker_le hx h'
  have hq:=Nat.le_trans (Vl (x.workers.getD k default)) (show _≤16777216 by omega)
  have ht:=Nv (Hd x e) k
  have hn:=Ms (Hd x e) k
  (repeat refine An ?_)
  refine At (Fc e 0 ((x.workers.getD k default).black.length-1)) rfl (A8 ?_)
  by_cases h1:Di e 0 ((x.workers.getD k default).black.length-1)=true
  ·have h2:=Go.Sx.Ah.1 h1
   have hc0:Hd x e k=(x.workers.getD k default).black.getD e.toNat default:=by rw [Hd,A01,if_pos h1]
   repeat' (first|(refine J1 ?_;conv=>whnf)|(refine J2 ?_;conv=>whnf)|(refine ⟨fun h=>?_,fun h=>?_⟩<;>conv=>whnf)|(refine Ex ?_;conv=>whnf)|fail)
   ·have hc:Hd x e k=true:=by rw [hc0];exact h
    rw [if_pos hc] at ht
    refine B6 A0 rfl rfl rfl rfl rfl rfl rfl rfl rfl rfl rfl (Au (Ih (Hd x e) k++[(k:Int)])) (Ad rfl) Bp Ac (A8 ?_)
    (repeat refine An ?_)
    refine B8 [(1,3)] (k+1) Ac Ac ⟨rfl,trivial⟩ ⟨congrArg Au ht.symm,trivial⟩ Cg A7 Co A7
   have hc:Hd x e k=false:=by rw [hc0];exact h
   rw [if_neg (by rw [hc];decide),List.append_nil] at ht
   (repeat refine An ?_)
   refine B8 [] (k+1) Ac Ac ⟨rfl,trivial⟩ ⟨congrArg Au ht.symm,trivial⟩ Cg A7 Co A7
  have h3:Di e 0 ((x.workers.getD k default).black.length-1)=false:=by simpa using h1
  have hc:Hd x e k=false:=by rw [Hd,A01,if_neg h1]
  rw [if_neg (by rw [hc];decide),List.append_nil] at ht
  repeat' (first|(refine J1 ?_;conv=>whnf)|(refine J2 ?_;conv=>whnf)|(refine ⟨fun h=>?_,fun h=>?_⟩<;>conv=>whnf)|(refine Ex ?_;conv=>whnf)|fail)
  refine B8 [] (k+1) Ac Ac ⟨rfl,trivial⟩ ⟨congrArg Au ht.symm,trivial⟩ Cg A7 Co A7
 refine Ap A0 rfl rfl ⟨?_,trivial⟩
 exact congrArg (fun k=>Au (Ih (Hd x e) k)) (show k=x.workers.length by omega)
theorem A05 (x:A3)(e:Int)(hx:x.w≤16777216)(k:Nat)(hk:k<x.workers.length):Be Tryz.prog 56 [.one (vi k),.ptr x.c,.ptr [vi e]] [.one (vb (Hd x e k))]:=by
 have hl:=A3.workers_le hx
 have hw:=Go.Sx.A3.worker_le hx hk
 have hq:=Nat.le_trans (Vl (x.workers.getD k default)) (show _≤16777216 by omega)
 refine B5 A0 false Tryz.func56 rfl Az fun W=>?_
 conv=>whnf
 first|(refine Ax 1 rfl [0,1,2,3,4,5,6,7,8] A7 (A8 ?_))
 (repeat refine An ?_)
 refine At (Tx (x.workers.getD k default).black e hq) rfl (A8 ?_)
 (repeat refine An ?_)
 exact Ap A0 rfl rfl ⟨rfl,trivial⟩
theorem A3i (x:A3)(e:Int)(hx:x.w≤16777216):Be Tryz.prog 13 [.agg x.c,.one (vi e)] [.one (Au (Ih (Hd x e) x.workers.length))]:=by
 refine B5 A0 false Tryz.func13 rfl Az fun W=>?_
 conv=>whnf
 refine Cn (B7o x hx _ x.c [vi e] (Hd x e) (fun k hk=>A05 x e hx k hk)) rfl (A8 ?_)
 exact Ap A0 rfl rfl ⟨rfl,trivial⟩
theorem A6o (x:A3)(e:Int)(hx:x.w≤16777216):Be Tryz.prog 16 [.agg x.c,.one (vi e)] [.one (Au (Ih (Jl x e) x.workers.length))]:=by
 have hl:=A3.workers_le hx
 refine B5 A0 false Tryz.func16 rfl Az fun W=>?_
 conv=>whnf
 refine Eo 1 (Au []) rfl Du ?_
 refine C0 A0 false [7] (fun k:Nat=>[(6,.c (vi k))]) (fun k=>[⟨0,[.c (Bn x.graph.nodes),.c (vi x.graph.workers),.c (vi x.graph.cap),.c (Al x.workers),.c (Cf x.links),.c (Bo x.tokens),.c (C5 x.news)]⟩]) (fun k=>[⟨1,Au (Ih (Jl x e) k)⟩])
  (fun k=>k≤x.workers.length) (fun k=>x.workers.length-k) 0 (Nat.zero_le _) ⟨G3,trivial⟩ Cg ⟨Ek,trivial⟩ Co A7 (fun k hk=>?_)
 conv=>whnf
 refine F4 (fun h'=>?_) fun h'=>?_<;>conv=>whnf
 ·have h':k<x.workers.length:=by omega
  have hw:=Go.Sx.A3.worker_le hx h'
  have hq:=Nat.le_trans (Yv (x.workers.getD k default)) (show _≤16777216 by omega)
  have ht:=Nv (Jl x e) k
  have hn:=Ms (Jl x e) k
  (repeat refine An ?_)
  refine At (Fc e 0 ((x.workers.getD k default).caps.length-1)) rfl (A8 ?_)
  by_cases h1:Di e 0 ((x.workers.getD k default).caps.length-1)=true
  ·have h2:=Go.Sx.Ah.1 h1
   have hc0:Jl x e k=(x.workers.getD k default).caps.getD e.toNat default:=by rw [Jl,A01,if_pos h1]
   repeat' (first|(refine J1 ?_;conv=>whnf)|(refine J2 ?_;conv=>whnf)|(refine ⟨fun h=>?_,fun h=>?_⟩<;>conv=>whnf)|(refine Ex ?_;conv=>whnf)|fail)
   ·have hc:Jl x e k=true:=by rw [hc0];exact h
    rw [if_pos hc] at ht
    refine B6 A0 rfl rfl rfl rfl rfl rfl rfl rfl rfl rfl rfl (Au (Ih (Jl x e) k++[(k:Int)])) (Ad rfl) Bp Ac (A8 ?_)
    (repeat refine An ?_)
    refine B8 [(1,3)] (k+1) Ac Ac ⟨rfl,trivial⟩ ⟨congrArg Au ht.symm,trivial⟩ Cg A7 Co A7
   have hc:Jl x e k=false:=by rw [hc0];exact h
   rw [if_neg (by rw [hc];decide),List.append_nil] at ht
   (repeat refine An ?_)
   refine B8 [] (k+1) Ac Ac ⟨rfl,trivial⟩ ⟨congrArg Au ht.symm,trivial⟩ Cg A7 Co A7
  have h3:Di e 0 ((x.workers.getD k default).caps.length-1)=false:=by simpa using h1
  have hc:Jl x e k=false:=by rw [Jl,A01,if_neg h1]
  rw [if_neg (by rw [hc];decide),List.append_nil] at ht
  repeat' (first|(refine J1 ?_;conv=>whnf)|(refine J2 ?_;conv=>whnf)|(refine ⟨fun h=>?_,fun h=>?_⟩<;>conv=>whnf)|(refine Ex ?_;conv=>whnf)|fail)
  refine B8 [] (k+1) Ac Ac ⟨rfl,trivial⟩ ⟨congrArg Au ht.symm,trivial⟩ Cg A7 Co A7
 refine Ap A0 rfl rfl ⟨?_,trivial⟩
 exact congrArg (fun k=>Au (Ih (Jl x e) k)) (show k=x.workers.length by omega)
theorem A3j (x:A3)(e:Int)(hx:x.w≤16777216)(k:Nat)(hk:k<x.workers.length):Be Tryz.prog 58 [.one (vi k),.ptr x.c,.ptr [vi e]] [.one (vb (Jl x e k))]:=by
 have hl:=A3.workers_le hx
 have hw:=Go.Sx.A3.worker_le hx hk
 have hq:=Nat.le_trans (Yv (x.workers.getD k default)) (show _≤16777216 by omega)
 refine B5 A0 false Tryz.func58 rfl Az fun W=>?_
 conv=>whnf
 first|(refine Ax 1 rfl [0,1,2,3,4,5,6,7,8] A7 (A8 ?_))
 (repeat refine An ?_)
 refine At (Tx (x.workers.getD k default).caps e hq) rfl (A8 ?_)
 (repeat refine An ?_)
 exact Ap A0 rfl rfl ⟨rfl,trivial⟩
theorem A5x (x:A3)(e:Int)(hx:x.w≤16777216):Be Tryz.prog 15 [.agg x.c,.one (vi e)] [.one (Au (Ih (Jl x e) x.workers.length))]:=by
 refine B5 A0 false Tryz.func15 rfl Az fun W=>?_
 conv=>whnf
 refine Cn (B7o x hx _ x.c [vi e] (Jl x e) (fun k hk=>A3j x e hx k hk)) rfl (A8 ?_)
 exact Ap A0 rfl rfl ⟨rfl,trivial⟩
theorem B75 (a:Option Addr)(n cp:Nat):Be Tryz.prog 5 [.one (.val (.slice a n cp))] [.one (vb (decide ((n:Int)>1_048_576)))]:=by
 refine B5 A0 false Tryz.func5 rfl Az fun W=>?_
 conv=>whnf
 exact Ap A0 rfl rfl ⟨by rfl,trivial⟩
theorem A4i (a b:List Int)(ha:a.length≤16777216)(hb:b.length≤16777216):Be Tryz.prog 12 [.one (Au a),.one (Au b)] [.one (vb (decide (a=b)))]:=by
 refine B5 A0 false Tryz.func12 rfl Az fun W=>?_
 conv=>whnf
 refine ⟨fun hn=>have hn:=bne_iff_ne.1 hn;?_,fun hn=>have hn:=bne_eq_false_iff_eq.1 hn;?_⟩<;>conv=>whnf
 ·exact Ap A0 rfl rfl ⟨congrArg vb (decide_eq_false fun e=>hn (by rw [e])),trivial⟩
 refine C0 A0 false [] (fun k:Nat=>[(5,.c (vi k))]) (fun k=>[]) (fun k=>[])
  (fun k=>k≤a.length∧a.take k=b.take k) (fun k=>a.length-k) 0 ⟨Nat.zero_le _,by first|rfl|assumption|simp⟩ ⟨G3,trivial⟩ trivial trivial Co A7 (fun k hk=>?_)
 obtain ⟨hk,he⟩:=hk
 conv=>whnf
 refine F4 (fun h=>?_) fun h=>?_<;>conv=>whnf
 ·have h:k<a.length:=by omega
  have hs:=A15 a b k he h Ac
  (repeat refine An ?_)
  first|(refine Ax 6 rfl [0,1,2,3,4,5,6,7,8] A7 (A8 ?_))
  (repeat refine An ?_)
  refine ⟨fun hc=>?_,fun hc=>?_⟩<;>conv=>whnf
  ·have hc:(!decide (a.getD k default=b.getD k default))=true:=by rw [←A7v];exact hc
   exact Ap A0 rfl rfl ⟨congrArg vb (decide_eq_false fun e=>by subst e;simp at hc),trivial⟩
  have hc:(!decide (a.getD k default=b.getD k default))=false:=by rw [←A7v];exact hc
  (repeat refine An ?_)
  refine B8 [] (k+1) ⟨by omega,hs.2 (by simpa using hc)⟩ Ac ⟨rfl,trivial⟩ trivial trivial A7 Co A7
 exact Ap A0 rfl rfl ⟨congrArg vb (decide_eq_true (by rw [←Ed a k Ac,he,Ed b k Ac])),trivial⟩
def A0k (x:A3) (e:Int):Bool:=x.workers.all (fun w=>Bf w e)
theorem A4l (x:A3)(e:Int)(h:x.w≤16777216):Be Tryz.prog 25 [.agg x.c,.one (vi e)] [.one (vb (A0k x e))]:=by
 have hl:=A3.workers_le h
 refine B5 A0 false Tryz.func25 rfl Az fun W=>?_
 conv=>whnf
 refine C0 A0 false [] (fun k:Nat=>[(5,.c (vi k))]) (fun k=>[⟨0,[.c (Bn x.graph.nodes),.c (vi x.graph.workers),.c (vi x.graph.cap),.c (Al x.workers),.c (Cf x.links),.c (Bo x.tokens),.c (C5 x.news)]⟩]) (fun k=>[])
  (fun k=>k≤x.workers.length∧(x.workers.take k).all (fun w=>Bf w e)=true) (fun k=>x.workers.length-k) 0 ⟨Nat.zero_le _,by first|rfl|assumption|simp⟩ ⟨G3,trivial⟩ Cg trivial Co A7 (fun k hk=>?_)
 obtain ⟨hk,he⟩:=hk
 conv=>whnf
 refine F4 (fun h'=>?_) fun h'=>?_<;>conv=>whnf
 ·have h':k<x.workers.length:=by omega
  have hw:=Go.Sx.A3.worker_le h h'
  (repeat refine An ?_)
  refine At (R7 (x.workers.getD k default) e Ac) rfl (A8 ?_)
  refine ⟨fun hc=>?_,fun hc=>?_⟩<;>conv=>whnf
  ·exact Ap A0 rfl rfl ⟨congrArg vb (Oe h' (by simpa using hc)),trivial⟩
  (repeat refine An ?_)
  refine B8 [] (k+1) ⟨by omega,M8 he h' (by simpa using hc)⟩ Ac ⟨rfl,trivial⟩ trivial Cg A7 Co A7
 exact Ap A0 rfl rfl ⟨congrArg vb (by rw [Ed x.workers k Ac] at he;exact he),trivial⟩
theorem A5p {c:A3}(h:Qi c):∃k,k≤600∧I1 k c:=by
 obtain ⟨g,ins,pk,m,⟨hgd,hgs⟩,hin,hpk,hm,rfl⟩:=h
 have hN:=Uw hgs hin
 have hR:=(B3i hN).runs (l:=pk) Ac
 obtain ⟨m',hm',hf,_⟩:=Rp m (Bg (B4 g ins).1 pk).1
 rw [hf]
 exact ⟨_,by omega,hR.frN m' Ac⟩
theorem B5c {c:A3}(h:Qi c){e:Int}(he:0≤e∧e≤3)(ho:Lf c e=true):Lf (D7 1 c).1 e=true∧A0k (D7 40 c).1 e=true:=by
 obtain ⟨k,hk,hR⟩:=A5p h
 have ho:=A35.1 ho
 refine ⟨A35.2 (Zi 1 hR Ac he ho).1,?_⟩
 have hd:=(Zi 40 hR Ac he ho).2 Az
 have hl:=(Rr 40 c).1
 unfold A0k
 rw [List.all_eq_true]
 intro w hw
 obtain ⟨i,hi,rfl⟩:=A1d hw
 exact hd i Ac
set_option maxHeartbeats 4000000 in
theorem A9q (xs:List UInt8):Kk Tryz.prog Tab 3 [.one (U8 xs)] [.one (vb true)]:=by
 refine B5m A0 false Tryz.func3 rfl Az fun W hW a cp hp=>?_
 conv=>whnf
 have hH:∀w,Ba.rel ⟨W,fun _=>False⟩ w→HT w:=fun _ _=>trivial
 refine At (B75 a xs.length cp) rfl (A8 ?_)
 refine ⟨fun hb=>?_,fun hb=>?_⟩<;>conv=>whnf
 ·exact Ap A0 rfl rfl ⟨rfl,trivial⟩
 have hb:(xs.length:Int)≤16777216:=by have:=of_decide_eq_false hb;omega
 let d:E4:=⟨a,xs.length,cp,fun i=>(xs.getD i default).toNat,fun i=>by have:=(xs.getD i default).toNat_lt;omega,by omega⟩
 have hp:Kv ⟨W,fun _=>False⟩ d.pins:=hp
 refine Oh (B7x d) hH hp rfl (fun r hr=>go A0 false ?_)
 conv=>whnf
 obtain ⟨c,e⟩:=r
 obtain ⟨hcw,hcg⟩:c.w≤7000∧M6 c:=hr
 refine Oh (A27 d) hH hp rfl (fun r2 hr2=>go A0 false ?_)
 conv=>whnf
 obtain ⟨u,ep⟩:=r2
 obtain ⟨huw,huo⟩:A5a u:=hr2
 refine Oh (B5i d) hH hp rfl (fun t ht=>go A0 false ?_)
 conv=>whnf
 refine Oh (A5n d) hH hp rfl (fun r3 hr3=>go A0 false ?_)
 conv=>whnf
 obtain ⟨f,g⟩:=r3
 obtain ⟨hfw,hfo⟩:B07 f:=hr3
 have hwl:=A3.workers_le huw
 have hbl:=Ms (Hd u ep) u.workers.length
 have hql:=Ms (Jl u ep) u.workers.length
 first|(refine Ax 7 rfl [0,1,3,4,2,5,6,7,8,9,11,12,10,13,14,15,16,17,18,19,21,22,20,23,24,25,26,27,28,30,29,31,32,33,34,35,36,38,39,37,40,41,42,43,44,45,47,48,46,49,50,51] A7 (A8 ?_))
 refine At (Y4 c e Ac hcg) rfl (A8 ?_)
 refine At (Ye c e Ac) rfl (A8 ?_)
 repeat refine Bd ?_
 refine At (A3i u ep Ac) rfl (A8 ?_)
 repeat refine Bd ?_
 refine At (A4m u ep Ac) rfl (A8 ?_)
 repeat refine Bd ?_
 refine At (A4i (Ih (Hd u ep) u.workers.length) (Ih (Hd u ep) u.workers.length) Ac Ac) rfl (A8 ?_)
 repeat refine Bd ?_
 refine At (A5x u ep Ac) rfl (A8 ?_)
 repeat refine Bd ?_
 refine At (A6o u ep Ac) rfl (A8 ?_)
 repeat refine Bd ?_
 refine At (A4i (Ih (Jl u ep) u.workers.length) (Ih (Jl u ep) u.workers.length) Ac Ac) rfl (A8 ?_)
 repeat refine Bd ?_
 refine Vo (Q3 t ht) Pg hW rfl (A8 ?_)
 repeat refine Bd ?_
 refine At (Yh t ht) rfl (A8 ?_)
 repeat refine Bd ?_
 refine A3p (by rw [A7d];rfl) ?_
 conv=>whnf
 repeat refine Bd ?_
 refine At (Ol f g Ac) rfl (A8 ?_)
 repeat refine Bd ?_
 refine At (Pa f g Ac) rfl (A8 ?_)
 repeat refine Bd ?_
 refine At (Qw f g Ac) rfl (A8 ?_)
 repeat refine Bd ?_
 refine At (A6s f g Ac) rfl (A8 ?_)
 repeat refine Bd ?_
 refine Oh (A28 d) hH hp rfl (fun X hX=>go A0 false ?_)
 conv=>whnf
 have hXs:=Kx hX
 have hXw:=hXs.w
 have ogX:Eu .i64 X.graph.workers:=A7b hXs.g.1
 have b1:(Dw 1 0 3000).toNat=1:=by decide
 have b40:(Dw 40 0 3000).toNat=40:=by decide
 refine C0 A0 false [3,4,5,6,7,8,9,12,13,14,15,16,17,18,19,20,21,22,23,24,25,26,27,28,29,30,31,32,33,34,35,36,37,38,39,40,41,42,43,44,45,46,47,48,49,50,51,52,53,54,55,56,57,58,59,60,61,62,63,64,65,66,67,68,69,70,71,72,73,74,75,76,77,78,79,80,81,82,83,84,85,86,87,88] (fun k:Nat=>[(11,.c (vi k))]) (fun k=>[⟨24,[.own 19,.c (vi X.graph.workers),.c (vi X.graph.cap),.own 20,.own 21,.own 22,.own 23]⟩]) (fun k=>[⟨19,Bn X.graph.nodes⟩,⟨20,Al X.workers⟩,⟨21,Cf X.links⟩,⟨22,Bo X.tokens⟩,⟨23,C5 X.news⟩])
  (fun k=>k≤4) (fun k=>4-k) 0 (Nat.zero_le _) ⟨G3,trivial⟩ Cg ⟨Ek,Ek,Ek,Ek,Ek,trivial⟩ Co A7 (fun k hk=>?_)
 conv=>whnf
 conv=>whnf
 refine ⟨fun hlt=>?_,fun hlt=>?_⟩<;>conv=>whnf
 ·have hlt:k<4:=by have:=of_decide_eq_true hlt;omega
  refine At (Qw X k Ac) rfl (A8 ?_)
  cases hov:Lf X k
  ·repeat refine Bd ?_
   (repeat refine An ?_)
   refine B8 [] (k+1) Ac Ac ⟨rfl,trivial⟩ ⟨rfl,rfl,rfl,rfl,rfl,trivial⟩ Cg A7 Co A7
  obtain ⟨l1,l2⟩:=B5c hX ⟨Int.natCast_nonneg k,by omega⟩ hov
  have w1:=Pn 1 X
  have w2:=Pn 40 X
  repeat refine Bd ?_
  refine Cn (Kg X 1 Ac ogX) rfl (A8 ?_)
  rw [b1]
  generalize D7 1 X=Y at *
  repeat refine Bd ?_
  refine Cn (Kg X 40 Ac ogX) rfl (A8 ?_)
  rw [b40]
  generalize D7 40 X=Z at *
  repeat refine Bd ?_
  refine At (Qw Y.1 k Ac) rfl (A8 ?_)
  rw [l1]
  repeat refine Bd ?_
  refine At (A4l Z.1 k Ac) rfl (A8 ?_)
  rw [l2]
  repeat refine Bd ?_
  (repeat refine An ?_)
  refine B8 [] (k+1) Ac Ac ⟨rfl,trivial⟩ ⟨rfl,rfl,rfl,rfl,rfl,trivial⟩ Cg A7 Co A7
 refine Vo (Q3 ⟨false,0,0,false,false⟩ ⟨Fb Az Az,Fb Az Az⟩) Pg hW rfl (A8 ?_)
 exact Ap A0 rfl rfl ⟨congrArg vb (A7d (⟨#[114,101,115,116]⟩:ByteArray)),trivial⟩
end Go.Proofs.YtdendlkeiaccpaaGreatDoor
