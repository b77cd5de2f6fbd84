/- Part 35 of the proof that each of the laws FnStalls returns true for every input. No conditions. -/
import Derived.Test.YtonodkjaoalfjaaGreatP34
import Derived.Test.YtonodkjaoalfjaaGreatP10
import Derived.Test.YtonodkjaoalfjaaGreatP27

set_option linter.unusedSimpArgs false
set_option linter.unusedVariables false
set_option maxRecDepth 100000
namespace Go.Proofs.YtonodkjaoalfjaaGreat
open Go.Sx
theorem C2q (x:A3)(w:Int)(h:x.w≤8000000)(og:K9 .i64 x.graph.workers):B0 Tryz.prog 31 [.agg x.c,.one (vi w)] [.agg (C6 x w).1.c,.one (vb (C6 x w).2)]:=by
 refine Ay A0 false Tryz.func31 rfl Bu fun W=>?_
 conv=>whnf
 have hp:Kt ⟨W,fun _=>False⟩ []:=fun _ h=>by cases h
 have hH:∀w,Au.rel ⟨W,fun _=>False⟩ w→True:=fun _ _=>trivial
 refine B9a (C1y x Ac) hp rfl (fun r hr=>go A0 false ?_)
 conv=>whnf
 refine Fg (C3j x w h og) hH hp rfl Ca rfl rfl (fun r2 hr2=>go A0 false ?_)
 conv=>whnf
 refine Ao A0 rfl rfl ?_
 exact Ca
theorem C2t {c:A3}{w:Int}(h:A8d c w=true):(C6 c w).2=false:=by
 obtain ⟨h1,h2,h3,h4,h5⟩:C2x c w:=of_decide_eq_true h
 by_cases hC:Ap c
 ·have hW:Hh c w:=⟨hC,h1⟩
  have hmb:=Km hW h2
  have hwb:0≤w∧w<c.graph.workers:=by have:=hC.1.2.1;omega
  have hk:C0t c w=Ae c w (B8 c w):=Qd hC.1.1.2.1 hwb hmb
  unfold C6
  rw [if_pos ⟨hW,h2⟩,if_neg h3,if_neg]
  unfold Dn
  rw [←hk,if_neg (fun p=>p.2.2.1 h5)]
  exact Bool.false_ne_true
 ·unfold C6
  rw [if_neg (fun p=>hC p.1.1)]
def B8b:Ad:=⟨[⟨1,0,0,[]⟩],2,1⟩
def B81:List A5:=[⟨0,⟨0,0⟩,0,0⟩]
theorem C3p:K6 B8b B81:=by decide
theorem C1m:(Ah B8b B81).1=⟨B8b,E8 2 B81 2,List.replicate 4 (Gv 1),List.replicate 4 default,[]⟩:=by
 rw [Ul C3p]
 rfl
theorem C32:(Ah B8b B81).1.w≤7000:=by rw [C1m];decide
theorem C1l:B5u (C0o (Ah B8b B81).1) (Ah B8b B81).1.workers.length=[1]:=by rw [C1m];decide
theorem C30:B1x (Ah B8b B81).1 0=0:=by rw [C1m];decide
theorem C31:B1x (Ah B8b B81).1 9= -1:=by rw [C1m];decide
set_option maxHeartbeats 4000000 in
theorem C4s (xs:List UInt8):B0 Tryz.prog 4 [.one (B48 xs)] [.one (vb true)]:=by
 refine B8a A0 false Tryz.func4 rfl Bu fun W a cp hp=>?_
 conv=>whnf
 have hH:∀w,Au.rel ⟨W,fun _=>False⟩ w→HT w:=fun _ _=>trivial
 refine Aw (B8h a xs.length cp) rfl (Al ?_)
 refine ⟨fun hb=>?_,fun hb=>?_⟩<;>conv=>whnf
 ·exact Ao A0 rfl rfl ⟨rfl,trivial⟩
 have hb:(xs.length:Int)≤16777216:=by have:=of_decide_eq_false hb;omega
 let d:I9:=⟨a,xs.length,cp,fun i=>(xs.getD i default).toNat,fun i=>by have:=(xs.getD i default).toNat_lt;omega,by omega⟩
 have hp:Kt ⟨W,fun _=>False⟩ d.pins:=hp
 refine B74 (C2k d) hH hp rfl (fun r hr=>go A0 false ?_)
 conv=>whnf
 obtain ⟨c,w⟩:=r
 obtain ⟨hcw,og⟩:C3a c:=hr
 refine B74 (C2z d) hH hp rfl (fun r2 hr2=>go A0 false ?_)
 conv=>whnf
 obtain ⟨v,e⟩:=r2
 obtain ⟨hvw,_⟩:C3a v:=hr2
 have hwl:=A3.workers_le hcw
 have hsl:=C0v (fun k=>A8d c k) c.workers.length
 have hhl:=C0v (C0o c) c.workers.length
 first|(refine B9 5 rfl [0,1,3,4,2,5,6,7,8,10,9,11,12,13,14,15,16,18,17,19,20,21,22,23,24,26,25,27,28,29,30,31,33,32,34,35,36,37,38,39,41,42,40,43,44,45] Aa (Al ?_))
 refine Aw (C0s c w Ac og) rfl (Al ?_)
 refine Aw (C1h c w Ac og) rfl (Al ?_)
 repeat refine Bi ?_
 refine Aw (C2n c Ac og) rfl (Al ?_)
 repeat refine Bi ?_
 refine Aw (C2r c Ac og) rfl (Al ?_)
 repeat refine Bi ?_
 refine Aw (C1q (B5u (fun k=>A8d c k) c.workers.length) (B5u (fun k=>A8d c k) c.workers.length) Ac Ac) rfl (Al ?_)
 repeat refine Bi ?_
 refine Aw (C0y c Ac) rfl (Al ?_)
 repeat refine Bi ?_
 refine Aw (C24 c Ac) rfl (Al ?_)
 repeat refine Bi ?_
 refine Aw (C1q (B5u (C0o c) c.workers.length) (B5u (C0o c) c.workers.length) Ac Ac) rfl (Al ?_)
 repeat refine Bi ?_
 refine Aw (C1v c Ac) rfl (Al ?_)
 repeat refine Bi ?_
 refine Aw (C1x c Ac) rfl (Al ?_)
 repeat refine Bi ?_
 refine Aw (C2l c Ac) rfl (Al ?_)
 repeat refine Bi ?_
 refine Aw (C2p c Ac) rfl (Al ?_)
 repeat refine Bi ?_
 refine Aw (B5y v e Ac) rfl (Al ?_)
 repeat refine Bi ?_
 refine Aw (C26 v e Ac) rfl (Al ?_)
 repeat refine Bi ?_
 refine Aw (C0s c w Ac og) rfl (Al ?_)
 refine ⟨fun hs=>?_,fun hs=>?_⟩<;>conv=>whnf
 ·refine Aw (C2q c w Ac og) rfl (Al ?_)
  rw [C2t hs]
  repeat refine Bi ?_
  refine O2 13 (Bp [⟨1,0,0,[]⟩]) rfl (Jg rfl Bj) ?_
  refine O2 15 (Ax [⟨0,⟨0,0⟩,0,0⟩]) rfl (Db rfl F3) ?_
  refine Aw (C0r B8b B81 Bu Bu) rfl (Al ?_)
  have f1:=C32
  have f2:=C1l
  have f3:=C30
  have f4:=C31
  generalize (Ah B8b B81).1=F at *
  refine Aw (C0y F Ac) rfl (Al ?_)
  rw [f2]
  refine O2 17 (F1 [1]) rfl (Db rfl F3) ?_
  refine Aw (C1q [1] [1] Bu Bu) rfl (Al ?_)
  repeat refine Bi ?_
  refine Aw (B5y F 0 Ac) rfl (Al ?_)
  rw [f3]
  repeat refine Bi ?_
  refine Aw (B5y F 9 Ac) rfl (Al ?_)
  rw [f4]
  repeat refine Bi ?_
  exact Ao A0 rfl rfl ⟨rfl,trivial⟩
 ·refine O2 12 (Bp [⟨1,0,0,[]⟩]) rfl (Jg rfl Bj) ?_
  refine O2 14 (Ax [⟨0,⟨0,0⟩,0,0⟩]) rfl (Db rfl F3) ?_
  refine Aw (C0r B8b B81 Bu Bu) rfl (Al ?_)
  have f1:=C32
  have f2:=C1l
  have f3:=C30
  have f4:=C31
  generalize (Ah B8b B81).1=F at *
  refine Aw (C0y F Ac) rfl (Al ?_)
  rw [f2]
  refine O2 16 (F1 [1]) rfl (Db rfl F3) ?_
  refine Aw (C1q [1] [1] Bu Bu) rfl (Al ?_)
  repeat refine Bi ?_
  refine Aw (B5y F 0 Ac) rfl (Al ?_)
  rw [f3]
  repeat refine Bi ?_
  refine Aw (B5y F 9 Ac) rfl (Al ?_)
  rw [f4]
  repeat refine Bi ?_
  exact Ao A0 rfl rfl ⟨rfl,trivial⟩
end Go.Proofs.YtonodkjaoalfjaaGreat
