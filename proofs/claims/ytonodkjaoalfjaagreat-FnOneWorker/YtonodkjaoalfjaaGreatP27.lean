/- Part 27 of the proof that each of the laws FnOneWorker returns true for every input. No conditions. -/
import Derived.Test.YtonodkjaoalfjaaGreatP5
import Derived.Test.YtonodkjaoalfjaaGreatP7
import Derived.Test.YtonodkjaoalfjaaGreatP14

set_option linter.unusedSimpArgs false
set_option linter.unusedVariables false
set_option maxRecDepth 100000
namespace Go.Proofs.YtonodkjaoalfjaaGreat
open Go.Sx
theorem A1h {s:F5}(h:Ho s=false):Cc s=(s,false):=by
 unfold Cc
 rw [if_neg (fun p=>by rw [p.1] at h;cases h)]
theorem A1i {s:F5}(h:¬ s.turn<6):Cc s=(s,false):=by
 unfold Cc
 rw [if_neg (fun p=>h p.2)]
theorem A1j {s:F5}(h1:Ho s=true)(h2:s.turn<6):Cc s=(⟨s.epoch,s.turn+1⟩,true):=by
 unfold Cc
 rw [if_pos ⟨h1,h2⟩]
theorem B5f {s:F5}(h:Ho s=true):(0≤s.epoch∧s.epoch≤3)∧0≤s.turn∧s.turn≤6:=of_decide_eq_true h
theorem Ng (s:F5):B0 Tryz.prog 248 [.agg s.c] [.agg (Cc s).1.c,.one (vb (Cc s).2)]:=by
 refine Ay A0 false Tryz.func248 rfl Bu fun W=>?_
 conv=>whnf
 refine Aw (Tx s) rfl (Al ?_)
 refine ⟨fun h1=>?_,fun h1=>?_⟩<;>conv=>whnf
 ·have h1:Ho s=false:=by simpa using h1
  repeat refine Bi ?_
  rw [A1h h1]
  refine Ao A0 rfl rfl ?_
  exact Ca
 ·have h1:Ho s=true:=by simpa using h1
  have hb:=B5f h1
  repeat refine Bi ?_
  refine ⟨fun h2=>have h2:=eq_of_beq h2;?_,fun h2=>have h2:=beq_eq_false_iff_ne.1 h2;?_⟩<;>conv=>whnf
  ·repeat refine Bi ?_
   rw [A1i Ac]
   refine Ao A0 rfl rfl ?_
   exact Ca
  ·repeat refine Bi ?_
   (repeat refine Ar ?_)
   rw [A1j h1 Ac]
   refine Ao A0 rfl rfl ?_
   exact Ca
theorem B5e (a b:Int):B0 Tryz.prog 174 [.one (vi a),.one (vi b)] [.one (vi (if b<a then b else a))]:=by
 refine Ay A0 false Tryz.func174 rfl Bu fun W=>?_
 conv=>whnf
 refine G5 (fun h=>?_) fun h=>?_<;>conv=>whnf
 ·rw [if_pos h]
  refine Ao A0 rfl rfl ?_
  exact Ca
 ·rw [if_neg h]
  refine Ao A0 rfl rfl ?_
  exact Ca
theorem L0 {x:Cb}{k v:Int}(h:¬ (Iw x∧Jd k v)):As x k v=(k,v,false):=if_neg h
theorem A9v {x:Cb}{k v:Int}(h:Iw x∧Jd k v)(h2:x.kind=2):As x k v=(k,if 999<v+x.a then 999 else v+x.a,true):=by
 rw [As,if_pos h,if_pos h2]
 congr 2
 by_cases h3:999<v+x.a
 ·rw [if_pos h3,if_neg Ac]
 ·rw [if_neg h3]
  split<;>omega
theorem A52 {x:Cb}{k v:Int}(h:Iw x∧Jd k v)(h2:x.kind=2):As x k v=(k,if v+x.a<999 then v+x.a else 999,true):=by
 rw [As,if_pos h,if_pos h2]
theorem Ys {x:Cb}{k v:Int}(h:Iw x∧Jd k v)(h2:x.kind=4):As x k v=((k+x.a).tmod 100,v,true):=by
 rw [As,if_pos h,if_neg Ac,if_pos h2]
theorem Yr {x:Cb}{k v:Int}(h:Iw x∧Jd k v)(h2:x.kind=3):As x k v=(k,v,k.tmod x.a==x.b):=by
 rw [As,if_pos h,if_neg Ac,if_neg Ac,if_pos h2]
theorem Yt {x:Cb}{k v:Int}(h:Iw x∧Jd k v)(h2:x.kind≠2)(h4:x.kind≠4)(h3:x.kind≠3):As x k v=(k,v,x.kind !=8):=by
 rw [As,if_pos h,if_neg h2,if_neg h4,if_neg h3]
theorem A48 (x:Cb)(k v:Int)(hx:x.w≤16777216):B0 Tryz.prog 146 [.agg x.c,.one (vi k),.one (vi v)] [.one (vi (As x k v).1),.one (vi (As x k v).2.1),.one (vb (As x k v).2.2)]:=by
 refine Ay A0 false Tryz.func146 rfl Bu fun W=>?_
 conv=>whnf
 refine Aw (Xj x hx) rfl (Al ?_)
 refine ⟨fun h1=>?_,fun h1=>?_⟩<;>conv=>whnf
 ·have h1:Ka x=false:=by simpa using h1
  repeat refine Bi ?_
  rw [L0 (fun p=>absurd p.1 (of_decide_eq_false h1))]
  refine Ao A0 rfl rfl ?_
  exact Ca
 have h1:Ka x=true:=by simpa using h1
 repeat refine Bi ?_
 refine Aw (Jo k 0 99) rfl (Al ?_)
 repeat refine Bi ?_
 refine ⟨fun h2=>?_,fun h2=>?_⟩<;>conv=>whnf
 ·have h2:Eg k 0 99=false:=by simpa using h2
  repeat refine Bi ?_
  rw [L0 (fun p=>Go.Sx.Az.1 h2 p.2.1)]
  refine Ao A0 rfl rfl ?_
  exact Ca
 have h2:Eg k 0 99=true:=by simpa using h2
 repeat refine Bi ?_
 refine Aw (Jo v 0 999) rfl (Al ?_)
 repeat refine Bi ?_
 refine ⟨fun h3=>?_,fun h3=>?_⟩<;>conv=>whnf
 ·have h3:Eg v 0 999=false:=by simpa using h3
  repeat refine Bi ?_
  rw [L0 (fun p=>Go.Sx.Az.1 h3 p.2.2)]
  refine Ao A0 rfl rfl ?_
  exact Ca
 have h3:Eg v 0 999=true:=by simpa using h3
 have hI:Jd k v:=⟨Go.Sx.Am.1 h2,Go.Sx.Am.1 h3⟩
 have hN:Iw x:=of_decide_eq_true h1
 have hk:=hI.1
 have hv:=hI.2
 repeat refine Bi ?_
 refine ⟨fun k2=>have k2:=eq_of_beq k2;?_,fun k2=>have k2:=beq_eq_false_iff_ne.1 k2;?_⟩<;>conv=>whnf
 ·have ha:=hN.2.1 k2
  repeat refine Bi ?_
  (repeat refine Ar ?_)
  refine Aw (B5e (v+x.a) 999) rfl (Al ?_)
  rw [A9v ⟨hN,hI⟩ k2]
  refine Ao A0 rfl rfl ?_
  exact Ca
 ·repeat refine Bi ?_
  refine ⟨fun k4=>have k4:=eq_of_beq k4;?_,fun k4=>have k4:=beq_eq_false_iff_ne.1 k4;?_⟩<;>conv=>whnf
  ·have ha:=hN.2.2.2.1 k4
   repeat refine Bi ?_
   (repeat refine Ar ?_)
   rw [Ys ⟨hN,hI⟩ k4]
   refine Ao A0 rfl rfl ?_
   exact Ca
  ·repeat refine Bi ?_
   refine ⟨fun k3=>have k3:=eq_of_beq k3;?_,fun k3=>have k3:=beq_eq_false_iff_ne.1 k3;?_⟩<;>conv=>whnf
   ·have ha:=hN.2.2.1 k3
    repeat refine Bi ?_
    first|(refine B9 9 rfl [0,1,2,3,4,5,6,7,8,9,10,11] Aa (Al ?_))|(refine B9 10 rfl [0,1,2,3,4,5,6,7] Aa (Al ?_))
    (repeat refine Ar ?_)
    rw [Yr ⟨hN,hI⟩ k3]
    refine Ao A0 rfl rfl ?_
    exact Ca
   ·repeat refine Bi ?_
    first|(refine B9 9 rfl [0,1,2,3,4,5,6,7,8,9,10,11] Aa (Al ?_))|(refine B9 10 rfl [0,1,2,3,4,5,6,7] Aa (Al ?_))
    rw [Yt ⟨hN,hI⟩ k2 k4 k3]
    refine Ao A0 rfl rfl ?_
    exact Ca
theorem A3m (x:Cb)(k v:Int)(hx:x.w≤16777216):B0 Tryz.prog 246 [.agg x.c,.one (vi k),.one (vi v)] [.one (vi (As x k v).1),.one (vi (As x k v).2.1),.one (vb (As x k v).2.2)]:=by
 refine Ay A0 false Tryz.func246 rfl Bu fun W=>?_
 conv=>whnf
 refine Aw (Wd x hx) rfl (Al ?_)
 refine ⟨fun h1=>?_,fun h1=>?_⟩<;>conv=>whnf
 ·have h1:Ka x=false:=by simpa using h1
  repeat refine Bi ?_
  rw [L0 (fun p=>absurd p.1 (of_decide_eq_false h1))]
  refine Ao A0 rfl rfl ?_
  exact Ca
 have h1:Ka x=true:=by simpa using h1
 repeat refine Bi ?_
 refine Aw (Wb k v) rfl (Al ?_)
 repeat refine Bi ?_
 refine ⟨fun h2=>?_,fun h2=>?_⟩<;>conv=>whnf
 ·have h2:decide ((0≤k∧k≤99)∧(0≤v∧v≤999))=false:=(Bool.not_eq_true' _).mp h2
  repeat refine Bi ?_
  rw [L0 (fun p=>absurd p.2 (of_decide_eq_false h2))]
  refine Ao A0 rfl rfl ?_
  exact Ca
 have hI:Jd k v:=of_decide_eq_true (show decide ((0≤k∧k≤99)∧(0≤v∧v≤999))=true from (Bool.not_eq_false' _).mp h2)
 have hN:Iw x:=of_decide_eq_true h1
 have hk:=hI.1
 have hv:=hI.2
 repeat refine Bi ?_
 refine ⟨fun k2=>have k2:=eq_of_beq k2;?_,fun k2=>have k2:=beq_eq_false_iff_ne.1 k2;?_⟩<;>conv=>whnf
 ·have ha:=hN.2.1 k2
  repeat refine Bi ?_
  first|(refine B9 5 rfl [0,1,2,3,4,5,6,7,8] Aa (Al ?_))|(refine B9 9 rfl [0,1,2,3,4,5,6,7,8,9,10,11] Aa (Al ?_))|(refine B9 10 rfl [0,1,2,3,4,5,6,7] Aa (Al ?_))
  (repeat refine Ar ?_)
  rw [A52 ⟨hN,hI⟩ k2]
  refine Ao A0 rfl rfl ?_
  exact Ca
 ·repeat refine Bi ?_
  refine ⟨fun k4=>have k4:=eq_of_beq k4;?_,fun k4=>have k4:=beq_eq_false_iff_ne.1 k4;?_⟩<;>conv=>whnf
  ·have ha:=hN.2.2.2.1 k4
   repeat refine Bi ?_
   (repeat refine Ar ?_)
   rw [Ys ⟨hN,hI⟩ k4]
   refine Ao A0 rfl rfl ?_
   exact Ca
  ·repeat refine Bi ?_
   refine ⟨fun k3=>have k3:=eq_of_beq k3;?_,fun k3=>have k3:=beq_eq_false_iff_ne.1 k3;?_⟩<;>conv=>whnf
   ·have ha:=hN.2.2.1 k3
    repeat refine Bi ?_
    first|(refine B9 5 rfl [0,1,2,3,4,5,6,7,8] Aa (Al ?_))|(refine B9 9 rfl [0,1,2,3,4,5,6,7,8,9,10,11] Aa (Al ?_))|(refine B9 10 rfl [0,1,2,3,4,5,6,7] Aa (Al ?_))
    (repeat refine Ar ?_)
    rw [Yr ⟨hN,hI⟩ k3]
    refine Ao A0 rfl rfl ?_
    exact Ca
   ·repeat refine Bi ?_
    first|(refine B9 5 rfl [0,1,2,3,4,5,6,7,8] Aa (Al ?_))|(refine B9 9 rfl [0,1,2,3,4,5,6,7,8,9,10,11] Aa (Al ?_))|(refine B9 10 rfl [0,1,2,3,4,5,6,7] Aa (Al ?_))
    rw [Yt ⟨hN,hI⟩ k2 k4 k3]
    refine Ao A0 rfl rfl ?_
    exact Ca
def A2q (g:Ad) (x:A7):Prop:=(0≤x.op∧x.op<g.nodes.length)∧E7 g∧(0≤x.epoch∧x.epoch≤3)∧Jd x.key x.val
instance (g:Ad) (x:A7):Decidable (A2q g x):=by unfold A2q;infer_instance
def Za (g:Ad) (x:A7) (k:Int):A7:=⟨k,x.epoch,(As (A9 g x.op) x.key x.val).1,(As (A9 g x.op) x.key x.val).2.1⟩
def La (g:Ad) (x:A7):List A7:=if (As (A9 g x.op) x.key x.val).2.2=true then (A9 g x.op).outs.map (Za g x) else []
def Eo (g:Ad) (best:List A7) (x:A7):List A7×List A7:=
 if A2q g x then (if G7 best x then (best,[]) else ((Dq best x).1,La g x)) else (best,[])
theorem W4 {g:Ad}{best:List A7}{x:A7}(h:¬ A2q g x):Eo g best x=(best,[]):=if_neg h
theorem A85 (best:List A7)(x:A7):Bb 5 best x=Dq best x:=if_pos (.inl rfl)
theorem B6j {g:Ad}{best:List A7}{x:A7}(h:A2q g x)(h6:(Bb 5 best x).2=false):Eo g best x=(best,[]):=by
 rw [A85] at h6
 unfold Dq at h6
 split at h6
 ·rename_i hn
  unfold Eo
  rw [if_pos h,if_pos hn]
 ·cases h6
theorem B6i {g:Ad}{best:List A7}{x:A7}(h:A2q g x)(h6:(Bb 5 best x).2=true):Eo g best x=((Bb 5 best x).1,La g x):=by
 rw [A85] at h6 ⊢
 unfold Dq at h6
 split at h6
 ·cases h6
 ·rename_i hn
  unfold Eo
  rw [if_pos h,if_neg hn]
theorem A6u {g:Ad}{x:A7}:(La g x).length≤(A9 g x.op).outs.length:=by
 unfold La
 split
 ·rw [List.length_map];exact Nat.le_refl _
 ·exact Nat.zero_le _
end Go.Proofs.YtonodkjaoalfjaaGreat
