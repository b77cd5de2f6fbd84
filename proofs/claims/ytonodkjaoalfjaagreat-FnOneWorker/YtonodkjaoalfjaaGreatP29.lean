/- Part 29 of the proof that each of the laws FnOneWorker returns true for every input. No conditions. -/
import Derived.Test.YtonodkjaoalfjaaGreatP6
import Derived.Test.YtonodkjaoalfjaaGreatP19
import Derived.Test.YtonodkjaoalfjaaGreatP27
import Derived.Test.YtonodkjaoalfjaaGreatP5
import Derived.Test.YtonodkjaoalfjaaGreatP14
import Derived.Test.YtonodkjaoalfjaaGreatP8
import Derived.Test.YtonodkjaoalfjaaGreatP10

set_option linter.unusedSimpArgs false
set_option linter.unusedVariables false
set_option maxRecDepth 100000
namespace Go.Proofs.YtonodkjaoalfjaaGreat
open Go.Sx
def B9o (p:Bl) (w:Int):Bool:=
 if p.kind==1 then p.a==w else if p.kind==2 then p.a==w else if p.kind==3 then p.a==w else if p.kind==7 then p.a==w
 else if p.kind==4 then (if p.a==w then true else p.b==w) else if p.kind==5 then (if p.a==w then true else p.b==w) else false
def C0a (xs:List Bl) (w:Int):List Bl:=xs.filter fun p=>!B9o p w
theorem B1v (c:A3)(j w:Int)(v:Ab):A6 (Av c j v) w=if w.toNat=j.toNat∧j.toNat<c.workers.length then v else A6 c w:=by
 unfold A6 Av
 dsimp only
 by_cases h:w.toNat=j.toNat∧j.toNat<c.workers.length
 ·rw [if_pos h,h.1,Sx.getD_set_self _ _ _ _ h.2]
 ·rw [if_neg h]
  by_cases e:w.toNat=j.toNat
  ·have hl:c.workers.length≤j.toNat:=by omega
   rw [List.set_eq_of_length_le hl]
  ·rw [Sx.getD_set_ne _ _ _ _ _ e]
theorem A7u {c:A3}{j w:Int}(h:w.toNat=j.toNat):A6 c w=A6 c j:=by unfold A6;rw [h]
structure UI (n w e:Int) (c:A3):Prop where
 len:(c.workers.length:Int)=n
 done:B1 (A6 c 0) e=false
 tok:(A4 c e).going=true→w≤(A4 c e).at_
 rest:(A4 c e).going=false→(A4 c e).at_=0
 news:∀x∈c.news,x.epoch≠e
theorem UI.lnk {n w e:Int}{c:A3}{k:Int}{l:C2}(h:UI n w e c):UI n w e (B6 c k l):=⟨h.1,h.2,h.3,h.4,h.5⟩
theorem UI.set {n w e:Int}{c:A3}{j:Int}{v:Ab}(h:UI n w e c)(hd:B1 v e=B1 (A6 c j) e):UI n w e (Av c j v):=by
 refine ⟨by rw [←h.len];simp only [Av,List.length_set],?_,h.3,h.4,h.5⟩
 rw [B1v]
 split
 ·rename_i q
  rw [hd,←A7u q.1]
  exact h.done
 ·exact h.done
theorem Tz {v:Ab}{d:E3}{e:Int}(h:d.epoch≠e):B1 (Cx v d) e=B1 v e:=by
 unfold B1 Cx
 dsimp only
 rw [List.any_append]
 have:(d.epoch==e)=false:=beq_eq_false_iff_ne.2 h
 simp only [List.any_cons,List.any_nil,this,Bool.or_false]
theorem Xq {c:A3}{e a:Int}{t:Es}(he:0≤e)(ha:0≤a)(h:a≠e):A4 (Cp c a t) e=A4 c e:=by
 unfold A4 Cp
 exact Sx.getD_set_ne _ _ _ _ _ Ac
theorem O0 {c:A3}{e:Int}{t:Es}(hl:e.toNat<c.tokens.length):A4 (Cp c e t) e=t:=by
 unfold A4 Cp
 exact Sx.getD_set_self _ _ _ _ hl
theorem UI.other {n w e a:Int}{c:A3}{t:Es}(h:UI n w e c)(he:0≤e)(ha:0≤a)(hne:a≠e):UI n w e (Cp c a t):=by
 refine ⟨h.1,h.2,?_,?_,h.5⟩
 ·rw [Xq he ha hne];exact h.3
 ·rw [Xq he ha hne];exact h.4
theorem UI.step {n w e:Int}{c:A3}{p:Bl}{l:List A5}(hw:0≤w∧w<n)(he:0≤e)(hi:(A6 c w).inputs=l)(ho:l.any (fun r=>decide (r.stamp.epoch≤e))=true)(h:UI n w e c):UI n w e (Ag c p).1:=by
 by_cases hc:Ap c
 case neg=>rw [Zh hc];exact h
 unfold Ag
 split
 ·unfold Cr
  split
  ·exact h.set (by unfold Fk;split<;>rfl)
  ·exact h
 split
 ·unfold Cg
  split
  ·exact h.set (by unfold Dg;split<;>rfl)
  ·exact h
 split
 ·unfold C6
  split
  ·split
   ·exact h.set rfl
   split
   ·exact h.lnk.set (by unfold Cs;split<;>rfl)
   ·exact h
  ·exact h
 split
 ·unfold Cd
  split
  ·exact h.lnk.set (by unfold Cj;split<;>rfl)
  ·exact h
 split
 ·unfold Br
  split
  ·exact h.lnk
  ·exact h
 split
 ·unfold Bo
  dsimp only
  split
  ·rename_i hT
   have hA:=(hc.2.2.2.1 _ (Aq (d:=default) (show p.a.toNat<c.tokens.length by have:=hc.1.2.2.2;have:=hT.2.1;omega))).1.1
   have hA:0≤(A4 c p.a).at_:=hA
   have hN:∀t v:A3,True:=fun _ _=>trivial
   by_cases hee:p.a=e
   ·rw [hee] at hT hA ⊢
    have hlt:e.toNat<c.tokens.length:=by have:=hc.1.2.2.2;have:=hT.2.1;omega
    have hat:(A4 c e).at_≠w:=by
     intro q
     have hp:=hT.2.2.2
     rw [q] at hp
     unfold De R5 at hp
     rw [hi,ho] at hp
     simp at hp
    split
    ·rename_i hg
     refine UI.set ⟨h.1,h.2,?_,?_,h.5⟩ rfl
     ·rw [O0 hlt]
      intro _
      show w≤(c.workers.length:Int)-1
      rw [h.len]
      omega
     ·rw [O0 hlt]
      intro q
      cases q
    split
    ·rename_i hg ha
     have hg:(A4 c e).going=true:=by simpa using hg
     have:=h.tok hg
     split
     ·refine UI.set ⟨h.1,h.2,?_,?_,h.5⟩ rfl
      ·rw [O0 hlt]
       intro _
       show w≤(A4 c e).at_-1
       omega
      ·rw [O0 hlt]
       intro q
       rw [show (A4 c e).going=false from q] at hg
       cases hg
     ·exact h
    ·rename_i hg ha
     have hg:(A4 c e).going=true:=by simpa using hg
     have:=h.tok hg
     omega
   ·split
    ·exact (h.other he hT.2.1.1 hee).set rfl
    split
    ·split
     ·exact (h.other he hT.2.1.1 hee).set rfl
     ·exact h
    ·rename_i hg ha
     unfold Gn
     have h0:(A4 c p.a).at_=0:=by omega
     split
     ·have hs:=(h.other (t:=⟨false,(A4 c p.a).at_,(A4 c p.a).sum,(A4 c p.a).black,(A4 c p.a).capped⟩) he hT.2.1.1 hee).set (j:=0) (v:=Cx (A6 c (A4 c p.a).at_) ⟨p.a,(A4 c p.a).capped||(A6 c (A4 c p.a).at_).caps.getD p.a.toNat default⟩) (by
       rw [Tz hee,h0]
       rfl)
      refine ⟨hs.1,hs.2,hs.3,hs.4,fun x hx=>?_⟩
      rcases List.mem_append.1 hx with hx|hx
      ·exact h.news x hx
      ·simp only [H1,List.mem_map] at hx
       obtain ⟨i,_,rfl⟩:=hx
       exact hee
     ·exact h.other he hT.2.1.1 hee
  ·exact h
 split
 ·unfold D4
  split
  ·rename_i hT
   have hm:=Jk hc hT.2
   have hh:UI n w e (Ih c p.a):=⟨h.1,h.2,h.3,h.4,fun x hx=>h.news x (List.mem_of_mem_eraseIdx hx)⟩
   split
   ·exact hh
   ·exact hh.set (by rw [Tz (h.news _ hm.1)];rfl)
  ·exact h
 ·exact h
def Ij (w f t:Int):Int:=if 0≤min f t∧max f t<w then IntKind.wrap .i64 (IntKind.wrap .i64 (f * w)+t) else-1
theorem Qb (g:Ad)(f t:Int):B0 Tryz.prog 71 [.agg g.c,.one (vi f),.one (vi t)] [.one (vi (Ij g.workers f t))]:=by
 refine Ay A0 true Tryz.func71 rfl Bu fun W=>?_
 conv=>whnf
 repeat' (first|(refine Ms ?_;conv=>whnf)|(refine Mt ?_;conv=>whnf)|(refine ⟨fun h=>?_,fun h=>?_⟩<;>conv=>whnf)|(refine Kf ?_;conv=>whnf)|fail)
 all_goals (refine Ao A0 rfl rfl ⟨congrArg vi ?_,trivial⟩;simp only [decide_eq_true_eq,decide_eq_false_iff_not] at *;unfold Ij)
 ·rw [if_neg Ac]
 ·rw [if_neg Ac]
 ·rw [if_pos Ac]
theorem Tw (key n:Int)(hn:n≤9223372036854775807):B0 Tryz.prog 58 [.one (vi key),.one (vi n)] [.one (vi (Cf key n))]:=by
 refine Ay A0 false Tryz.func58 rfl Bu fun W=>?_
 conv=>whnf
 refine G5 (fun h=>?_) fun h=>?_<;>conv=>whnf
 ·exact Ao A0 rfl rfl ⟨congrArg vi (by rw [Cf,if_pos h]),trivial⟩
 have h1:=Int.tmod_lt_of_pos key (show 0<n by omega)
 have h2:=Int.lt_tmod_of_pos key (show 0<n by omega)
 (repeat refine Ar ?_)
 refine G5 (fun h'=>?_) fun h'=>?_<;>conv=>whnf
 ·(repeat refine Ar ?_)
  exact Ao A0 rfl rfl ⟨congrArg vi (by rw [Cf,if_neg h,if_pos h']),trivial⟩
 ·exact Ao A0 rfl rfl ⟨congrArg vi (by rw [Cf,if_neg h,if_neg h']),trivial⟩
theorem A3r (n:Int):B0 Tryz.prog 60 [.one (vi n)] [.agg (Gv n).c]:=by
 refine Ay A0 false Tryz.func60 rfl Bu fun W=>?_
 conv=>whnf
 refine Aw (Oo n 1 4) rfl (Al ?_)
 refine Ao A0 rfl rfl ?_
 exact Ca
theorem W2 {α:Type} [Inhabited α] (x:α)(n i:Nat)(h:x=default):(List.replicate n x).getD i default=x:=by
 simp only [List.getD,List.getElem?_replicate]
 split
 ·rfl
 ·exact h.symm
theorem B6t:(A8.sl 4 1 fun _=>[.val (.int .i64 0)])=F1 (List.replicate 4 0):=congrArg (A8.sl 4 1) (funext fun i=>by rw [W2 (0:Int) 4 i rfl])
theorem A31:(A8.sl 4 1 fun _=>[.val (.bool false)])=Gm (List.replicate 4 false):=congrArg (A8.sl 4 1) (funext fun i=>by rw [W2 false 4 i rfl])
theorem Kl:(A8.sl 4 5 fun _=>[.val (.bool false),.val (.int .i64 0),.val (.int .i64 0),.val (.bool false),.val (.bool false)])=C0 (List.replicate 4 default):=congrArg (A8.sl 4 5) (funext fun i=>by rw [W2 (default:Es) 4 i rfl];rfl)
def Mr (xs:List A5):Ab:=⟨[],[],xs,[],List.replicate 4 0,List.replicate 4 false,List.replicate 4 false,[]⟩
set_option maxHeartbeats 1600000 in
theorem Y5 (xs:List A5)(hx:xs.length≤16777216):B0 Tryz.prog 59 [.one (Ax xs)] [.agg (Mr xs).c]:=by
 refine Ay A0 false Tryz.func59 rfl Bu fun W=>?_
 conv=>whnf
 refine A8a rfl ?_
 refine M7 A0 false 0 rfl rfl rfl Aa rfl (Af F3) ?_
 refine Aj [1,2,3,4] Aa ⟨?_,?_,?_,?_,trivial⟩
 focus
  refine go A0 false ?_
  conv=>whnf
  refine B4 (Bk xs Ac) rfl (Al ?_)
  refine Ak ?_
  refine Aj [2,3,4] Aa ⟨?_,?_,?_,trivial⟩
  focus
   refine go A0 false ?_
   conv=>whnf
   (repeat refine Ar ?_)
   refine Ak ?_
   refine Aj [3,4] Aa ⟨?_,?_,trivial⟩
   focus
    refine go A0 false ?_
    conv=>whnf
    (repeat refine Ar ?_)
    refine Ak ?_
    refine Aj [4] Aa ⟨?_,trivial⟩
    refine go A0 false ?_
    conv=>whnf
    (repeat refine Ar ?_)
    refine Ak ?_
    refine Aj [5] Aa ⟨?_,trivial⟩
    refine go A0 false ?_
    conv=>whnf
    refine Ak ?_
    refine Aj [6] Aa ⟨?_,trivial⟩
    refine go A0 false ?_
    conv=>whnf
    refine Ak ?_
    refine Ed Aa (Al ?_)
   rotate_left 1
   focus
    refine go A0 false ?_
    conv=>whnf
    (repeat refine Ar ?_)
    refine Ak ?_
    refine Aj [3] Aa ⟨?_,trivial⟩
    refine go A0 false ?_
    conv=>whnf
    (repeat refine Ar ?_)
    refine Ak ?_
    refine Aj [5] Aa ⟨?_,trivial⟩
    refine go A0 false ?_
    conv=>whnf
    refine Ak ?_
    refine Aj [6] Aa ⟨?_,trivial⟩
    refine go A0 false ?_
    conv=>whnf
    refine Ak ?_
    refine Ed Aa (Al ?_)
  rotate_left 2
  focus
   refine go A0 false ?_
   conv=>whnf
   (repeat refine Ar ?_)
   refine Ak ?_
   refine Aj [2,4] Aa ⟨?_,?_,trivial⟩
   focus
    refine go A0 false ?_
    conv=>whnf
    (repeat refine Ar ?_)
    refine Ak ?_
    refine Aj [4] Aa ⟨?_,trivial⟩
    refine go A0 false ?_
    conv=>whnf
    (repeat refine Ar ?_)
    refine Ak ?_
    refine Aj [5] Aa ⟨?_,trivial⟩
    refine go A0 false ?_
    conv=>whnf
    refine Ak ?_
    refine Aj [6] Aa ⟨?_,trivial⟩
    refine go A0 false ?_
    conv=>whnf
    refine Ak ?_
    refine Ed Aa (Al ?_)
   rotate_left 1
   focus
    refine go A0 false ?_
    conv=>whnf
    (repeat refine Ar ?_)
    refine Ak ?_
    refine Aj [2] Aa ⟨?_,trivial⟩
    refine go A0 false ?_
    conv=>whnf
    (repeat refine Ar ?_)
    refine Ak ?_
    refine Aj [5] Aa ⟨?_,trivial⟩
    refine go A0 false ?_
    conv=>whnf
    refine Ak ?_
    refine Aj [6] Aa ⟨?_,trivial⟩
    refine go A0 false ?_
    conv=>whnf
    refine Ak ?_
    refine Ed Aa (Al ?_)
  rotate_left 2
  focus
   refine go A0 false ?_
   conv=>whnf
   (repeat refine Ar ?_)
   refine Ak ?_
   refine Aj [2,3] Aa ⟨?_,?_,trivial⟩
   focus
    refine go A0 false ?_
    conv=>whnf
    (repeat refine Ar ?_)
    refine Ak ?_
    refine Aj [3] Aa ⟨?_,trivial⟩
    refine go A0 false ?_
    conv=>whnf
    (repeat refine Ar ?_)
    refine Ak ?_
    refine Aj [5] Aa ⟨?_,trivial⟩
    refine go A0 false ?_
    conv=>whnf
    refine Ak ?_
    refine Aj [6] Aa ⟨?_,trivial⟩
    refine go A0 false ?_
    conv=>whnf
    refine Ak ?_
    refine Ed Aa (Al ?_)
   rotate_left 1
   focus
    refine go A0 false ?_
    conv=>whnf
    (repeat refine Ar ?_)
    refine Ak ?_
    refine Aj [2] Aa ⟨?_,trivial⟩
    refine go A0 false ?_
    conv=>whnf
    (repeat refine Ar ?_)
    refine Ak ?_
    refine Aj [5] Aa ⟨?_,trivial⟩
    refine go A0 false ?_
    conv=>whnf
    refine Ak ?_
    refine Aj [6] Aa ⟨?_,trivial⟩
    refine go A0 false ?_
    conv=>whnf
    refine Ak ?_
    refine Ed Aa (Al ?_)
 rotate_left 6
 focus
  refine go A0 false ?_
  conv=>whnf
  (repeat refine Ar ?_)
  refine Ak ?_
  refine Aj [1,3,4] Aa ⟨?_,?_,?_,trivial⟩
  focus
   refine go A0 false ?_
   conv=>whnf
   refine B4 (Bk xs Ac) rfl (Al ?_)
   refine Ak ?_
   refine Aj [3,4] Aa ⟨?_,?_,trivial⟩
   focus
    refine go A0 false ?_
    conv=>whnf
    (repeat refine Ar ?_)
    refine Ak ?_
    refine Aj [4] Aa ⟨?_,trivial⟩
    refine go A0 false ?_
    conv=>whnf
    (repeat refine Ar ?_)
    refine Ak ?_
    refine Aj [5] Aa ⟨?_,trivial⟩
    refine go A0 false ?_
    conv=>whnf
    refine Ak ?_
    refine Aj [6] Aa ⟨?_,trivial⟩
    refine go A0 false ?_
    conv=>whnf
    refine Ak ?_
    refine Ed Aa (Al ?_)
   rotate_left 1
   focus
    refine go A0 false ?_
    conv=>whnf
    (repeat refine Ar ?_)
    refine Ak ?_
    refine Aj [3] Aa ⟨?_,trivial⟩
    refine go A0 false ?_
    conv=>whnf
    (repeat refine Ar ?_)
    refine Ak ?_
    refine Aj [5] Aa ⟨?_,trivial⟩
    refine go A0 false ?_
    conv=>whnf
    refine Ak ?_
    refine Aj [6] Aa ⟨?_,trivial⟩
    refine go A0 false ?_
    conv=>whnf
    refine Ak ?_
    refine Ed Aa (Al ?_)
  rotate_left 2
  focus
   refine go A0 false ?_
   conv=>whnf
   (repeat refine Ar ?_)
   refine Ak ?_
   refine Aj [1,4] Aa ⟨?_,?_,trivial⟩
   focus
    refine go A0 false ?_
    conv=>whnf
    refine B4 (Bk xs Ac) rfl (Al ?_)
    refine Ak ?_
    refine Aj [4] Aa ⟨?_,trivial⟩
    refine go A0 false ?_
    conv=>whnf
    (repeat refine Ar ?_)
    refine Ak ?_
    refine Aj [5] Aa ⟨?_,trivial⟩
    refine go A0 false ?_
    conv=>whnf
    refine Ak ?_
    refine Aj [6] Aa ⟨?_,trivial⟩
    refine go A0 false ?_
    conv=>whnf
    refine Ak ?_
    refine Ed Aa (Al ?_)
   rotate_left 1
   focus
    refine go A0 false ?_
    conv=>whnf
    (repeat refine Ar ?_)
    refine Ak ?_
    refine Aj [1] Aa ⟨?_,trivial⟩
    refine go A0 false ?_
    conv=>whnf
    refine B4 (Bk xs Ac) rfl (Al ?_)
    refine Ak ?_
    refine Aj [5] Aa ⟨?_,trivial⟩
    refine go A0 false ?_
    conv=>whnf
    refine Ak ?_
    refine Aj [6] Aa ⟨?_,trivial⟩
    refine go A0 false ?_
    conv=>whnf
    refine Ak ?_
    refine Ed Aa (Al ?_)
  rotate_left 2
  focus
   refine go A0 false ?_
   conv=>whnf
   (repeat refine Ar ?_)
   refine Ak ?_
   refine Aj [1,3] Aa ⟨?_,?_,trivial⟩
   focus
    refine go A0 false ?_
    conv=>whnf
    refine B4 (Bk xs Ac) rfl (Al ?_)
    refine Ak ?_
    refine Aj [3] Aa ⟨?_,trivial⟩
    refine go A0 false ?_
    conv=>whnf
    (repeat refine Ar ?_)
    refine Ak ?_
    refine Aj [5] Aa ⟨?_,trivial⟩
    refine go A0 false ?_
    conv=>whnf
    refine Ak ?_
    refine Aj [6] Aa ⟨?_,trivial⟩
    refine go A0 false ?_
    conv=>whnf
    refine Ak ?_
    refine Ed Aa (Al ?_)
   rotate_left 1
   focus
    refine go A0 false ?_
    conv=>whnf
    (repeat refine Ar ?_)
    refine Ak ?_
    refine Aj [1] Aa ⟨?_,trivial⟩
    refine go A0 false ?_
    conv=>whnf
    refine B4 (Bk xs Ac) rfl (Al ?_)
    refine Ak ?_
    refine Aj [5] Aa ⟨?_,trivial⟩
    refine go A0 false ?_
    conv=>whnf
    refine Ak ?_
    refine Aj [6] Aa ⟨?_,trivial⟩
    refine go A0 false ?_
    conv=>whnf
    refine Ak ?_
    refine Ed Aa (Al ?_)
 rotate_left 6
 focus
  refine go A0 false ?_
  conv=>whnf
  (repeat refine Ar ?_)
  refine Ak ?_
  refine Aj [1,2,4] Aa ⟨?_,?_,?_,trivial⟩
  focus
   refine go A0 false ?_
   conv=>whnf
   refine B4 (Bk xs Ac) rfl (Al ?_)
   refine Ak ?_
   refine Aj [2,4] Aa ⟨?_,?_,trivial⟩
   focus
    refine go A0 false ?_
    conv=>whnf
    (repeat refine Ar ?_)
    refine Ak ?_
    refine Aj [4] Aa ⟨?_,trivial⟩
    refine go A0 false ?_
    conv=>whnf
    (repeat refine Ar ?_)
    refine Ak ?_
    refine Aj [5] Aa ⟨?_,trivial⟩
    refine go A0 false ?_
    conv=>whnf
    refine Ak ?_
    refine Aj [6] Aa ⟨?_,trivial⟩
    refine go A0 false ?_
    conv=>whnf
    refine Ak ?_
    refine Ed Aa (Al ?_)
   rotate_left 1
   focus
    refine go A0 false ?_
    conv=>whnf
    (repeat refine Ar ?_)
    refine Ak ?_
    refine Aj [2] Aa ⟨?_,trivial⟩
    refine go A0 false ?_
    conv=>whnf
    (repeat refine Ar ?_)
    refine Ak ?_
    refine Aj [5] Aa ⟨?_,trivial⟩
    refine go A0 false ?_
    conv=>whnf
    refine Ak ?_
    refine Aj [6] Aa ⟨?_,trivial⟩
    refine go A0 false ?_
    conv=>whnf
    refine Ak ?_
    refine Ed Aa (Al ?_)
  rotate_left 2
  focus
   refine go A0 false ?_
   conv=>whnf
   (repeat refine Ar ?_)
   refine Ak ?_
   refine Aj [1,4] Aa ⟨?_,?_,trivial⟩
   focus
    refine go A0 false ?_
    conv=>whnf
    refine B4 (Bk xs Ac) rfl (Al ?_)
    refine Ak ?_
    refine Aj [4] Aa ⟨?_,trivial⟩
    refine go A0 false ?_
    conv=>whnf
    (repeat refine Ar ?_)
    refine Ak ?_
    refine Aj [5] Aa ⟨?_,trivial⟩
    refine go A0 false ?_
    conv=>whnf
    refine Ak ?_
    refine Aj [6] Aa ⟨?_,trivial⟩
    refine go A0 false ?_
    conv=>whnf
    refine Ak ?_
    refine Ed Aa (Al ?_)
   rotate_left 1
   focus
    refine go A0 false ?_
    conv=>whnf
    (repeat refine Ar ?_)
    refine Ak ?_
    refine Aj [1] Aa ⟨?_,trivial⟩
    refine go A0 false ?_
    conv=>whnf
    refine B4 (Bk xs Ac) rfl (Al ?_)
    refine Ak ?_
    refine Aj [5] Aa ⟨?_,trivial⟩
    refine go A0 false ?_
    conv=>whnf
    refine Ak ?_
    refine Aj [6] Aa ⟨?_,trivial⟩
    refine go A0 false ?_
    conv=>whnf
    refine Ak ?_
    refine Ed Aa (Al ?_)
  rotate_left 2
  focus
   refine go A0 false ?_
   conv=>whnf
   (repeat refine Ar ?_)
   refine Ak ?_
   refine Aj [1,2] Aa ⟨?_,?_,trivial⟩
   focus
    refine go A0 false ?_
    conv=>whnf
    refine B4 (Bk xs Ac) rfl (Al ?_)
    refine Ak ?_
    refine Aj [2] Aa ⟨?_,trivial⟩
    refine go A0 false ?_
    conv=>whnf
    (repeat refine Ar ?_)
    refine Ak ?_
    refine Aj [5] Aa ⟨?_,trivial⟩
    refine go A0 false ?_
    conv=>whnf
    refine Ak ?_
    refine Aj [6] Aa ⟨?_,trivial⟩
    refine go A0 false ?_
    conv=>whnf
    refine Ak ?_
    refine Ed Aa (Al ?_)
   rotate_left 1
   focus
    refine go A0 false ?_
    conv=>whnf
    (repeat refine Ar ?_)
    refine Ak ?_
    refine Aj [1] Aa ⟨?_,trivial⟩
    refine go A0 false ?_
    conv=>whnf
    refine B4 (Bk xs Ac) rfl (Al ?_)
    refine Ak ?_
    refine Aj [5] Aa ⟨?_,trivial⟩
    refine go A0 false ?_
    conv=>whnf
    refine Ak ?_
    refine Aj [6] Aa ⟨?_,trivial⟩
    refine go A0 false ?_
    conv=>whnf
    refine Ak ?_
    refine Ed Aa (Al ?_)
 rotate_left 6
 focus
  refine go A0 false ?_
  conv=>whnf
  (repeat refine Ar ?_)
  refine Ak ?_
  refine Aj [1,2,3] Aa ⟨?_,?_,?_,trivial⟩
  focus
   refine go A0 false ?_
   conv=>whnf
   refine B4 (Bk xs Ac) rfl (Al ?_)
   refine Ak ?_
   refine Aj [2,3] Aa ⟨?_,?_,trivial⟩
   focus
    refine go A0 false ?_
    conv=>whnf
    (repeat refine Ar ?_)
    refine Ak ?_
    refine Aj [3] Aa ⟨?_,trivial⟩
    refine go A0 false ?_
    conv=>whnf
    (repeat refine Ar ?_)
    refine Ak ?_
    refine Aj [5] Aa ⟨?_,trivial⟩
    refine go A0 false ?_
    conv=>whnf
    refine Ak ?_
    refine Aj [6] Aa ⟨?_,trivial⟩
    refine go A0 false ?_
    conv=>whnf
    refine Ak ?_
    refine Ed Aa (Al ?_)
   rotate_left 1
   focus
    refine go A0 false ?_
    conv=>whnf
    (repeat refine Ar ?_)
    refine Ak ?_
    refine Aj [2] Aa ⟨?_,trivial⟩
    refine go A0 false ?_
    conv=>whnf
    (repeat refine Ar ?_)
    refine Ak ?_
    refine Aj [5] Aa ⟨?_,trivial⟩
    refine go A0 false ?_
    conv=>whnf
    refine Ak ?_
    refine Aj [6] Aa ⟨?_,trivial⟩
    refine go A0 false ?_
    conv=>whnf
    refine Ak ?_
    refine Ed Aa (Al ?_)
  rotate_left 2
  focus
   refine go A0 false ?_
   conv=>whnf
   (repeat refine Ar ?_)
   refine Ak ?_
   refine Aj [1,3] Aa ⟨?_,?_,trivial⟩
   focus
    refine go A0 false ?_
    conv=>whnf
    refine B4 (Bk xs Ac) rfl (Al ?_)
    refine Ak ?_
    refine Aj [3] Aa ⟨?_,trivial⟩
    refine go A0 false ?_
    conv=>whnf
    (repeat refine Ar ?_)
    refine Ak ?_
    refine Aj [5] Aa ⟨?_,trivial⟩
    refine go A0 false ?_
    conv=>whnf
    refine Ak ?_
    refine Aj [6] Aa ⟨?_,trivial⟩
    refine go A0 false ?_
    conv=>whnf
    refine Ak ?_
    refine Ed Aa (Al ?_)
   rotate_left 1
   focus
    refine go A0 false ?_
    conv=>whnf
    (repeat refine Ar ?_)
    refine Ak ?_
    refine Aj [1] Aa ⟨?_,trivial⟩
    refine go A0 false ?_
    conv=>whnf
    refine B4 (Bk xs Ac) rfl (Al ?_)
    refine Ak ?_
    refine Aj [5] Aa ⟨?_,trivial⟩
    refine go A0 false ?_
    conv=>whnf
    refine Ak ?_
    refine Aj [6] Aa ⟨?_,trivial⟩
    refine go A0 false ?_
    conv=>whnf
    refine Ak ?_
    refine Ed Aa (Al ?_)
  rotate_left 2
  focus
   refine go A0 false ?_
   conv=>whnf
   (repeat refine Ar ?_)
   refine Ak ?_
   refine Aj [1,2] Aa ⟨?_,?_,trivial⟩
   focus
    refine go A0 false ?_
    conv=>whnf
    refine B4 (Bk xs Ac) rfl (Al ?_)
    refine Ak ?_
    refine Aj [2] Aa ⟨?_,trivial⟩
    refine go A0 false ?_
    conv=>whnf
    (repeat refine Ar ?_)
    refine Ak ?_
    refine Aj [5] Aa ⟨?_,trivial⟩
    refine go A0 false ?_
    conv=>whnf
    refine Ak ?_
    refine Aj [6] Aa ⟨?_,trivial⟩
    refine go A0 false ?_
    conv=>whnf
    refine Ak ?_
    refine Ed Aa (Al ?_)
   rotate_left 1
   focus
    refine go A0 false ?_
    conv=>whnf
    (repeat refine Ar ?_)
    refine Ak ?_
    refine Aj [1] Aa ⟨?_,trivial⟩
    refine go A0 false ?_
    conv=>whnf
    refine B4 (Bk xs Ac) rfl (Al ?_)
    refine Ak ?_
    refine Aj [5] Aa ⟨?_,trivial⟩
    refine go A0 false ?_
    conv=>whnf
    refine Ak ?_
    refine Aj [6] Aa ⟨?_,trivial⟩
    refine go A0 false ?_
    conv=>whnf
    refine Ak ?_
    refine Ed Aa (Al ?_)
 all_goals
  refine Ao A0 rfl rfl ⟨⟨.inr ⟨rfl,rfl,_,_,rfl⟩,.inr ⟨rfl,rfl,_,_,rfl⟩,?_,.inr ⟨rfl,rfl,_,_,rfl⟩,?_,?_,?_,.inr ⟨rfl,rfl,_,_,rfl⟩,trivial⟩,trivial⟩
  ·exact (rfl:Ax xs=Ax xs)
  ·exact B6t
  ·exact A31
  ·exact A31
def P6 (n:Int) (l:List A5) (w:Int) (k:Nat):List A5:=(List.range k).flatMap fun (e:Nat)=>(Bs l e).filter fun r=>Cf r.key n==w
theorem Zg (n:Int)(l:List A5)(w:Int)(k:Nat):P6 n l w (k+1)=P6 n l w k++(Bs l k).filter fun r=>Cf r.key n==w:=by
 rw [P6,List.range_succ,List.flatMap_append]
 simp [P6]
theorem Wx (n:Int)(l:List A5)(w:Int)(k:Nat):(P6 n l w k).length≤k * l.length:=by
 induction k with
 |zero=>simp [P6]
 |succ k ih=>
  rw [Zg,List.length_append,Nat.succ_mul]
  have h1:=List.length_filter_le (fun r:A5=>Cf r.key n==w) (Bs l k)
  have h2:=Nq l k
  omega
end Go.Proofs.YtonodkjaoalfjaaGreat
