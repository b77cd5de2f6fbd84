/- Part 24 of the proof that each of the laws FnTight returns true for every input. No conditions. -/
import Derived.Test.YtonodkjaoalfjaaP6
import Derived.Test.YtonodkjaoalfjaaP16
import Derived.Test.YtonodkjaoalfjaaP5
import Derived.Test.YtonodkjaoalfjaaP7
import Derived.Test.YtonodkjaoalfjaaP11

set_option linter.unusedSimpArgs false
set_option linter.unusedVariables false
set_option maxRecDepth 100000
namespace Go.Proofs.Ytonodkjaoalfjaa
open Go.Sx
def Gn (p:Bl) (w:Int):Bool:=
 if p.kind==1 then p.a==w else if p.kind==2 then p.a==w else if p.kind==3 then p.a==w else if p.kind==7 then p.a==w
 else if p.kind==4 then (if p.a==w then true else p.b==w) else if p.kind==5 then (if p.a==w then true else p.b==w) else false
def Dj (xs:List Bl) (w:Int):List Bl:=xs.filter fun p=>!Gn p w
theorem T9 (c:A3)(j w:Int)(v:Ad):A9 (Av c j v) w=if w.toNat=j.toNat∧j.toNat<c.workers.length then v else A9 c w:=by
 unfold A9 Av
 dsimp only
 by_cases h:w.toNat=j.toNat∧j.toNat<c.workers.length
 ·rw [if_pos h,h.1,Sx.getD_set_self _ _ _ _ h.2]
 ·rw [if_neg h]
  by_cases e:w.toNat=j.toNat
  ·have hl:c.workers.length≤j.toNat:=by omega
   rw [List.set_eq_of_length_le hl]
  ·rw [Sx.getD_set_ne _ _ _ _ _ e]
theorem Rp {c:A3}{j w:Int}(h:w.toNat=j.toNat):A9 c w=A9 c j:=by unfold A9;rw [h]
structure UI (n w e:Int) (c:A3):Prop where
 len:(c.workers.length:Int)=n
 done:En (A9 c 0) e=false
 tok:(Ab c e).going=true→w≤(Ab c e).at_
 rest:(Ab c e).going=false→(Ab c e).at_=0
 news:∀x∈c.news,x.epoch≠e
theorem UI.lnk {n w e:Int}{c:A3}{k:Int}{l:C0}(h:UI n w e c):UI n w e (Bo c k l):=⟨h.1,h.2,h.3,h.4,h.5⟩
theorem UI.set {n w e:Int}{c:A3}{j:Int}{v:Ad}(h:UI n w e c)(hd:En v e=En (A9 c j) e):UI n w e (Av c j v):=by
 refine ⟨by rw [←h.len];simp only [Av,List.length_set],?_,h.3,h.4,h.5⟩
 rw [T9]
 split
 ·rename_i q
  rw [hd,←Rp q.1]
  exact h.done
 ·exact h.done
theorem On {v:Ad}{d:Fv}{e:Int}(h:d.epoch≠e):En (Fj v d) e=En v e:=by
 unfold En Fj
 dsimp only
 rw [List.any_append]
 have:(d.epoch==e)=false:=beq_eq_false_iff_ne.2 h
 simp only [List.any_cons,List.any_nil,this,Bool.or_false]
theorem A1h {c:A3}{e a:Int}{t:Dw}(he:0≤e)(ha:0≤a)(h:a≠e):Ab (Cs c a t) e=Ab c e:=by
 unfold Ab Cs
 exact Sx.getD_set_ne _ _ _ _ _ Ag
theorem K0 {c:A3}{e:Int}{t:Dw}(hl:e.toNat<c.tokens.length):Ab (Cs c e t) e=t:=by
 unfold Ab Cs
 exact Sx.getD_set_self _ _ _ _ hl
theorem UI.other {n w e a:Int}{c:A3}{t:Dw}(h:UI n w e c)(he:0≤e)(ha:0≤a)(hne:a≠e):UI n w e (Cs c a t):=by
 refine ⟨h.1,h.2,?_,?_,h.5⟩
 ·rw [A1h he ha hne];exact h.3
 ·rw [A1h he ha hne];exact h.4
theorem UI.step {n w e:Int}{c:A3}{p:Bl}{l:List Ac}(hw:0≤w∧w<n)(he:0≤e)(hi:(A9 c w).inputs=l)(ho:l.any (fun r=>decide (r.stamp.epoch≤e))=true)(h:UI n w e c):UI n w e (Ao c p).1:=by
 by_cases hc:Ar c
 case neg=>rw [Sz hc];exact h
 unfold Ao
 split
 ·unfold Df
  split
  ·exact h.set (by unfold H4;split<;>rfl)
  ·exact h
 split
 ·unfold Ct
  split
  ·exact h.set (by unfold Et;split<;>rfl)
  ·exact h
 split
 ·unfold Br
  split
  ·split
   ·exact h.set rfl
   split
   ·exact h.lnk.set (by unfold G3;split<;>rfl)
   ·exact h
  ·exact h
 split
 ·unfold Ck
  split
  ·exact h.lnk.set (by unfold F1;split<;>rfl)
  ·exact h
 split
 ·unfold Cq
  split
  ·exact h.lnk
  ·exact h
 split
 ·unfold C2
  dsimp only
  split
  ·rename_i hT
   have hA:=(hc.2.2.2.1 _ (B9 (d:=default) (show p.a.toNat<c.tokens.length by have:=hc.1.2.2.2;have:=hT.2.1;omega))).1.1
   have hA:0≤(Ab c p.a).at_:=hA
   have hN:∀t v:A3,True:=fun _ _=>trivial
   by_cases hee:p.a=e
   ·rw [hee] at hT hA ⊢
    have hlt:e.toNat<c.tokens.length:=by have:=hc.1.2.2.2;have:=hT.2.1;omega
    have hat:(Ab c e).at_≠w:=by
     intro q
     have hp:=hT.2.2.2
     rw [q] at hp
     unfold Hu Qp at hp
     rw [hi,ho] at hp
     simp at hp
    split
    ·rename_i hg
     refine UI.set ⟨h.1,h.2,?_,?_,h.5⟩ rfl
     ·rw [K0 hlt]
      intro _
      show w≤(c.workers.length:Int)-1
      rw [h.len]
      omega
     ·rw [K0 hlt]
      intro q
      cases q
    split
    ·rename_i hg ha
     have hg:(Ab c e).going=true:=by simpa using hg
     have:=h.tok hg
     split
     ·refine UI.set ⟨h.1,h.2,?_,?_,h.5⟩ rfl
      ·rw [K0 hlt]
       intro _
       show w≤(Ab c e).at_-1
       omega
      ·rw [K0 hlt]
       intro q
       rw [show (Ab c e).going=false from q] at hg
       cases hg
     ·exact h
    ·rename_i hg ha
     have hg:(Ab c e).going=true:=by simpa using hg
     have:=h.tok hg
     omega
   ·split
    ·exact (h.other he hT.2.1.1 hee).set rfl
    split
    ·split
     ·exact (h.other he hT.2.1.1 hee).set rfl
     ·exact h
    ·rename_i hg ha
     unfold H2
     have h0:(Ab c p.a).at_=0:=by omega
     split
     ·have hs:=(h.other (t:=⟨false,(Ab c p.a).at_,(Ab c p.a).sum,(Ab c p.a).black,(Ab c p.a).capped⟩) he hT.2.1.1 hee).set (j:=0) (v:=Fj (A9 c (Ab c p.a).at_) ⟨p.a,(Ab c p.a).capped||(A9 c (Ab c p.a).at_).caps.getD p.a.toNat default⟩) (by
       rw [On hee,h0]
       rfl)
      refine ⟨hs.1,hs.2,hs.3,hs.4,fun x hx=>?_⟩
      rcases List.mem_append.1 hx with hx|hx
      ·exact h.news x hx
      ·simp only [K6,List.mem_map] at hx
       obtain ⟨i,_,rfl⟩:=hx
       exact hee
     ·exact h.other he hT.2.1.1 hee
  ·exact h
 split
 ·unfold D9
  split
  ·rename_i hT
   have hm:=O0 hc hT.2
   have hh:UI n w e (Ip c p.a):=⟨h.1,h.2,h.3,h.4,fun x hx=>h.news x (List.mem_of_mem_eraseIdx hx)⟩
   split
   ·exact hh
   ·exact hh.set (by rw [On (h.news _ hm.1)];rfl)
  ·exact h
 ·exact h
theorem U0 {s:E9}(h:Hr s=false):Cd s=(s,false):=by
 unfold Cd
 rw [if_neg (fun p=>by rw [p.1] at h;cases h)]
theorem U1 {s:E9}(h:¬ s.turn<6):Cd s=(s,false):=by
 unfold Cd
 rw [if_neg (fun p=>h p.2)]
theorem U2 {s:E9}(h1:Hr s=true)(h2:s.turn<6):Cd s=(⟨s.epoch,s.turn+1⟩,true):=by
 unfold Cd
 rw [if_pos ⟨h1,h2⟩]
theorem A3y {s:E9}(h:Hr s=true):(0≤s.epoch∧s.epoch≤3)∧0≤s.turn∧s.turn≤6:=of_decide_eq_true h
theorem Nb (s:E9):Bp Try.prog 86 [.agg s.c] [.agg (Cd s).1.c,.one (vb (Cd s).2)]:=by
 refine Bm A0 false Try.func86 rfl Cb fun W=>?_
 conv=>whnf
 refine B7 (P8 s) rfl (Af ?_)
 refine ⟨fun h1=>?_,fun h1=>?_⟩<;>conv=>whnf
 ·have h1:Hr s=false:=by simpa using h1
  repeat refine Bg ?_
  rw [U0 h1]
  refine B1 A0 rfl rfl ?_
  exact C1
 ·have h1:Hr s=true:=by simpa using h1
  have hb:=A3y h1
  repeat refine Bg ?_
  refine ⟨fun h2=>?_,fun h2=>?_⟩<;>conv=>whnf
  ·have h2:s.turn≥6:=of_decide_eq_true h2
   repeat refine Bg ?_
   rw [U1 Ag]
   refine B1 A0 rfl rfl ?_
   exact C1
  ·have h2:¬ s.turn≥6:=of_decide_eq_false h2
   repeat refine Bg ?_
   (repeat refine Ak ?_)
   rw [U2 h1 Ag]
   refine B1 A0 rfl rfl ?_
   exact C1
theorem A3t (a b:Int):Bp Try.prog 89 [.one (vi a),.one (vi b)] [.one (vi (if b<a then b else a))]:=by
 refine Bm A0 false Try.func89 rfl Cb fun W=>?_
 conv=>whnf
 refine G2 (fun h=>?_) fun h=>?_<;>conv=>whnf
 ·rw [if_pos h]
  refine B1 A0 rfl rfl ?_
  exact C1
 ·rw [if_neg h]
  refine B1 A0 rfl rfl ?_
  exact C1
theorem Lm (k:Int):Bp Try.prog 84 [.one (vi k)] [.one (vb (decide (k=5∨k=6∨k=8)))]:=by
 refine Bm A0 false Try.func84 rfl Cb fun W=>?_
 conv=>whnf
 refine ⟨fun h5=>have h5:=eq_of_beq h5;?_,fun h5=>have h5:=beq_eq_false_iff_ne.1 h5;?_⟩<;>conv=>whnf
 ·repeat refine Bg ?_
  exact B1 A0 rfl rfl ⟨congrArg vb (by simp [h5]),trivial⟩
 ·repeat refine Bg ?_
  refine ⟨fun h6=>have h6:=eq_of_beq h6;?_,fun h6=>have h6:=beq_eq_false_iff_ne.1 h6;?_⟩<;>conv=>whnf
  ·repeat refine Bg ?_
   exact B1 A0 rfl rfl ⟨congrArg vb (by simp [h6]),trivial⟩
  ·repeat refine Bg ?_
   exact B1 A0 rfl rfl ⟨congrArg vb (by simp [h5,h6];rfl),trivial⟩
theorem Lz {x:C3}{k v:Int}(h:¬ (Hw x∧K5 k v)):Bh x k v=(k,v,false):=if_neg h
theorem Zn {x:C3}{k v:Int}(h:Hw x∧K5 k v)(h2:x.kind=2):Bh x k v=(k,if 999<v+x.a then 999 else v+x.a,true):=by
 rw [Bh,if_pos h,if_pos h2]
 congr 2
 by_cases h3:999<v+x.a
 ·rw [if_pos h3,if_neg Ag]
 ·rw [if_neg h3]
  split<;>omega
theorem Zp {x:C3}{k v:Int}(h:Hw x∧K5 k v)(h2:x.kind=4):Bh x k v=((k+x.a).tmod 100,v,true):=by
 rw [Bh,if_pos h,if_neg Ag,if_pos h2]
theorem Zo {x:C3}{k v:Int}(h:Hw x∧K5 k v)(h2:x.kind=3):Bh x k v=(k,v,k.tmod x.a==x.b):=by
 rw [Bh,if_pos h,if_neg Ag,if_neg Ag,if_pos h2]
theorem Zq {x:C3}{k v:Int}(h:Hw x∧K5 k v)(h2:x.kind≠2)(h4:x.kind≠4)(h3:x.kind≠3):Bh x k v=(k,v,x.kind !=8):=by
 rw [Bh,if_pos h,if_neg h2,if_neg h4,if_neg h3]
theorem Vy (x:C3)(k v:Int)(hx:x.w≤16777216):Bp Try.prog 83 [.agg x.c,.one (vi k),.one (vi v)] [.one (vi (Bh x k v).1),.one (vi (Bh x k v).2.1),.one (vb (Bh x k v).2.2)]:=by
 refine Bm A0 false Try.func83 rfl Cb fun W=>?_
 conv=>whnf
 refine B7 (Rg x hx) rfl (Af ?_)
 refine ⟨fun h1=>?_,fun h1=>?_⟩<;>conv=>whnf
 ·have h1:O2 x=false:=by simpa using h1
  repeat refine Bg ?_
  rw [Lz (fun p=>absurd p.1 (of_decide_eq_false h1))]
  refine B1 A0 rfl rfl ?_
  exact C1
 have h1:O2 x=true:=by simpa using h1
 repeat refine Bg ?_
 refine B7 (Er k 0 99) rfl (Af ?_)
 repeat refine Bg ?_
 refine ⟨fun h2=>?_,fun h2=>?_⟩<;>conv=>whnf
 ·have h2:Ek k 0 99=false:=by simpa using h2
  repeat refine Bg ?_
  rw [Lz (fun p=>Go.Sx.B3.1 h2 p.2.1)]
  refine B1 A0 rfl rfl ?_
  exact C1
 have h2:Ek k 0 99=true:=by simpa using h2
 repeat refine Bg ?_
 refine B7 (Er v 0 999) rfl (Af ?_)
 repeat refine Bg ?_
 refine ⟨fun h3=>?_,fun h3=>?_⟩<;>conv=>whnf
 ·have h3:Ek v 0 999=false:=by simpa using h3
  repeat refine Bg ?_
  rw [Lz (fun p=>Go.Sx.B3.1 h3 p.2.2)]
  refine B1 A0 rfl rfl ?_
  exact C1
 have h3:Ek v 0 999=true:=by simpa using h3
 have hI:K5 k v:=⟨Go.Sx.Al.1 h2,Go.Sx.Al.1 h3⟩
 have hN:Hw x:=of_decide_eq_true h1
 have hk:=hI.1
 have hv:=hI.2
 repeat refine Bg ?_
 refine ⟨fun k2=>have k2:=eq_of_beq k2;?_,fun k2=>have k2:=beq_eq_false_iff_ne.1 k2;?_⟩<;>conv=>whnf
 ·have ha:=hN.2.1 k2
  repeat refine Bg ?_
  (repeat refine Ak ?_)
  refine B7 (A3t (v+x.a) 999) rfl (Af ?_)
  rw [Zn ⟨hN,hI⟩ k2]
  refine B1 A0 rfl rfl ?_
  exact C1
 ·repeat refine Bg ?_
  refine ⟨fun k4=>have k4:=eq_of_beq k4;?_,fun k4=>have k4:=beq_eq_false_iff_ne.1 k4;?_⟩<;>conv=>whnf
  ·have ha:=hN.2.2.2.1 k4
   repeat refine Bg ?_
   (repeat refine Ak ?_)
   rw [Zp ⟨hN,hI⟩ k4]
   refine B1 A0 rfl rfl ?_
   exact C1
  ·repeat refine Bg ?_
   refine ⟨fun k3=>have k3:=eq_of_beq k3;?_,fun k3=>have k3:=beq_eq_false_iff_ne.1 k3;?_⟩<;>conv=>whnf
   ·have ha:=hN.2.2.1 k3
    repeat refine Bg ?_
    first|(refine At 9 rfl [0,1,2,3,4,5,6,7,8,9,10,11] A6 (Af ?_))|(refine At 10 rfl [0,1,2,3,4,5,6,7] A6 (Af ?_))
    (repeat refine Ak ?_)
    rw [Zo ⟨hN,hI⟩ k3]
    refine B1 A0 rfl rfl ?_
    exact C1
   ·repeat refine Bg ?_
    first|(refine At 9 rfl [0,1,2,3,4,5,6,7,8,9,10,11] A6 (Af ?_))|(refine At 10 rfl [0,1,2,3,4,5,6,7] A6 (Af ?_))
    rw [Zq ⟨hN,hI⟩ k2 k4 k3]
    refine B1 A0 rfl rfl ?_
    exact C1
def Gd (w f t:Int):Int:=if 0≤min f t∧max f t<w then IntKind.wrap .i64 (IntKind.wrap .i64 (f * w)+t) else-1
theorem J0 (g:An)(f t:Int)(hg:Gs .i64 g.workers):Bp Try.prog 65 [.agg g.c,.one (vi f),.one (vi t)] [.one (vi (Gd g.workers f t))]:=by
 have hw:g.workers≤9223372036854775807:=hg.2
 have hw1:1≤g.workers→IntKind.wrap .i64 (g.workers-1)=g.workers-1:=fun h=>Fo (by show _∧_;omega)
 refine Bm A0 true Try.func65 rfl Cb fun W=>?_
 conv=>whnf
 repeat' (first|(refine L9 ?_;conv=>whnf)|(refine La ?_;conv=>whnf)|(refine ⟨fun h=>?_,fun h=>?_⟩<;>conv=>whnf)|(refine B7 (Er _ _ _) rfl (go A0 true ?_);conv=>whnf)|(refine He ?_;conv=>whnf)|fail)
 all_goals (refine B1 A0 rfl rfl ⟨congrArg vi ?_,trivial⟩;simp only [Bool.not_eq_true',Bool.not_eq_false',Go.Sx.Al,Go.Sx.B3,decide_eq_true_eq,decide_eq_false_iff_not] at *;unfold Gd)
 ·by_cases h1:1≤g.workers
  ·have h2:=hw1 h1;rw [if_neg Ag]
  ·rw [if_neg Ag]
 ·by_cases h1:1≤g.workers
  ·have h2:=hw1 h1;rw [if_neg Ag]
  ·rw [if_neg Ag]
 ·rw [if_neg Ag]
 ·have h2:=hw1 Ag;rw [if_pos Ag]
theorem B1e (g:An)(f t:Int):Bp Try.prog 63 [.agg g.c,.one (vi f),.one (vi t)] [.one (vi (Gd g.workers f t))]:=by
 refine Bm A0 true Try.func63 rfl Cb fun W=>?_
 conv=>whnf
 repeat' (first|(refine L9 ?_;conv=>whnf)|(refine La ?_;conv=>whnf)|(refine ⟨fun h=>?_,fun h=>?_⟩<;>conv=>whnf)|(refine He ?_;conv=>whnf)|fail)
 all_goals (refine B1 A0 rfl rfl ⟨congrArg vi ?_,trivial⟩;simp only [decide_eq_true_eq,decide_eq_false_iff_not] at *;unfold Gd)
 ·rw [if_neg Ag]
 ·rw [if_neg Ag]
 ·rw [if_pos Ag]
theorem Ky (key n:Int)(hn:n≤9223372036854775807):Bp Try.prog 52 [.one (vi key),.one (vi n)] [.one (vi (De key n))]:=by
 refine Bm A0 false Try.func52 rfl Cb fun W=>?_
 conv=>whnf
 refine G2 (fun h=>?_) fun h=>?_<;>conv=>whnf
 ·exact B1 A0 rfl rfl ⟨congrArg vi (by rw [De,if_pos h]),trivial⟩
 have h1:=Int.tmod_lt_of_pos key (show 0<n by omega)
 have h2:=Int.lt_tmod_of_pos key (show 0<n by omega)
 (repeat refine Ak ?_)
 refine G2 (fun h'=>?_) fun h'=>?_<;>conv=>whnf
 ·(repeat refine Ak ?_)
  exact B1 A0 rfl rfl ⟨congrArg vi (by rw [De,if_neg h,if_pos h']),trivial⟩
 ·exact B1 A0 rfl rfl ⟨congrArg vi (by rw [De,if_neg h,if_neg h']),trivial⟩
theorem B2o (key n:Int)(hn:n≤9223372036854775807):Bp Try.prog 62 [.one (vi key),.one (vi n)] [.one (vi (De key n))]:=by
 refine Bm A0 false Try.func62 rfl Cb fun W=>?_
 conv=>whnf
 refine G2 (fun h=>?_) fun h=>?_<;>conv=>whnf
 ·exact B1 A0 rfl rfl ⟨congrArg vi (by rw [De,if_pos h]),trivial⟩
 have h1:=Int.tmod_lt_of_pos key (show 0<n by omega)
 have h2:=Int.lt_tmod_of_pos key (show 0<n by omega)
 (repeat refine Ak ?_)
 refine G2 (fun h'=>?_) fun h'=>?_<;>conv=>whnf
 ·(repeat refine Ak ?_)
  exact B1 A0 rfl rfl ⟨congrArg vi (by rw [De,if_neg h,if_pos h']),trivial⟩
 ·exact B1 A0 rfl rfl ⟨congrArg vi (by rw [De,if_neg h,if_neg h']),trivial⟩
end Go.Proofs.Ytonodkjaoalfjaa
