/- Part 14 of the proof that each of the laws FnUnfair returns true for every input. No conditions. -/
import Derived.Test.YtonodkjaoalfjaaP13
import Derived.Test.YtonodkjaoalfjaaP6

set_option linter.unusedSimpArgs false
set_option linter.unusedVariables false
set_option maxRecDepth 100000
namespace Go.Proofs.Ytonodkjaoalfjaa
open Go.Sx
theorem Uh {α:Type} [Inhabited α] (f:α→Nat):∀(l:List α) (j:Nat) (x:α),j<l.length→((l.set j x).map f).sum+f (l.getD j default)=(l.map f).sum+f x
 | [],_,_,h=>absurd h (Nat.not_lt_zero _)
 |y::r,0,x,_=>by simp;omega
 |y::r,j+1,x,h=>by
  have:=Uh f r j x (by simpa using h)
  simp only [List.set_cons_succ,List.map_cons,List.sum_cons,List.getD_cons_succ]
  omega
theorem Gq {c:A3}{j:Int}{w:Ad}(h:0≤j∧j<c.workers.length):(Av c j w).w+(A9 c j).w=c.w+w.w:=by
 have:=Uh Ad.w c.workers j.toNat w Ag
 simp only [Av,A3.w,wS,List.length_set,A9]
 omega
theorem R8 {c:A3}{k:Int}{l:C0}(h:0≤k∧k<c.links.length):(Bo c k l).w+(Bc c k).w=c.w+l.w:=by
 have:=Uh C0.w c.links k.toNat l Ag
 simp only [Bo,A3.w,wS,List.length_set,Bc]
 omega
theorem N9 {c:A3}{e:Int}{t:Dw}:(Cs c e t).w=c.w:=by simp only [Cs,A3.w,List.length_set]
theorem A4b {g:An}{w:Ad}:(H4 g w).1.w≤w.w+2:=by
 unfold H4
 split
 ·rename_i h
  have h1:=Xj (g:=g) (cs:=w.cells) (r:=w.queue.getD 0 default)
  have h2:=W1 (g:=g) (cs:=w.cells) (r:=w.queue.getD 0 default)
  have h3:=h.2.2.2
  have h4:(if capped g (w.queue.getD 0 default)=true then w.caps.set (w.queue.getD 0 default).stamp.epoch.toNat true else w.caps).length=w.caps.length:=by split<;>simp
  simp only [J3,Ad.w,List.length_drop,h4]
  omega
 ·simp
theorem W5 {g:An}{w:Ad}:(Et g w).1.w≤w.w:=by
 unfold Et
 split
 ·rename_i h
  have:=h.2.2.2.2
  simp only [Hy,Ad.w,List.length_append,List.length_singleton,List.length_drop]
  omega
 ·simp
theorem X9 {w:Ad}{e:Int}:(G3 w e).w=w.w:=by
 unfold G3 Em
 split
 ·simp only [Ad.w,List.length_set]
 ·rfl
theorem X4 {w:Ad}{r:Ac}:(F1 w r).w=w.w+1:=by
 unfold F1 I1 Em kept
 split
 ·simp only [Ad.w,List.length_set,List.length_append,List.length_singleton];omega
 ·simp only [Ad.w,List.length_append,List.length_singleton];omega
theorem Xl {c:A3}{p:Bl}:(Ao c p).1.w≤c.w+4:=by
 have work:∀w,(Df c w).1.w≤c.w+4:=fun w=>by
  unfold Df
  split
  ·rename_i h
   have h1:=Gq (w:=(H4 c.graph (A9 c w)).1) h.2
   have h2:=A4b (g:=c.graph) (w:=A9 c w)
   simp only
   omega
  ·simp
 have input:∀w,(Ct c w).1.w≤c.w+4:=fun w=>by
  unfold Ct
  split
  ·rename_i h
   have h1:=Gq (w:=(Et c.graph (A9 c w)).1) h.2
   have h2:=W5 (g:=c.graph) (w:=A9 c w)
   simp only
   omega
  ·simp
 have move:∀w,(Br c w).1.w≤c.w+4:=fun w=>by
  unfold Br
  split
  ·rename_i h
   obtain ⟨hW,hs⟩:=h
   have hu:(Dv (A9 c w)).w+1=(A9 c w).w:=by simp only [Dv,Ad.w,List.length_drop];omega
   split
   ·have h1:=Gq (w:=kept (Dv (A9 c w)) (Au c w)) hW.2
    have h2:(kept (Dv (A9 c w)) (Au c w)).w=(Dv (A9 c w)).w+1:=by simp only [kept,Ad.w,List.length_append,List.length_singleton];omega
    simp only
    omega
   ·split
    ·have hb:0≤w∧w<c.graph.workers:=by have:=hW.1.1.2.1;exact ⟨hW.2.1,by have:=hW.2.2;omega⟩
     have h1:=R8 (l:=(C6 (Bc c (Ai c w (As c w))) (Au c w)).1) (I4 hW.1 hb (Ss hW hs)).1
     have h2:=Gq (c:=Bo c (Ai c w (As c w)) (C6 (Bc c (Ai c w (As c w))) (Au c w)).1) (w:=G3 (Dv (A9 c w)) (Au c w).stamp.epoch) hW.2
     have h3:(C6 (Bc c (Ai c w (As c w))) (Au c w)).1.w≤(Bc c (Ai c w (As c w))).w+1:=by
      unfold C6
      split
      ·simp [C0.w]
      ·simp
     have h4:(A9 (Bo c (Ai c w (As c w)) (C6 (Bc c (Ai c w (As c w))) (Au c w)).1) w).w=(A9 c w).w:=rfl
     rw [X9] at h2
     simp only
     omega
    ·simp
  ·simp
 have take:∀f t,(Ck c f t).1.w≤c.w+4:=fun f t=>by
  unfold Ck
  split
  ·rename_i h
   obtain ⟨hL,hk⟩:=h
   have ht:0≤t∧t<c.workers.length:=by have:=hL.1.1.2.1;have:=hL.2.2.2;omega
   have h1:=R8 (l:=(Bn (Bc c (Ai c f t))).1) (I4 hL.1 hL.2.2.1 hL.2.2.2).1
   have h2:=Gq (c:=Bo c (Ai c f t) (Bn (Bc c (Ai c f t))).1) (w:=F1 (A9 c t) (Bn (Bc c (Ai c f t))).2.1) ht
   have h3:(Bn (Bc c (Ai c f t))).1.w≤(Bc c (Ai c f t)).w:=by
    unfold Bn
    split
    ·simp [C0.w]
    ·simp
   have h4:(A9 (Bo c (Ai c f t) (Bn (Bc c (Ai c f t))).1) t).w=(A9 c t).w:=rfl
   rw [X4] at h2
   simp only
   omega
  ·simp
 have credit:∀f t,(Cq c f t).1.w≤c.w+4:=fun f t=>by
  unfold Cq
  split
  ·rename_i hL
   have h1:=R8 (l:=(D4 (Bc c (Ai c f t))).1) (I4 hL.1 hL.2.2.1 hL.2.2.2).1
   have h3:(D4 (Bc c (Ai c f t))).1.w=(Bc c (Ai c f t)).w:=by
    unfold D4
    split<;>simp [C0.w]
   simp only
   omega
  ·simp
 have tok:∀e,(C2 c e).1.w≤c.w+4:=fun e=>by
  unfold C2
  split
  ·rename_i hT
   obtain ⟨hC,he,hD,hP⟩:=hT
   have hTP:Nl c.graph.workers (Ab c e):=hC.2.2.2.1 _ (B9 (d:=default) (show e.toNat<c.tokens.length by have:=hC.1.2.2.2;omega))
   have hn1:=hC.1.1.2.1
   have hwl:=hC.1.2.1
   have hat:0≤(Ab c e).at_∧(Ab c e).at_<c.workers.length:=by have:=hTP.1;omega
   have hwh:(H3 (A9 c (Ab c e).at_) e).w=(A9 c (Ab c e).at_).w:=by simp only [H3,Ad.w,List.length_set]
   simp only
   split
   ·have h1:=Gq (c:=Cs c e ⟨true,(c.workers.length:Int)-1,0,false,(A9 c (Ab c e).at_).caps.getD e.toNat default⟩) (w:=H3 (A9 c (Ab c e).at_) e) hat
    rw [N9,hwh] at h1
    have h2:(A9 (Cs c e ⟨true,(c.workers.length:Int)-1,0,false,(A9 c (Ab c e).at_).caps.getD e.toNat default⟩) (Ab c e).at_).w=(A9 c (Ab c e).at_).w:=rfl
    simp only
    omega
   ·split
    ·split
     ·have h1:=Gq (c:=Cs c e ⟨(Ab c e).going,(Ab c e).at_-1,(Ab c e).sum+(A9 c (Ab c e).at_).sums.getD e.toNat default,(Ab c e).black||(A9 c (Ab c e).at_).black.getD e.toNat default,(Ab c e).capped||(A9 c (Ab c e).at_).caps.getD e.toNat default⟩) (w:=H3 (A9 c (Ab c e).at_) e) hat
      rw [N9,hwh] at h1
      have h2:(A9 (Cs c e ⟨(Ab c e).going,(Ab c e).at_-1,(Ab c e).sum+(A9 c (Ab c e).at_).sums.getD e.toNat default,(Ab c e).black||(A9 c (Ab c e).at_).black.getD e.toNat default,(Ab c e).capped||(A9 c (Ab c e).at_).caps.getD e.toNat default⟩) (Ab c e).at_).w=(A9 c (Ab c e).at_).w:=rfl
      simp only
      omega
     ·simp
    ·rename_i hg ha
     have hA:(Ab c e).at_=0:=by have:=hTP.1;omega
     unfold H2
     split
     ·have h1:=Gq (c:=Cs c e ⟨false,(Ab c e).at_,(Ab c e).sum,(Ab c e).black,(Ab c e).capped⟩) (j:=0) (w:=Fj (A9 c (Ab c e).at_) ⟨e,(Ab c e).capped||(A9 c (Ab c e).at_).caps.getD e.toNat default⟩) (by have:(Cs c e ⟨false,(Ab c e).at_,(Ab c e).sum,(Ab c e).black,(Ab c e).capped⟩).workers.length=c.workers.length:=rfl;omega)
      rw [N9] at h1
      have h2:(A9 (Cs c e ⟨false,(Ab c e).at_,(Ab c e).sum,(Ab c e).black,(Ab c e).capped⟩) 0).w=(A9 c (Ab c e).at_).w:=by rw [hA];rfl
      have h3:(Fj (A9 c (Ab c e).at_) ⟨e,(Ab c e).capped||(A9 c (Ab c e).at_).caps.getD e.toNat default⟩).w=(A9 c (Ab c e).at_).w+1:=by simp only [Fj,Ad.w,List.length_append,List.length_singleton];omega
      have h4:∀(x:A3) l,(Mj x l).w=x.w+l.length:=fun x l=>by simp only [Mj,A3.w,List.length_append];omega
      rw [h4]
      have h5:(K6 e ((Ab c e).capped||(A9 c (Ab c e).at_).caps.getD e.toNat default) ((Cs c e ⟨false,(Ab c e).at_,(Ab c e).sum,(Ab c e).black,(Ab c e).capped⟩).workers.length-1)).length≤3:=by
       have:(Cs c e ⟨false,(Ab c e).at_,(Ab c e).sum,(Ab c e).black,(Ab c e).capped⟩).workers.length=c.workers.length:=rfl
       rw [this]
       simp only [K6,List.length_map,List.length_range]
       omega
      omega
     ·rw [N9];omega
  ·simp
 have hear:∀w,(D9 c w).1.w≤c.w+4:=fun w=>by
  unfold D9
  split
  ·rename_i hn
   obtain ⟨m1,m2⟩:=O0 hn.1 hn.2
   have hN:=hn.1.2.2.2.2 _ m1
   have hw:0≤w∧w<c.workers.length:=by have:=hn.1.1.2.1;have:=hN.1;omega
   have h0:(Ip c w).w≤c.w:=by
    have:=List.length_eraseIdx_le c.news (M6 c w)
    simp only [Ip,A3.w]
    omega
   split
   ·simp only;omega
   ·have h1:=Gq (c:=Ip c w) (w:=Fj (A9 c w) ⟨(Fa c w).epoch,(Fa c w).capped⟩) hw
    have h2:(A9 (Ip c w) w).w=(A9 c w).w:=rfl
    have h3:(Fj (A9 c w) ⟨(Fa c w).epoch,(Fa c w).capped⟩).w=(A9 c w).w+1:=by simp only [Fj,Ad.w,List.length_append,List.length_singleton];omega
    simp only
    omega
  ·simp
 unfold Ao
 split
 ·exact work _
 split
 ·exact input _
 split
 ·exact move _
 split
 ·exact take _ _
 split
 ·exact credit _ _
 split
 ·exact tok _
 split
 ·exact hear _
 ·simp
theorem Sz {c:A3}{p:Bl}(h:¬ Ar c):Ao c p=(c,false):=by
 unfold Ao
 repeat' split
 ·unfold Df;rw [if_neg (fun q=>h q.1)]
 ·unfold Ct;rw [if_neg (fun q=>h q.1)]
 ·unfold Br;rw [if_neg (fun q=>h q.1.1)]
 ·unfold Ck;rw [if_neg (fun q=>h q.1.1)]
 ·unfold Cq;rw [if_neg (fun q=>h q.1)]
 ·exact Rl (fun q=>h q.1)
 ·unfold D9;rw [if_neg (fun q=>h q.1)]
 ·rfl
theorem A0y {c:A3}{l:List Bl}{k:Nat}(hk:k<l.length):Ce c (l.take (k+1))=F2 (Ce c (l.take k)) (l.getD k default):=by
 unfold Ce
 have:l.take (k+1)=l.take k++[l.getD k default]:=by
  rw [List.take_succ_eq_append_getElem hk]
  simp [List.getD,hk]
 rw [this,List.foldl_append]
 rfl
theorem A5o (l:List Bl):∀s:A3×List Bool,(l.foldl F2 s).1.w≤s.1.w+4 * l.length:=by
 induction l with
 |nil=>intro s;simp
 |cons p r ih=>
  intro s
  have h1:=ih (F2 s p)
  have h2:=Xl (c:=s.1) (p:=p)
  simp only [List.foldl_cons,List.length_cons]
  have e:(F2 s p).1=(Ao s.1 p).1:=rfl
  rw [e] at h1
  omega
theorem A3m {c:A3}{l:List Bl}:(Ce c l).1.w≤c.w+4 * l.length:=A5o l (c,[])
theorem A0x (l:List Bl):∀s:A3×List Bool,(l.foldl F2 s).2.length=s.2.length+l.length:=by
 induction l with
 |nil=>intro s;simp
 |cons p r ih=>
  intro s
  have h1:=ih (F2 s p)
  simp only [List.foldl_cons,List.length_cons]
  rw [h1]
  simp only [F2,List.length_append,List.length_cons,List.length_nil]
  omega
theorem A3l {c:A3}{l:List Bl}:(Ce c l).2.length=l.length:=by
 have:=A0x l (c,[])
 simpa [Ce] using this
theorem A3e (c:A3):Ou c≤4:=by
 have:=G1 c.graph.workers 0 4 Cb
 unfold Ou
 omega
theorem Pv (c:A3):(Ru (Ou c)).length≤44:=by
 have h:=A3e c
 have e:Ou c=0∨Ou c=1∨Ou c=2∨Ou c=3∨Ou c=4:=by omega
 rcases e with e|e|e|e|e<;>rw [e]<;>decide
def Gn (p:Bl) (w:Int):Bool:=
 if p.kind==1 then p.a==w else if p.kind==2 then p.a==w else if p.kind==3 then p.a==w else if p.kind==7 then p.a==w
 else if p.kind==4 then (if p.a==w then true else p.b==w) else if p.kind==5 then (if p.a==w then true else p.b==w) else false
def Dj (xs:List Bl) (w:Int):List Bl:=xs.filter fun p=>!Gn p w
theorem A2p (p:Bl)(w:Int):Bp Try.prog 36 [.agg p.c,.one (vi w)] [.one (vb (Gn p w))]:=by
 refine Bm A0 false Try.func36 rfl Cb fun W=>?_
 conv=>whnf
 repeat' (first|(refine L9 ?_;conv=>whnf)|(refine La ?_;conv=>whnf)|(refine ⟨fun h=>?_,fun h=>?_⟩<;>conv=>whnf)|(refine B1 A0 rfl rfl ⟨?_,trivial⟩;conv=>whnf)|(refine He ?_;conv=>whnf)|fail)
 all_goals (refine congrArg vb ?_;simp only [Gn, *,reduceIte,Bool.false_eq_true])
theorem Nc (xs:List Bl)(w:Int)(hx:xs.length≤16777216):Bp Try.prog 14 [.one (C4 xs),.one (vi w)] [.one (C4 (Dj xs w))]:=by
 refine Bm A0 false Try.func14 rfl Cb fun W=>?_
 conv=>whnf
 refine Du 0 (C4 []) rfl (Q0 (xs:=([]:List Bl)) (fun i hi=>nomatch hi)) ?_
 refine Cc A0 false [7] (fun k:Nat=>[(6,.c (vi k))]) (fun _=>[]) (fun k=>[⟨0,C4 (Dj (xs.take k) w)⟩])
  (fun k=>k≤xs.length) (fun k=>xs.length-k) 0 (Nat.zero_le _) ⟨rfl,trivial⟩ trivial ⟨rfl,trivial⟩ trivial A6 (fun k hk=>?_)
 conv=>whnf
 refine G2 (fun h=>?_) fun h=>?_<;>conv=>whnf
 ·have h:k<xs.length:=by omega
  have hs:=Ev (fun p=>!Gn p w) xs k h
  have hb:=Dh (fun p=>!Gn p w) xs k
  (repeat refine Ak ?_)
  refine B7 (A2p (xs.getD k default) w) rfl (Af ?_)
  refine ⟨fun h'=>?_,fun h'=>?_⟩<;>conv=>whnf
  ·(repeat refine Ak ?_)
   refine B4 A0 rfl rfl rfl rfl rfl rfl rfl rfl rfl rfl rfl (C4 (Dj (xs.take k) w++[xs.getD k default])) (B5 rfl) Ia (by show (List.filter _ _).length+1≤_;omega) (Af ?_)
   (repeat refine Ak ?_)
   refine B8 [(0,2)] (k+1) Ag Ag ⟨rfl,trivial⟩ ⟨?_,trivial⟩ trivial A6 trivial A6
   refine congrArg C4 ?_
   simp only [Dj]
   rw [hs,if_pos h']
  ·(repeat refine Ak ?_)
   refine B8 [] (k+1) Ag Ag ⟨rfl,trivial⟩ ⟨?_,trivial⟩ trivial A6 trivial A6
   refine congrArg C4 ?_
   simp only [Dj]
   rw [hs,if_neg (by rw [h'];decide),List.append_nil]
 ·refine B1 A0 rfl rfl ⟨?_,trivial⟩
  exact congrArg C4 (by rw [List.take_of_length_le Ag])
theorem Mx (xs : List Bl) (w : Int) (hx : xs.length ≤ 16777216) : Bp Try.prog 8 [.one (C4 xs), .one (vi w)] [.one (C4 (Dj xs w))] := by
  refine Bm A0 false Try.func8 rfl Cb fun W => ?_
  conv => whnf
  refine A6p 5 3 (fun i => Bl.c (([] : List Bl).getD i default)) rfl ?_
  refine Cc A0 false [] (fun k : Nat => [(11, .c (vi k))]) (fun _ => []) (fun k => [⟨0, C4 (Dj (xs.take k) w)⟩])
    (fun k => k ≤ xs.length) (fun k => xs.length - k) 0 (Nat.zero_le _) ⟨rfl, trivial⟩ trivial ⟨rfl, trivial⟩ trivial A6 (fun k hk => ?_)
  conv => whnf
  refine G2 (fun h => ?_) fun h => ?_ <;> conv => whnf
  · have h : k < xs.length := by omega
    have hs := Ev (fun p => !Gn p w) xs k h
    have hb := Dh (fun p => !Gn p w) xs k
    (repeat refine Ak ?_)
    simp only [Int.toNat_natCast]
    generalize hy : xs.getD k default = y at hs
    have hn : (if (!Gn y w) = true then [y] else []) = if Gn y w = true then [] else [y] := by cases Gn y w <;> rfl
    rw [hn] at hs
    repeat' (first | (refine L9 ?_; conv => whnf) | (refine La ?_; conv => whnf) | (refine ⟨fun h => ?_, fun h => ?_⟩ <;> conv => whnf) | (refine He ?_; conv => whnf) | fail)
    all_goals first
      | (refine B8 [] (k + 1) Ag Ag ⟨rfl, trivial⟩ ⟨?_, trivial⟩ trivial A6 trivial A6
         refine congrArg C4 ?_
         simp only [Dj]
         rw [hs, if_pos (by clear hs hb hn hy; simp_all [Gn]), List.append_nil])
      | (refine B4 A0 rfl rfl rfl rfl rfl rfl rfl rfl rfl rfl rfl (C4 (Dj (xs.take k) w ++ [y])) (B5 rfl) Ia (by show (List.filter _ _).length + 1 ≤ _; omega) (J4 ?_)
         conv => whnf
         refine ⟨by first | omega | (show _ ∧ _; omega), ?_⟩
         conv => whnf
         refine B8 [(0, 3)] (k + 1) Ag Ag ⟨rfl, trivial⟩ ⟨?_, trivial⟩ trivial A6 trivial A6
         refine congrArg C4 ?_
         simp only [Dj]
         rw [hs, if_neg (by clear hs hb hn hy; simp_all [Gn])])
  · refine B1 A0 rfl rfl ⟨?_, trivial⟩
    exact congrArg C4 (by rw [List.take_of_length_le Ag])
theorem T9 (c:A3)(j w:Int)(v:Ad):A9 (Av c j v) w=if w.toNat=j.toNat∧j.toNat<c.workers.length then v else A9 c w:=by
 unfold A9 Av
 dsimp only
 by_cases h:w.toNat=j.toNat∧j.toNat<c.workers.length
 ·rw [if_pos h,h.1,Sx.getD_set_self _ _ _ _ h.2]
 ·rw [if_neg h]
  by_cases e:w.toNat=j.toNat
  ·have hl:c.workers.length≤j.toNat:=by omega
   rw [List.set_eq_of_length_le hl]
  ·rw [Sx.getD_set_ne _ _ _ _ _ e]
theorem Rp {c:A3}{j w:Int}(h:w.toNat=j.toNat):A9 c w=A9 c j:=by unfold A9;rw [h]
theorem Hn {c:A3}{j w:Int}{v:Ad}{l:List Ac}(h:(A9 c w).inputs=l)(hv:v.inputs=(A9 c j).inputs∨w.toNat≠j.toNat):(A9 (Av c j v) w).inputs=l:=by
 rw [T9]
 split
 ·rename_i e
  rcases hv with hv|hv
  ·rw [hv,←Rp e.1]
   exact h
  ·exact absurd e.1 hv
 ·exact h
theorem Wv {p:Bl}{w:Int}(h:Gn p w=false):(p.kind=2→p.a≠w):=by
 intro k e
 have:Gn p w=true:=by
  unfold Gn
  rw [k,e]
  simp
 rw [this] at h
 cases h
theorem V9 {c:A3}{p:Bl}{w:Int}{l:List Ac}(hw:0≤w)(hn:Gn p w=false)(h:(A9 c w).inputs=l):(A9 (Ao c p).1 w).inputs=l:=by
 unfold Ao
 split
 ·unfold Df
  split
  ·exact Hn h (.inl (by unfold H4;split<;>rfl))
  ·exact h
 split
 ·rename_i k
  unfold Ct
  split
  ·rename_i hh
   have:=Wv hn k
   exact Hn h (.inr (by have:=hh.2.1;omega))
  ·exact h
 split
 ·unfold Br
  split
  ·split
   ·exact Hn h (.inl rfl)
   split
   ·exact Hn (c:=Bo c _ _) h (.inl (by unfold G3;split<;>rfl))
   ·exact h
  ·exact h
 split
 ·unfold Ck
  split
  ·exact Hn (c:=Bo c _ _) h (.inl (by unfold F1;split<;>rfl))
  ·exact h
 split
 ·unfold Cq
  split<;>exact h
 split
 ·unfold C2
  dsimp only
  split
  ·split
   ·exact Hn (c:=Cs c _ _) h (.inl rfl)
   split
   ·split
    ·exact Hn (c:=Cs c _ _) h (.inl rfl)
    ·exact h
   ·rename_i hT _ ha
    unfold H2
    split
    ·refine Hn (c:=Cs c _ _) h (.inl ?_)
     have hA:=(hT.1.2.2.2.1 _ (B9 (d:=default) (show p.a.toNat<c.tokens.length by have:=hT.1.1.2.2.2;have:=hT.2.1;omega))).1.1
     have h0:(Ab c p.a).at_=0:=by
      have:0≤(Ab c p.a).at_:=hA
      omega
     show (A9 c (Ab c p.a).at_).inputs=(A9 c 0).inputs
     rw [h0]
    ·exact h
  ·exact h
 split
 ·unfold D9
  split
  ·split
   ·exact h
   ·exact Hn (c:=Ip c _) h (.inl rfl)
  ·exact h
 ·exact h
structure UI (n w e:Int) (c:A3):Prop where
 len:(c.workers.length:Int)=n
 done:En (A9 c 0) e=false
 tok:(Ab c e).going=true→w≤(Ab c e).at_
 rest:(Ab c e).going=false→(Ab c e).at_=0
 news:∀x∈c.news,x.epoch≠e
theorem UI.lnk {n w e:Int}{c:A3}{k:Int}{l:C0}(h:UI n w e c):UI n w e (Bo c k l):=⟨h.1,h.2,h.3,h.4,h.5⟩
theorem UI.set {n w e:Int}{c:A3}{j:Int}{v:Ad}(h:UI n w e c)(hd:En v e=En (A9 c j) e):UI n w e (Av c j v):=by
 refine ⟨by rw [←h.len];simp only [Av,List.length_set],?_,h.3,h.4,h.5⟩
 rw [T9]
 split
 ·rename_i q
  rw [hd,←Rp q.1]
  exact h.done
 ·exact h.done
theorem On {v:Ad}{d:Fv}{e:Int}(h:d.epoch≠e):En (Fj v d) e=En v e:=by
 unfold En Fj
 dsimp only
 rw [List.any_append]
 have:(d.epoch==e)=false:=beq_eq_false_iff_ne.2 h
 simp only [List.any_cons,List.any_nil,this,Bool.or_false]
theorem A1h {c:A3}{e a:Int}{t:Dw}(he:0≤e)(ha:0≤a)(h:a≠e):Ab (Cs c a t) e=Ab c e:=by
 unfold Ab Cs
 exact Sx.getD_set_ne _ _ _ _ _ Ag
theorem K0 {c:A3}{e:Int}{t:Dw}(hl:e.toNat<c.tokens.length):Ab (Cs c e t) e=t:=by
 unfold Ab Cs
 exact Sx.getD_set_self _ _ _ _ hl
theorem UI.other {n w e a:Int}{c:A3}{t:Dw}(h:UI n w e c)(he:0≤e)(ha:0≤a)(hne:a≠e):UI n w e (Cs c a t):=by
 refine ⟨h.1,h.2,?_,?_,h.5⟩
 ·rw [A1h he ha hne];exact h.3
 ·rw [A1h he ha hne];exact h.4
theorem UI.step {n w e:Int}{c:A3}{p:Bl}{l:List Ac}(hw:0≤w∧w<n)(he:0≤e)(hi:(A9 c w).inputs=l)(ho:l.any (fun r=>decide (r.stamp.epoch≤e))=true)(h:UI n w e c):UI n w e (Ao c p).1:=by
 by_cases hc:Ar c
 case neg=>rw [Sz hc];exact h
 unfold Ao
 split
 ·unfold Df
  split
  ·exact h.set (by unfold H4;split<;>rfl)
  ·exact h
 split
 ·unfold Ct
  split
  ·exact h.set (by unfold Et;split<;>rfl)
  ·exact h
 split
 ·unfold Br
  split
  ·split
   ·exact h.set rfl
   split
   ·exact h.lnk.set (by unfold G3;split<;>rfl)
   ·exact h
  ·exact h
 split
 ·unfold Ck
  split
  ·exact h.lnk.set (by unfold F1;split<;>rfl)
  ·exact h
 split
 ·unfold Cq
  split
  ·exact h.lnk
  ·exact h
 split
 ·unfold C2
  dsimp only
  split
  ·rename_i hT
   have hA:=(hc.2.2.2.1 _ (B9 (d:=default) (show p.a.toNat<c.tokens.length by have:=hc.1.2.2.2;have:=hT.2.1;omega))).1.1
   have hA:0≤(Ab c p.a).at_:=hA
   have hN:∀t v:A3,True:=fun _ _=>trivial
   by_cases hee:p.a=e
   ·rw [hee] at hT hA ⊢
    have hlt:e.toNat<c.tokens.length:=by have:=hc.1.2.2.2;have:=hT.2.1;omega
    have hat:(Ab c e).at_≠w:=by
     intro q
     have hp:=hT.2.2.2
     rw [q] at hp
     unfold Hu Qp at hp
     rw [hi,ho] at hp
     simp at hp
    split
    ·rename_i hg
     refine UI.set ⟨h.1,h.2,?_,?_,h.5⟩ rfl
     ·rw [K0 hlt]
      intro _
      show w≤(c.workers.length:Int)-1
      rw [h.len]
      omega
     ·rw [K0 hlt]
      intro q
      cases q
    split
    ·rename_i hg ha
     have hg:(Ab c e).going=true:=by simpa using hg
     have:=h.tok hg
     split
     ·refine UI.set ⟨h.1,h.2,?_,?_,h.5⟩ rfl
      ·rw [K0 hlt]
       intro _
       show w≤(Ab c e).at_-1
       omega
      ·rw [K0 hlt]
       intro q
       rw [show (Ab c e).going=false from q] at hg
       cases hg
     ·exact h
    ·rename_i hg ha
     have hg:(Ab c e).going=true:=by simpa using hg
     have:=h.tok hg
     omega
   ·split
    ·exact (h.other he hT.2.1.1 hee).set rfl
    split
    ·split
     ·exact (h.other he hT.2.1.1 hee).set rfl
     ·exact h
    ·rename_i hg ha
     unfold H2
     have h0:(Ab c p.a).at_=0:=by omega
     split
     ·have hs:=(h.other (t:=⟨false,(Ab c p.a).at_,(Ab c p.a).sum,(Ab c p.a).black,(Ab c p.a).capped⟩) he hT.2.1.1 hee).set (j:=0) (v:=Fj (A9 c (Ab c p.a).at_) ⟨p.a,(Ab c p.a).capped||(A9 c (Ab c p.a).at_).caps.getD p.a.toNat default⟩) (by
       rw [On hee,h0]
       rfl)
      refine ⟨hs.1,hs.2,hs.3,hs.4,fun x hx=>?_⟩
      rcases List.mem_append.1 hx with hx|hx
      ·exact h.news x hx
      ·simp only [K6,List.mem_map] at hx
       obtain ⟨i,_,rfl⟩:=hx
       exact hee
     ·exact h.other he hT.2.1.1 hee
  ·exact h
 split
 ·unfold D9
  split
  ·rename_i hT
   have hm:=O0 hc hT.2
   have hh:UI n w e (Ip c p.a):=⟨h.1,h.2,h.3,h.4,fun x hx=>h.news x (List.mem_of_mem_eraseIdx hx)⟩
   split
   ·exact hh
   ·exact hh.set (by rw [On (h.news _ hm.1)];rfl)
  ·exact h
 ·exact h
theorem W9 {n w e:Int}{l:List Ac}(hw:0≤w∧w<n)(he:0≤e)(ho:l.any (fun r=>decide (r.stamp.epoch≤e))=true):
  ∀(ps:List Bl) (s:A3×List Bool),(∀p∈ps,Gn p w=false)→(A9 s.1 w).inputs=l→UI n w e s.1→UI n w e (ps.foldl F2 s).1:=by
 intro ps
 induction ps with
 |nil=>intro s _ _ h;exact h
 |cons p ps ih=>intro s hp hi h;exact ih (F2 s p) (fun q hq=>hp q (List.mem_cons_of_mem _ hq)) (V9 hw.1 (hp p (List.mem_cons_self ..)) hi) (UI.step hw he hi ho h)
theorem A2l {w:Int}{l:List Ac}(hw:0≤w):
  ∀(ps:List Bl) (s:A3×List Bool),(∀p∈ps,Gn p w=false)→(A9 s.1 w).inputs=l→(A9 (ps.foldl F2 s).1 w).inputs=l:=by
 intro ps
 induction ps with
 |nil=>intro s _ h;exact h
 |cons p ps ih=>intro s hp hi;exact ih (F2 s p) (fun q hq=>hp q (List.mem_cons_of_mem _ hq)) (V9 hw (hp p (List.mem_cons_self ..)) hi)
theorem Lp {ps:List Bl}{w:Int}:∀p∈Dj ps w,Gn p w=false:=fun p hp=>by
 have:=(List.mem_filter.1 hp).2
 simpa using this
theorem Sc (ps:List Bl)(w:Int):Dj (Dj ps w) w=Dj ps w:=by
 unfold Dj
 rw [List.filter_filter]
 simp only [Bool.and_self]
theorem Xp {c:A3}{ps:List Bl}{w:Int}(hw:0≤w):(A9 (Ce c (Dj ps w)).1 w).inputs=(A9 c w).inputs:=A2l hw _ (c,[]) Lp rfl
theorem W8 {c:A3}{ps:List Bl}{w e:Int}(hw:0≤w∧w<c.workers.length)(he:0≤e)(h:UI c.workers.length w e c)(ho:Qp (A9 c w) e=true):Fl (Ce c (Dj ps w)).1 e=false:=by
 have:=W9 hw he ho (Dj ps w) (c,[]) Lp rfl h
 unfold Fl
 split
 ·exact this.done
 ·rfl
end Go.Proofs.Ytonodkjaoalfjaa
