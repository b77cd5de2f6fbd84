/- Part 26 of the proof that each of the laws FnTold returns true for every input. No conditions. -/
import Derived.Test.YtdendlkeiaccpaaGreatDoorP25
import Derived.Test.YtdendlkeiaccpaaGreatDoorP7
import Derived.Test.YtdendlkeiaccpaaGreatDoorP6
import Derived.Test.YtdendlkeiaccpaaGreatDoorP18
import Derived.Test.YtdendlkeiaccpaaGreatDoorP16
import Derived.Test.YtdendlkeiaccpaaGreatDoorP21
import Derived.Test.YtdendlkeiaccpaaGreatDoorP20
import Derived.Test.YtdendlkeiaccpaaGreatDoorP19

set_option linter.unusedSimpArgs false
set_option linter.unusedVariables false
set_option maxRecDepth 100000
namespace Go.Proofs.YtdendlkeiaccpaaGreatDoor
open Go.Sx
theorem B0w {l:List Aq}(h:A8q l):Fj ⟨l,1,1⟩:=by
 obtain ⟨G,a,b,k,hG,ha,hb,hk,hl⟩:=h
 have ha:a=1∨a=2∨a=3:=by omega
 have hb:b=0∨b=1∨b=2∨b=3:=by omega
 have hk:k=1∨k=2∨k=3:=by omega
 rcases hl with rfl|rfl|rfl|rfl|rfl
 ·show Fj ⟨[⟨1,0,0,[1]⟩,⟨G,0,0,[2,5]⟩,⟨4,a,0,[3]⟩,⟨3,k,0,[4]⟩,⟨7,0,0,[1]⟩,⟨8,0,0,[]⟩],1,1⟩
  rcases hG with rfl|rfl<;>rcases ha with rfl|rfl|rfl<;>rcases hk with rfl|rfl|rfl<;>decide
 ·rcases hG with rfl|rfl<;>rcases ha with rfl|rfl|rfl<;>rcases hb with rfl|rfl|rfl|rfl<;>decide
 ·rcases hG with rfl|rfl<;>rcases ha with rfl|rfl|rfl<;>rcases hb with rfl|rfl|rfl|rfl<;>decide
 ·rcases hG with rfl|rfl<;>rcases ha with rfl|rfl|rfl<;>rcases hb with rfl|rfl|rfl|rfl<;>decide
 rcases hG with rfl|rfl<;>rcases ha with rfl|rfl|rfl<;>rcases hb with rfl|rfl|rfl|rfl<;>decide
theorem A91 {g:Ap}(h:Yf g):Fj g:=by
 obtain ⟨h1,h2,hn⟩:=h
 have:Fj ⟨g.nodes,1,1⟩:=B0w hn
 exact ⟨this.1,by omega,by omega,this.2.2.2⟩
def B6r (p:Cz) (w:Int):Bool:=
 if p.kind==1 then p.a==w else if p.kind==2 then p.a==w else if p.kind==3 then p.a==w else if p.kind==7 then p.a==w
 else if p.kind==4 then (if p.a==w then true else p.b==w) else if p.kind==5 then (if p.a==w then true else p.b==w) else false
def B7c (xs:List Cz) (w:Int):List Cz:=xs.filter fun p=>!B6r p w
theorem A8i (c:A5)(j w:Int)(v:A9):Ad (Bb c j v) w=if w.toNat=j.toNat∧j.toNat<c.workers.length then v else Ad c w:=by
 unfold Ad Bb
 dsimp only
 by_cases h:w.toNat=j.toNat∧j.toNat<c.workers.length
 ·rw [if_pos h,h.1,Sx.getD_set_self _ _ _ _ h.2]
 rw [if_neg h]
 by_cases e:w.toNat=j.toNat
 ·have hl:c.workers.length≤j.toNat:=by omega
  rw [List.set_eq_of_length_le hl]
 rw [Sx.getD_set_ne _ _ _ _ _ e]
theorem A4s {c:A5}{j w:Int}(h:w.toNat=j.toNat):Ad c w=Ad c j:=by unfold Ad;rw [h]
structure UI (n w e:Int) (c:A5):Prop where
 len:(c.workers.length:Int)=n
 done:Gf (Ad c 0) e=false
 tok:(Af c e).going=true→w≤(Af c e).at_
 rest:(Af c e).going=false→(Af c e).at_=0
 news:∀x∈c.news,x.epoch≠e
theorem UI.lnk {n w e:Int}{c:A5}{k:Int}{l:Bv}(h:UI n w e c):UI n w e (Cd c k l):=⟨h.1,h.2,h.3,h.4,h.5⟩
theorem UI.set {n w e:Int}{c:A5}{j:Int}{v:A9}(h:UI n w e c)(hd:Gf v e=Gf (Ad c j) e):UI n w e (Bb c j v):=by
 refine ⟨by rw [←h.len];simp only [Bb,List.length_set],?_,h.3,h.4,h.5⟩
 rw [A8i]
 split
 ·rename_i q
  rw [hd,←A4s q.1]
  exact h.done
 exact h.done
theorem Sc {v:A9}{d:Ep}{e:Int}(h:d.epoch≠e):Gf (H2 v d) e=Gf v e:=by
 unfold Gf H2
 dsimp only
 rw [List.any_append]
 have:(d.epoch==e)=false:=beq_eq_false_iff_ne.2 h
 simp only [List.any_cons,List.any_nil,this,Bool.or_false]
theorem Vy {c:A5}{e a:Int}{t:D0}(he:0≤e)(ha:0≤a)(h:a≠e):Af (Da c a t) e=Af c e:=by
 unfold Af Da
 exact Sx.getD_set_ne _ _ _ _ _ Ab
theorem Mi {c:A5}{e:Int}{t:D0}(hl:e.toNat<c.tokens.length):Af (Da c e t) e=t:=by
 unfold Af Da
 exact Sx.getD_set_self _ _ _ _ hl
theorem UI.other {n w e a:Int}{c:A5}{t:D0}(h:UI n w e c)(he:0≤e)(ha:0≤a)(hne:a≠e):UI n w e (Da c a t):=by
 refine ⟨h.1,h.2,?_,?_,h.5⟩
 ·rw [Vy he ha hne];exact h.3
 rw [Vy he ha hne];exact h.4
theorem UI.step {n w e:Int}{c:A5}{p:Cz}{l:List Ae}(hw:0≤w∧w<n)(he:0≤e)(hi:(Ad c w).inputs=l)(ho:l.any (fun r=>decide (r.stamp.epoch≤e))=true)(h:UI n w e c):UI n w e (Ar c p).1:=by
 by_cases hc:B6 c
 case neg=>rw [Le hc];exact h
 unfold Ar
 split
 ·unfold Eh
  split
  ·exact h.set (by unfold Fk;split<;>rfl)
  exact h
 split
 ·unfold Du
  split
  ·exact h.set (by unfold Dm;split<;>rfl)
  exact h
 split
 ·unfold Cg
  split
  ·split
   ·exact h.set rfl
   split
   ·exact h.lnk.set (by unfold Hm;split<;>rfl)
   exact h
  exact h
 split
 ·unfold Dh
  split
  ·exact h.lnk.set (by unfold En;split<;>rfl)
  exact h
 split
 ·unfold Dr
  split
  ·exact h.lnk
  exact h
 split
 ·unfold Cu
  dsimp only
  split
  ·rename_i hT
   have hA:=(hc.2.2.2.1 _ (B8 (d:=default) (show p.a.toNat<c.tokens.length by have:=hc.1.2.2.2;have:=hT.2.1;omega))).1.1
   have hA:0≤(Af c p.a).at_:=hA
   have hN:∀t v:A5,True:=fun _ _=>trivial
   by_cases hee:p.a=e
   ·rw [hee] at hT hA ⊢
    have hlt:e.toNat<c.tokens.length:=by have:=hc.1.2.2.2;have:=hT.2.1;omega
    have hat:(Af c e).at_≠w:=by
     intro q
     have hp:=hT.2.2.2
     rw [q] at hp
     unfold Jr A30 at hp
     rw [hi,ho] at hp
     simp at hp
    split
    ·rename_i hg
     refine UI.set ⟨h.1,h.2,?_,?_,h.5⟩ rfl
     ·rw [Mi hlt]
      intro _
      show w≤(c.workers.length:Int)-1
      rw [h.len]
      omega
     rw [Mi hlt]
     intro q
     cases q
    split
    ·rename_i hg ha
     have hg:(Af c e).going=true:=by simpa using hg
     have:=h.tok hg
     split
     ·refine UI.set ⟨h.1,h.2,?_,?_,h.5⟩ rfl
      ·rw [Mi hlt]
       intro _
       show w≤(Af c e).at_-1
       omega
      rw [Mi hlt]
      intro q
      rw [show (Af c e).going=false from q] at hg
      cases hg
     exact h
    rename_i hg ha
    have hg:(Af c e).going=true:=by simpa using hg
    have:=h.tok hg
    omega
   split
   ·exact (h.other he hT.2.1.1 hee).set rfl
   split
   ·split
    ·exact (h.other he hT.2.1.1 hee).set rfl
    exact h
   rename_i hg ha
   unfold It
   have h0:(Af c p.a).at_=0:=by omega
   split
   ·have hs:=(h.other (t:=⟨false,(Af c p.a).at_,(Af c p.a).sum,(Af c p.a).black,(Af c p.a).capped⟩) he hT.2.1.1 hee).set (j:=0) (v:=H2 (Ad c (Af c p.a).at_) ⟨p.a,(Af c p.a).capped||(Ad c (Af c p.a).at_).caps.getD p.a.toNat default⟩) (by
     rw [Sc hee,h0]
     rfl)
    refine ⟨hs.1,hs.2,hs.3,hs.4,fun x hx=>?_⟩
    rcases List.mem_append.1 hx with hx|hx
    ·exact h.news x hx
    simp only [Mp,List.mem_map] at hx
    obtain ⟨i,_,rfl⟩:=hx
    exact hee
   exact h.other he hT.2.1.1 hee
  exact h
 split
 ·unfold E8
  split
  ·rename_i hT
   have hm:=Rr hc hT.2
   have hh:UI n w e (Ks c p.a):=⟨h.1,h.2,h.3,h.4,fun x hx=>h.news x (List.mem_of_mem_eraseIdx hx)⟩
   split
   ·exact hh
   exact hh.set (by rw [Sc (h.news _ hm.1)];rfl)
  exact h
 exact h
theorem Zf {g:Ap}{ins:List Ae}(hg:Yf g)(hi:B2h ins):W3 g ins:=by
 refine ⟨A91 hg,by have:=hi.1;omega,fun r hr=>?_⟩
 obtain ⟨h1,h2,h3,h4,h5⟩:=hi.2 r hr
 exact ⟨⟨by omega,h3,by omega,by omega,by omega⟩,h1,h2⟩
theorem A4f (x:A5)(w:Int)(h:x.w≤16000000):Cw Tryz.prog (fun _=>True) 150 [] (rc x) [.one (vi w)] (fun _:Unit=>True) (fun _=>rc x) (fun _=>[.one (vb (decide (Gz x w)))]):=by
 have hwl:=A5.workers_le h
 refine Dn A0 false Tryz.func150 rfl Aw fun B b hH hp=>?_
 conv=>whnf
 refine ⟨fun h1=>?_,fun h1=>?_⟩<;>conv=>whnf
 ·have h1:B6 x:=of_decide_eq_true (show B4 x=true from h1)
  repeat refine Bj ?_
  (repeat refine An ?_)
  refine B5 (Fh w 0 (x.workers.length-1)) rfl (A8 ?_)
  repeat refine Bj ?_
  rw [show Do w 0 (x.workers.length-1)=decide (Gz x w) by rw [Bool.eq_iff_iff,Go.Sx.As,decide_eq_true_eq];exact ⟨fun p=>⟨h1,by omega,by omega⟩,fun p=>⟨p.2.1,by have:=p.2.2;omega⟩⟩]
  exact Bl A0 () trivial rfl rfl rfl rfl Ay
 repeat refine Bj ?_
 rw [show decide (Gz x w)=false from decide_eq_false fun p=>absurd p.1 (of_decide_eq_false (show B4 x=false from h1))]
 exact Bl A0 () trivial rfl rfl rfl rfl Ay
set_option maxHeartbeats 4000000 in
theorem A57 (x:A5)(ok:Bool)(w e n:Int)(h0:0≤w)(hk:w.toNat<x.workers.length)(he:0≤e)(hke:e.toNat<(Ad x w).sums.length)(hs:I4 ((Ad x w).sums.getD e.toNat default))(hn: -1≤n∧n≤1):
  Cw Tryz.prog (fun _=>True) 154 [] (Ru x ok) [.one (vi w),.one (vi e),.one (vi n)] (fun _:Unit=>True) (fun _=>Ru (Bb x w (Fe (Ad x w) e n)) (ok&&Do ((Ad x w).sums.getD e.toNat default+n) (-1000000) 1000000)) (fun _=>[]):=by
 obtain ⟨s1,s2⟩:=hs
 have hke2:e.toNat<(x.workers.getD w.toNat default).sums.length:=hke
 have hg:(x.workers.getD w.toNat default).sums.getD e.toNat default=(Ad x w).sums.getD e.toNat default:=rfl
 refine Dn A0 false Tryz.func154 rfl Aw fun B b hH hp=>?_
 conv=>whnf
 first|(refine B7 0 rfl [0,1,2,3,4,5,6,7,8,9,10,11,12,13,14,15,16,17,18,19,20,21,22,23,24,25] A7 (A8 ?_))
 (repeat refine An ?_)
 refine I9 A0 rfl rfl rfl rfl rfl rfl (jn:=w.toNat) rfl rfl rfl (fun v=>go A0 false ?_)
 conv=>whnf
 (repeat refine An ?_)
 refine B0k A0 rfl rfl rfl rfl rfl rfl (jn:=w.toNat) rfl (Gr _ _ _) rfl (A8 ?_)
 refine K0 26 6 rfl rfl (A8 ?_)
 (repeat refine An ?_)
 refine Ao (j:=e) A0 rfl rfl rfl rfl rfl rfl rfl rfl (At ((x.workers.getD w.toNat default).sums.set e.toNat ((x.workers.getD w.toNat default).sums.getD e.toNat default+n))) (Cb hke2 rfl) (A8 ?_)
 cases ok
 ·repeat refine Bj ?_
  refine Mr 2 (w.toNat) [(4,6)] (Av (x.workers.set w.toNat (Fe (Ad x w) e n))) hk rfl rfl Ht rfl (J5 hk rfl) (Ji ?_)
  conv=>whnf
  exact B5h (Bl A0 () trivial rfl rfl rfl rfl Ay)
 repeat refine Bj ?_
 (repeat refine An ?_)
 refine B0k A0 rfl rfl rfl rfl rfl rfl (jn:=w.toNat) rfl (Gr _ _ _) rfl (A8 ?_)
 repeat refine Bj ?_
 refine K0 47 6 rfl rfl (A8 ?_)
 repeat refine Bj ?_
 refine ⟨by (rw [List.length_set];show _∧_;omega),?_⟩
 conv=>whnf
 repeat refine Bj ?_
 refine B5 (Fh (((x.workers.getD w.toNat default).sums.set e.toNat ((x.workers.getD w.toNat default).sums.getD e.toNat default+n)).getD e.toNat default) (-1000000) 1000000) rfl (A8 ?_)
 repeat refine Bj ?_
 rw [Sx.getD_set_self _ _ _ _ hke2]
 refine Mr 2 (w.toNat) [(4,6)] (Av (x.workers.set w.toNat (Fe (Ad x w) e n))) hk rfl rfl Ht rfl (J5 hk rfl) (Ji ?_)
 conv=>whnf
 exact B5h (Bl A0 () trivial rfl rfl rfl rfl Ay)
theorem Ss {x:A5}{w:Int}(hk:w.toNat<x.workers.length):Bb x w (Ad x w)=x:=by
 have e:x.workers.set w.toNat (x.workers.getD w.toNat default)=x.workers:=by
  apply List.ext_getElem
  ·simp
  intro i h1 h2
  rw [List.getElem_set]
  split
  ·rename_i h;subst h;simp [List.getD,hk]
  rfl
 unfold Bb Ad
 rw [e]
theorem Ok {c:A5}{w:Int}(h:Gz c w)(hk:w.toNat<c.workers.length)(h2:¬ O9 c.graph (Ad c w)):Eh c w=(c,false):=by
 rw [Qs h,B4q h2,Ss hk]
theorem Oj {c:A5}{w:Int}(h:Gz c w)(h2:O9 c.graph (Ad c w)):Eh c w=(Bb c w (Ij c.graph (Ad c w)),true):=by
 rw [Qs h,B2b h2]
theorem K5 {c:A5}{w:Int}(h:Gz c w)(hk:w.toNat<c.workers.length)(h2:¬ Kv c.graph (Ad c w)):Du c w=(c,false):=by
 rw [Oi h,A99 h2,Ss hk]
theorem V3 {c:A5}{w:Int}(h:Gz c w)(h2:Kv c.graph (Ad c w)):Du c w=(Bb c w (J3 (Ad c w)),true):=by
 rw [Oi h,A7c h2]
set_option maxHeartbeats 8000000 in
theorem B1w (x:A5)(w:Int)(h:x.w≤16000000):Cw Tryz.prog (fun _=>True) 114 [] (rc x) [.one (vi w)] (fun _:Unit=>True) (fun _=>Ru (Eh x w).1 (B4 x)) (fun _=>[.one (vb (Eh x w).2)]):=by
 refine Dn A0 false Tryz.func114 rfl Aw fun B b hH hp=>?_
 conv=>whnf
 refine Aj (A4f x w h) hH hp rfl Ay rfl rfl (fun r hr=>go A0 false ?_)
 conv=>whnf
 refine ⟨fun h1=>?_,fun h1=>?_⟩<;>conv=>whnf
 ·have h1:¬ Gz x w:=of_decide_eq_false (by simpa using h1)
  repeat refine Bj ?_
  rw [A12 h1]
  exact Bl A0 () trivial rfl rfl rfl rfl Ay
 have h1:Gz x w:=of_decide_eq_true (show decide (Gz x w)=true by simpa using h1)
 have hC:=h1.1
 have hb:=h1.2
 have hk:w.toNat<x.workers.length:=by omega
 have hw:=A5.worker_le h hk
 have hg:=T9 h
 have hWP:=hC.2.1 _ (B8 (d:=default) hk)
 have hww:(Ad x w).w≤16000000:=by show (x.workers.getD w.toNat default).w≤_;omega
 have hlw:=Tg (x.workers.getD w.toNat default)
 repeat refine Bj ?_
 (repeat refine An ?_)
 refine V1 A0 rfl rfl rfl rfl rfl (jn:=w.toNat) rfl (r:=A9.c ((x.workers).getD (w.toNat) default)) rfl hk rfl rfl (fun u=>go A0 false ?_)
 conv=>whnf
 refine ⟨fun h3=>?_,fun h3=>?_⟩<;>conv=>whnf
 ·have h3:¬ (Ad x w).staged.length=0:=by have:=of_decide_eq_true h3;simp only [Ad];omega
  repeat refine Bj ?_
  rw [Ok h1 hk (fun p=>h3 p.2.2.1)]
  refine Gu Tryz.prog 7 (w.toNat) [(0,11),(1,12),(2,13),(3,14),(4,15),(5,16),(6,17),(7,18)] (Av x.workers) hk rfl rfl Ht rfl (D5 rfl) ?_
  exact Bl A0 () trivial rfl rfl rfl rfl Ay
 have h3:(Ad x w).staged.length=0:=by have:=of_decide_eq_false h3;simp only [Ad];omega
 repeat refine Bj ?_
 refine ⟨fun h4=>have h4:=eq_of_beq h4;?_,fun h4=>have h4:=beq_eq_false_iff_ne.1 h4;?_⟩<;>conv=>whnf
 ·repeat refine Bj ?_
  rw [Ok h1 hk (fun p=>by have:=p.2.2.2;simp only [Ad] at this;omega)]
  refine Gu Tryz.prog 7 (w.toNat) [(0,11),(1,12),(2,13),(3,14),(4,15),(5,16),(6,17),(7,18)] (Av x.workers) hk rfl rfl Ht rfl (D5 rfl) ?_
  exact Bl A0 () trivial rfl rfl rfl rfl Ay
 have h4:0<(x.workers.getD w.toNat default).queue.length:=by omega
 have hP:O9 x.graph (Ad x w):=⟨hC.1.1,hWP,h3,h4⟩
 have hR:=hWP.1.1 _ (B8 (d:=default) h4)
 have hE:=hR.1.2.1
 have hcl:(x.workers.getD w.toNat default).caps.length=4:=hWP.2.1.2.2
 have hc:((x.workers.getD w.toNat default).queue.getD 0 default).stamp.epoch.toNat<(x.workers.getD w.toNat default).caps.length:=by omega
 repeat refine Bj ?_
 (repeat refine An ?_)
 first|(refine B7 7 rfl [0,1,2,3,4,5,6,7,8,9,10,11,12,13,14,15] A7 (A8 ?_))|(refine B7 11 rfl [0,1,2,3,4,5,6] A7 (A8 ?_))|(refine B7 13 rfl [0,1,2,3,4,5,6,7,8] A7 (A8 ?_))
 refine Cq (Vs x.graph (x.workers.getD w.toNat default).cells ((x.workers.getD w.toNat default).queue.getD 0 default) Ab Ab) rfl (A8 ?_)
 refine A2q A0 rfl rfl rfl rfl rfl rfl rfl rfl (l:=1) rfl rfl (⟨by omega,by omega,by omega⟩) (Ah ((x.workers.getD w.toNat default).queue.drop 1)) (G8 (k:=1) h4) (A8 ?_)
 refine B1 A0 rfl rfl rfl rfl rfl rfl rfl rfl rfl rfl rfl (Ah ((x.workers.getD w.toNat default).queue.drop 1)) (Ci) (fun _=>F8 _) (by (rw [List.length_drop];omega)) (A8 ?_)
 first|(refine B7 7 rfl [0,1,2,3,4,5,6,7,8,9,10,11,12,13,14,15] A7 (A8 ?_))|(refine B7 11 rfl [0,1,2,3,4,5,6] A7 (A8 ?_))|(refine B7 13 rfl [0,1,2,3,4,5,6,7,8] A7 (A8 ?_))
 refine B5 (Vl x.graph ((x.workers.getD w.toNat default).queue.getD 0 default) Ab) rfl (A8 ?_)
 refine ⟨fun h5=>?_,fun h5=>?_⟩<;>conv=>whnf
 ·have h5:capped x.graph ((Ad x w).queue.getD 0 default)=true:=h5
  refine ⟨by (show 0≤((x.workers.getD w.toNat default).queue.getD 0 default).stamp.epoch∧((x.workers.getD w.toNat default).queue.getD 0 default).stamp.epoch<(x.workers.getD w.toNat default).caps.length;omega),?_⟩
  conv=>whnf
  refine Ao (j:=((x.workers.getD w.toNat default).queue.getD 0 default).stamp.epoch) A0 rfl rfl rfl rfl rfl rfl rfl rfl (Ek ((x.workers.getD w.toNat default).caps.set ((x.workers.getD w.toNat default).queue.getD 0 default).stamp.epoch.toNat true)) (Cb hc rfl) (A8 ?_)
  first|(refine B7 7 rfl [0,1,2,3,4,5,6,7,8,9,10,11,12,13,14,15] A7 (A8 ?_))|(refine B7 11 rfl [0,1,2,3,4,5,6] A7 (A8 ?_))|(refine B7 13 rfl [0,1,2,3,4,5,6,7,8] A7 (A8 ?_))
  (repeat refine An ?_)
  refine Ao (j:=w) A0 rfl rfl rfl rfl rfl rfl rfl rfl (Av (x.workers.set w.toNat (Ij x.graph (Ad x w)))) (Fo hk (by rw [Ij,if_pos h5];rfl)) (A8 ?_)
  rw [Oj h1 hP]
  exact Bl A0 () trivial rfl rfl rfl rfl Ay
 have h5:capped x.graph ((Ad x w).queue.getD 0 default)=false:=h5
 first|(refine B7 7 rfl [0,1,2,3,4,5,6,7,8,9,10,11,12,13,14,15] A7 (A8 ?_))|(refine B7 11 rfl [0,1,2,3,4,5,6] A7 (A8 ?_))|(refine B7 13 rfl [0,1,2,3,4,5,6,7,8] A7 (A8 ?_))
 (repeat refine An ?_)
 refine Ao (j:=w) A0 rfl rfl rfl rfl rfl rfl rfl rfl (Av (x.workers.set w.toNat (Ij x.graph (Ad x w)))) (Fo hk (by rw [Ij,if_neg (by rw [h5];decide)];rfl)) (A8 ?_)
 rw [Oj h1 hP]
 exact Bl A0 () trivial rfl rfl rfl rfl Ay
set_option maxHeartbeats 8000000 in
theorem A73 (x:A5)(w:Int)(h:x.w≤16000000):Cw Tryz.prog (fun _=>True) 115 [] (rc x) [.one (vi w)] (fun _:Unit=>True) (fun _=>Ru (Du x w).1 (B4 x)) (fun _=>[.one (vb (Du x w).2)]):=by
 refine Dn A0 false Tryz.func115 rfl Aw fun B b hH hp=>?_
 conv=>whnf
 refine Aj (A4f x w h) hH hp rfl Ay rfl rfl (fun r hr=>go A0 false ?_)
 conv=>whnf
 refine ⟨fun h1=>?_,fun h1=>?_⟩<;>conv=>whnf
 ·have h1:¬ Gz x w:=of_decide_eq_false (by simpa using h1)
  repeat refine Bj ?_
  rw [Zk h1]
  exact Bl A0 () trivial rfl rfl rfl rfl Ay
 have h1:Gz x w:=of_decide_eq_true (show decide (Gz x w)=true by simpa using h1)
 have hC:=h1.1
 have hb:=h1.2
 have hk:w.toNat<x.workers.length:=by omega
 have hw:=A5.worker_le h hk
 have hg:=T9 h
 have hWP:=hC.2.1 _ (B8 (d:=default) hk)
 have hww:(Ad x w).w≤16000000:=by show (x.workers.getD w.toNat default).w≤_;omega
 have hlw:=Tg (x.workers.getD w.toNat default)
 repeat refine Bj ?_
 (repeat refine An ?_)
 refine V1 A0 rfl rfl rfl rfl rfl (jn:=w.toNat) rfl (r:=A9.c ((x.workers).getD (w.toNat) default)) rfl hk rfl rfl (fun u=>go A0 false ?_)
 conv=>whnf
 refine ⟨fun h3=>?_,fun h3=>?_⟩<;>conv=>whnf
 ·have h3:¬ (Ad x w).staged.length=0:=by have:=of_decide_eq_true h3;simp only [Ad];omega
  repeat refine Bj ?_
  rw [K5 h1 hk (fun p=>h3 p.2.2.1)]
  refine Gu Tryz.prog 7 (w.toNat) [(0,11),(1,12),(2,13),(3,14),(4,15),(5,16),(6,17),(7,18)] (Av x.workers) hk rfl rfl Ht rfl (D5 rfl) ?_
  exact Bl A0 () trivial rfl rfl rfl rfl Ay
 have h3:(Ad x w).staged.length=0:=by have:=of_decide_eq_false h3;simp only [Ad];omega
 repeat refine Bj ?_
 refine ⟨fun h4=>?_,fun h4=>?_⟩<;>conv=>whnf
 ·have h4:¬ (Ad x w).queue.length=0:=by have:=of_decide_eq_true h4;simp only [Ad];omega
  repeat refine Bj ?_
  rw [K5 h1 hk (fun p=>h4 p.2.2.2.1)]
  refine Gu Tryz.prog 7 (w.toNat) [(0,11),(1,12),(2,13),(3,14),(4,15),(5,16),(6,17),(7,18)] (Av x.workers) hk rfl rfl Ht rfl (D5 rfl) ?_
  exact Bl A0 () trivial rfl rfl rfl rfl Ay
 have h4:(Ad x w).queue.length=0:=by have:=of_decide_eq_false h4;simp only [Ad];omega
 repeat refine Bj ?_
 refine ⟨fun h5=>have h5:=eq_of_beq h5;?_,fun h5=>have h5:=beq_eq_false_iff_ne.1 h5;?_⟩<;>conv=>whnf
 ·repeat refine Bj ?_
  rw [K5 h1 hk (fun p=>by have:=p.2.2.2.2;simp only [Ad] at this;omega)]
  refine Gu Tryz.prog 7 (w.toNat) [(0,11),(1,12),(2,13),(3,14),(4,15),(5,16),(6,17),(7,18)] (Av x.workers) hk rfl rfl Ht rfl (D5 rfl) ?_
  exact Bl A0 () trivial rfl rfl rfl rfl Ay
 have h5:0<(x.workers.getD w.toNat default).inputs.length:=by omega
 have hP:Kv x.graph (Ad x w):=⟨hC.1.1,hWP,h3,h4,h5⟩
 have hq0:(Ad x w).queue=[]:=List.eq_nil_of_length_eq_zero h4
 repeat refine Bj ?_
 (repeat refine An ?_)
 refine Ed 20 (Ah [(x.workers.getD w.toNat default).inputs.getD 0 default]) rfl (Bd rfl Cf) ?_
 refine A2q A0 rfl rfl rfl rfl rfl rfl rfl rfl (l:=1) rfl rfl (⟨by omega,by omega,by omega⟩) (Ah ((x.workers.getD w.toNat default).inputs.drop 1)) (G8 (k:=1) h5) (A8 ?_)
 refine B1 A0 rfl rfl rfl rfl rfl rfl rfl rfl rfl rfl rfl (Ah ((x.workers.getD w.toNat default).inputs.drop 1)) (Ci) (fun _=>F8 _) (by (rw [List.length_drop];omega)) (A8 ?_)
 first|(refine B7 8 rfl [0,1,2,3,4,5,6,7,8] A7 (A8 ?_))
 (repeat refine An ?_)
 refine Ao (j:=w) A0 rfl rfl rfl rfl rfl rfl rfl rfl (Av (x.workers.set w.toNat (J3 (Ad x w)))) (Fo hk (by rw [J3,hq0];rfl)) (A8 ?_)
 rw [V3 h1 hP]
 exact Bl A0 () trivial rfl rfl rfl rfl Ay
end Go.Proofs.YtdendlkeiaccpaaGreatDoor
