/- Part 28 of the proof that each of the laws FnColours returns true for every input. No conditions. -/
import Derived.Test.YtdendlkeiaccpaaGreatDoorP27
import Derived.Test.YtdendlkeiaccpaaGreatDoorP7
import Derived.Test.YtdendlkeiaccpaaGreatDoorP6
import Derived.Test.YtdendlkeiaccpaaGreatDoorP19
import Derived.Test.YtdendlkeiaccpaaGreatDoorP17
import Derived.Test.YtdendlkeiaccpaaGreatDoorP23
import Derived.Test.YtdendlkeiaccpaaGreatDoorP22
import Derived.Test.YtdendlkeiaccpaaGreatDoorP20

set_option linter.unusedSimpArgs false
set_option linter.unusedVariables false
set_option maxRecDepth 100000
namespace Go.Proofs.YtdendlkeiaccpaaGreatDoor
open Go.Sx
theorem B3j {l:List Av}(h:B1d l):Ft ⟨l,1,1⟩:=by
 obtain ⟨G,a,b,k,hG,ha,hb,hk,hl⟩:=h
 have ha:a=1∨a=2∨a=3:=by omega
 have hb:b=0∨b=1∨b=2∨b=3:=by omega
 have hk:k=1∨k=2∨k=3:=by omega
 rcases hl with rfl|rfl|rfl|rfl|rfl
 ·show Ft ⟨[⟨1,0,0,[1]⟩,⟨G,0,0,[2,5]⟩,⟨4,a,0,[3]⟩,⟨3,k,0,[4]⟩,⟨7,0,0,[1]⟩,⟨8,0,0,[]⟩],1,1⟩
  rcases hG with rfl|rfl<;>rcases ha with rfl|rfl|rfl<;>rcases hk with rfl|rfl|rfl<;>decide
 ·rcases hG with rfl|rfl<;>rcases ha with rfl|rfl|rfl<;>rcases hb with rfl|rfl|rfl|rfl<;>decide
 ·rcases hG with rfl|rfl<;>rcases ha with rfl|rfl|rfl<;>rcases hb with rfl|rfl|rfl|rfl<;>decide
 ·rcases hG with rfl|rfl<;>rcases ha with rfl|rfl|rfl<;>rcases hb with rfl|rfl|rfl|rfl<;>decide
 rcases hG with rfl|rfl<;>rcases ha with rfl|rfl|rfl<;>rcases hb with rfl|rfl|rfl|rfl<;>decide
theorem B2s {g:Aq}(h:A0e g):Ft g:=by
 obtain ⟨h1,h2,hn⟩:=h
 have:Ft ⟨g.nodes,1,1⟩:=B3j hn
 exact ⟨this.1,by omega,by omega,this.2.2.2⟩
def B9d (p:C7) (w:Int):Bool:=
 if p.kind==1 then p.a==w else if p.kind==2 then p.a==w else if p.kind==3 then p.a==w else if p.kind==7 then p.a==w
 else if p.kind==4 then (if p.a==w then true else p.b==w) else if p.kind==5 then (if p.a==w then true else p.b==w) else false
def B9x (xs:List C7) (w:Int):List C7:=xs.filter fun p=>!B9d p w
theorem B03 (c:A3)(j w:Int)(v:Aa):Ab (B3 c j v) w=if w.toNat=j.toNat∧j.toNat<c.workers.length then v else Ab c w:=by
 unfold Ab B3
 dsimp only
 by_cases h:w.toNat=j.toNat∧j.toNat<c.workers.length
 ·rw [if_pos h,h.1,Sx.getD_set_self _ _ _ _ h.2]
 rw [if_neg h]
 by_cases e:w.toNat=j.toNat
 ·have hl:c.workers.length≤j.toNat:=by omega
  rw [List.set_eq_of_length_le hl]
 rw [Sx.getD_set_ne _ _ _ _ _ e]
theorem A63 {c:A3}{j w:Int}(h:w.toNat=j.toNat):Ab c w=Ab c j:=by unfold Ab;rw [h]
structure UI (n w e:Int) (c:A3):Prop where
 len:(c.workers.length:Int)=n
 done:Bf (Ab c 0) e=false
 tok:(A9 c e).going=true→w≤(A9 c e).at_
 rest:(A9 c e).going=false→(A9 c e).at_=0
 news:∀x∈c.news,x.epoch≠e
theorem UI.lnk {n w e:Int}{c:A3}{k:Int}{l:Bz}(h:UI n w e c):UI n w e (C2 c k l):=⟨h.1,h.2,h.3,h.4,h.5⟩
theorem UI.set {n w e:Int}{c:A3}{j:Int}{v:Aa}(h:UI n w e c)(hd:Bf v e=Bf (Ab c j) e):UI n w e (B3 c j v):=by
 refine ⟨by rw [←h.len];simp only [B3,List.length_set],?_,h.3,h.4,h.5⟩
 rw [B03]
 split
 ·rename_i q
  rw [hd,←A63 q.1]
  exact h.done
 exact h.done
theorem Tz {v:Aa}{d:Dn}{e:Int}(h:d.epoch≠e):Bf (Ct v d) e=Bf v e:=by
 unfold Bf Ct
 dsimp only
 rw [List.any_append]
 have:(d.epoch==e)=false:=beq_eq_false_iff_ne.2 h
 simp only [List.any_cons,List.any_nil,this,Bool.or_false]
theorem Xr {c:A3}{e a:Int}{t:Cu}(he:0≤e)(ha:0≤a)(h:a≠e):A9 (C9 c a t) e=A9 c e:=by
 unfold A9 C9
 exact Sx.getD_set_ne _ _ _ _ _ Ac
theorem Nw {c:A3}{e:Int}{t:Cu}(hl:e.toNat<c.tokens.length):A9 (C9 c e t) e=t:=by
 unfold A9 C9
 exact Sx.getD_set_self _ _ _ _ hl
theorem UI.other {n w e a:Int}{c:A3}{t:Cu}(h:UI n w e c)(he:0≤e)(ha:0≤a)(hne:a≠e):UI n w e (C9 c a t):=by
 refine ⟨h.1,h.2,?_,?_,h.5⟩
 ·rw [Xr he ha hne];exact h.3
 rw [Xr he ha hne];exact h.4
theorem UI.step {n w e:Int}{c:A3}{p:C7}{l:List Ae}(hw:0≤w∧w<n)(he:0≤e)(hi:(Ab c w).inputs=l)(ho:l.any (fun r=>decide (r.stamp.epoch≤e))=true)(h:UI n w e c):UI n w e (Aj c p).1:=by
 by_cases hc:As c
 case neg=>rw [L5 hc];exact h
 unfold Aj
 split
 ·unfold Df
  split
  ·exact h.set (by unfold F3;split<;>rfl)
  exact h
 split
 ·unfold Cz
  split
  ·exact h.set (by unfold D8;split<;>rfl)
  exact h
 split
 ·unfold C3
  split
  ·split
   ·exact h.set rfl
   split
   ·exact h.lnk.set (by unfold H5;split<;>rfl)
   exact h
  exact h
 split
 ·unfold Cm
  split
  ·exact h.lnk.set (by unfold E8;split<;>rfl)
  exact h
 split
 ·unfold Cy
  split
  ·exact h.lnk
  exact h
 split
 ·unfold Bc
  dsimp only
  split
  ·rename_i hT
   have hA:=(hc.2.2.2.1 _ (Ay (d:=default) (show p.a.toNat<c.tokens.length by have:=hc.1.2.2.2;have:=hT.2.1;omega))).1.1
   have hA:0≤(A9 c p.a).at_:=hA
   have hN:∀t v:A3,True:=fun _ _=>trivial
   by_cases hee:p.a=e
   ·rw [hee] at hT hA ⊢
    have hlt:e.toNat<c.tokens.length:=by have:=hc.1.2.2.2;have:=hT.2.1;omega
    have hat:(A9 c e).at_≠w:=by
     intro q
     have hp:=hT.2.2.2
     rw [q] at hp
     unfold Ch Oy at hp
     rw [hi,ho] at hp
     simp at hp
    split
    ·rename_i hg
     refine UI.set ⟨h.1,h.2,?_,?_,h.5⟩ rfl
     ·rw [Nw hlt]
      intro _
      show w≤(c.workers.length:Int)-1
      rw [h.len]
      omega
     rw [Nw hlt]
     intro q
     cases q
    split
    ·rename_i hg ha
     have hg:(A9 c e).going=true:=by simpa using hg
     have:=h.tok hg
     split
     ·refine UI.set ⟨h.1,h.2,?_,?_,h.5⟩ rfl
      ·rw [Nw hlt]
       intro _
       show w≤(A9 c e).at_-1
       omega
      rw [Nw hlt]
      intro q
      rw [show (A9 c e).going=false from q] at hg
      cases hg
     exact h
    rename_i hg ha
    have hg:(A9 c e).going=true:=by simpa using hg
    have:=h.tok hg
    omega
   split
   ·exact (h.other he hT.2.1.1 hee).set rfl
   split
   ·split
    ·exact (h.other he hT.2.1.1 hee).set rfl
    exact h
   rename_i hg ha
   unfold F2
   have h0:(A9 c p.a).at_=0:=by omega
   split
   ·have hs:=(h.other (t:=⟨false,(A9 c p.a).at_,(A9 c p.a).sum,(A9 c p.a).black,(A9 c p.a).capped⟩) he hT.2.1.1 hee).set (j:=0) (v:=Ct (Ab c (A9 c p.a).at_) ⟨p.a,(A9 c p.a).capped||(Ab c (A9 c p.a).at_).caps.getD p.a.toNat default⟩) (by
     rw [Tz hee,h0]
     rfl)
    refine ⟨hs.1,hs.2,hs.3,hs.4,fun x hx=>?_⟩
    rcases List.mem_append.1 hx with hx|hx
    ·exact h.news x hx
    simp only [Gd,List.mem_map] at hx
    obtain ⟨i,_,rfl⟩:=hx
    exact hee
   exact h.other he hT.2.1.1 hee
  exact h
 split
 ·unfold D5
  split
  ·rename_i hT
   have hm:=L4 hc hT.2
   have hh:UI n w e (I8 c p.a):=⟨h.1,h.2,h.3,h.4,fun x hx=>h.news x (List.mem_of_mem_eraseIdx hx)⟩
   split
   ·exact hh
   exact hh.set (by rw [Tz (h.news _ hm.1)];rfl)
  exact h
 exact h
theorem Uw {g:Aq}{ins:List Ae}(hg:A0e g)(hi:B43 ins):Ob g ins:=by
 refine ⟨B2s hg,by have:=hi.1;omega,fun r hr=>?_⟩
 obtain ⟨h1,h2,h3,h4,h5⟩:=hi.2 r hr
 exact ⟨⟨by omega,h3,by omega,by omega,by omega⟩,h1,h2⟩
theorem A6q (x:A3)(w:Int)(h:x.w≤16000000):Dd Tryz.prog (fun _=>True) 150 [] (rc x) [.one (vi w)] (fun _:Unit=>True) (fun _=>rc x) (fun _=>[.one (vb (decide (Hj x w)))]):=by
 have hwl:=A3.workers_le h
 refine Dp A0 false Tryz.func150 rfl Az fun B b hH hp=>?_
 conv=>whnf
 refine ⟨fun h1=>?_,fun h1=>?_⟩<;>conv=>whnf
 ·have h1:As x:=of_decide_eq_true (show B9 x=true from h1)
  repeat refine Bd ?_
  (repeat refine An ?_)
  refine At (Fc w 0 (x.workers.length-1)) rfl (A8 ?_)
  repeat refine Bd ?_
  rw [show Di w 0 (x.workers.length-1)=decide (Hj x w) by rw [Bool.eq_iff_iff,Go.Sx.Ah,decide_eq_true_eq];exact ⟨fun p=>⟨h1,by omega,by omega⟩,fun p=>⟨p.2.1,by have:=p.2.2;omega⟩⟩]
  exact Bu A0 () trivial rfl rfl rfl rfl B1
 repeat refine Bd ?_
 rw [show decide (Hj x w)=false from decide_eq_false fun p=>absurd p.1 (of_decide_eq_false (show B9 x=false from h1))]
 exact Bu A0 () trivial rfl rfl rfl rfl B1
set_option maxHeartbeats 4000000 in
theorem A8n (x:A3)(ok:Bool)(w e n:Int)(h0:0≤w)(hk:w.toNat<x.workers.length)(he:0≤e)(hke:e.toNat<(Ab x w).sums.length)(hs:Gj ((Ab x w).sums.getD e.toNat default))(hn: -1≤n∧n≤1):
  Dd Tryz.prog (fun _=>True) 154 [] (Td x ok) [.one (vi w),.one (vi e),.one (vi n)] (fun _:Unit=>True) (fun _=>Td (B3 x w (El (Ab x w) e n)) (ok&&Di ((Ab x w).sums.getD e.toNat default+n) (-1000000) 1000000)) (fun _=>[]):=by
 obtain ⟨s1,s2⟩:=hs
 have hke2:e.toNat<(x.workers.getD w.toNat default).sums.length:=hke
 have hg:(x.workers.getD w.toNat default).sums.getD e.toNat default=(Ab x w).sums.getD e.toNat default:=rfl
 refine Dp A0 false Tryz.func154 rfl Az fun B b hH hp=>?_
 conv=>whnf
 first|(refine Ax 0 rfl [0,1,2,3,4,5,6,7,8,9,10,11,12,13,14,15,16,17,18,19,20,21,22,23,24,25] A7 (A8 ?_))
 (repeat refine An ?_)
 refine Jc A0 rfl rfl rfl rfl rfl rfl (jn:=w.toNat) rfl rfl rfl (fun v=>go A0 false ?_)
 conv=>whnf
 (repeat refine An ?_)
 refine Je A0 rfl rfl rfl rfl rfl rfl (jn:=w.toNat) rfl (Cw _ _ _) rfl (A8 ?_)
 refine Fz 26 6 rfl rfl (A8 ?_)
 (repeat refine An ?_)
 refine Am (j:=e) A0 rfl rfl rfl rfl rfl rfl rfl rfl (Au ((x.workers.getD w.toNat default).sums.set e.toNat ((x.workers.getD w.toNat default).sums.getD e.toNat default+n))) (C6 hke2 rfl) (A8 ?_)
 cases ok
 ·repeat refine Bd ?_
  refine M4 2 (w.toNat) [(4,6)] (Al (x.workers.set w.toNat (El (Ab x w) e n))) hk rfl rfl G2 rfl (Fw hk rfl) (I5 ?_)
  conv=>whnf
  exact B7z (Bu A0 () trivial rfl rfl rfl rfl B1)
 repeat refine Bd ?_
 (repeat refine An ?_)
 refine Je A0 rfl rfl rfl rfl rfl rfl (jn:=w.toNat) rfl (Cw _ _ _) rfl (A8 ?_)
 repeat refine Bd ?_
 refine Fz 47 6 rfl rfl (A8 ?_)
 repeat refine Bd ?_
 refine ⟨by (rw [List.length_set];show _∧_;omega),?_⟩
 conv=>whnf
 repeat refine Bd ?_
 refine At (Fc (((x.workers.getD w.toNat default).sums.set e.toNat ((x.workers.getD w.toNat default).sums.getD e.toNat default+n)).getD e.toNat default) (-1000000) 1000000) rfl (A8 ?_)
 repeat refine Bd ?_
 rw [Sx.getD_set_self _ _ _ _ hke2]
 refine M4 2 (w.toNat) [(4,6)] (Al (x.workers.set w.toNat (El (Ab x w) e n))) hk rfl rfl G2 rfl (Fw hk rfl) (I5 ?_)
 conv=>whnf
 exact B7z (Bu A0 () trivial rfl rfl rfl rfl B1)
theorem Ua {x:A3}{w:Int}(hk:w.toNat<x.workers.length):B3 x w (Ab x w)=x:=by
 have e:x.workers.set w.toNat (x.workers.getD w.toNat default)=x.workers:=by
  apply List.ext_getElem
  ·simp
  intro i h1 h2
  rw [List.getElem_set]
  split
  ·rename_i h;subst h;simp [List.getD,hk]
  rfl
 unfold B3 Ab
 rw [e]
theorem Q9 {c:A3}{w:Int}(h:Hj c w)(hk:w.toNat<c.workers.length)(h2:¬ Oc c.graph (Ab c w)):Df c w=(c,false):=by
 rw [Sa h,B7a h2,Ua hk]
theorem Q8 {c:A3}{w:Int}(h:Hj c w)(h2:Oc c.graph (Ab c w)):Df c w=(B3 c w (Hg c.graph (Ab c w)),true):=by
 rw [Sa h,B4y h2]
theorem Lg {c:A3}{w:Int}(h:Hj c w)(hk:w.toNat<c.workers.length)(h2:¬ M7 c.graph (Ab c w)):Cz c w=(c,false):=by
 rw [Q7 h,B2z h2,Ua hk]
theorem Wy {c:A3}{w:Int}(h:Hj c w)(h2:M7 c.graph (Ab c w)):Cz c w=(B3 c w (J7 (Ab c w)),true):=by
 rw [Q7 h,A9z h2]
set_option maxHeartbeats 8000000 in
theorem B4h (x:A3)(w:Int)(h:x.w≤16000000):Dd Tryz.prog (fun _=>True) 114 [] (rc x) [.one (vi w)] (fun _:Unit=>True) (fun _=>Td (Df x w).1 (B9 x)) (fun _=>[.one (vb (Df x w).2)]):=by
 refine Dp A0 false Tryz.func114 rfl Az fun B b hH hp=>?_
 conv=>whnf
 refine Ak (A6q x w h) hH hp rfl B1 rfl rfl (fun r hr=>go A0 false ?_)
 conv=>whnf
 refine ⟨fun h1=>?_,fun h1=>?_⟩<;>conv=>whnf
 ·have h1:¬ Hj x w:=of_decide_eq_false (by simpa using h1)
  repeat refine Bd ?_
  rw [A36 h1]
  exact Bu A0 () trivial rfl rfl rfl rfl B1
 have h1:Hj x w:=of_decide_eq_true (show decide (Hj x w)=true by simpa using h1)
 have hC:=h1.1
 have hb:=h1.2
 have hk:w.toNat<x.workers.length:=by omega
 have hw:=A3.worker_le h hk
 have hg:=A7r h
 have hWP:=hC.2.1 _ (Ay (d:=default) hk)
 have hww:(Ab x w).w≤16000000:=by show (x.workers.getD w.toNat default).w≤_;omega
 have hlw:=V2 (x.workers.getD w.toNat default)
 repeat refine Bd ?_
 (repeat refine An ?_)
 refine S9 A0 rfl rfl rfl rfl rfl (jn:=w.toNat) rfl (r:=Aa.c ((x.workers).getD (w.toNat) default)) rfl hk rfl rfl (fun u=>go A0 false ?_)
 conv=>whnf
 refine ⟨fun h3=>?_,fun h3=>?_⟩<;>conv=>whnf
 ·have h3:¬ (Ab x w).staged.length=0:=by have:=of_decide_eq_true h3;simp only [Ab];omega
  repeat refine Bd ?_
  rw [Q9 h1 hk (fun p=>h3 p.2.2.1)]
  refine Ej Tryz.prog 7 (w.toNat) [(0,11),(1,12),(2,13),(3,14),(4,15),(5,16),(6,17),(7,18)] (Al x.workers) hk rfl rfl G2 rfl (Ck rfl) ?_
  exact Bu A0 () trivial rfl rfl rfl rfl B1
 have h3:(Ab x w).staged.length=0:=by have:=of_decide_eq_false h3;simp only [Ab];omega
 repeat refine Bd ?_
 refine ⟨fun h4=>have h4:=eq_of_beq h4;?_,fun h4=>have h4:=beq_eq_false_iff_ne.1 h4;?_⟩<;>conv=>whnf
 ·repeat refine Bd ?_
  rw [Q9 h1 hk (fun p=>by have:=p.2.2.2;simp only [Ab] at this;omega)]
  refine Ej Tryz.prog 7 (w.toNat) [(0,11),(1,12),(2,13),(3,14),(4,15),(5,16),(6,17),(7,18)] (Al x.workers) hk rfl rfl G2 rfl (Ck rfl) ?_
  exact Bu A0 () trivial rfl rfl rfl rfl B1
 have h4:0<(x.workers.getD w.toNat default).queue.length:=by omega
 have hP:Oc x.graph (Ab x w):=⟨hC.1.1,hWP,h3,h4⟩
 have hR:=hWP.1.1 _ (Ay (d:=default) h4)
 have hE:=hR.1.2.1
 have hcl:(x.workers.getD w.toNat default).caps.length=4:=hWP.2.1.2.2
 have hc:((x.workers.getD w.toNat default).queue.getD 0 default).stamp.epoch.toNat<(x.workers.getD w.toNat default).caps.length:=by omega
 repeat refine Bd ?_
 (repeat refine An ?_)
 first|(refine Ax 7 rfl [0,1,2,3,4,5,6,7,8,9,10,11,12,13,14,15] A7 (A8 ?_))|(refine Ax 11 rfl [0,1,2,3,4,5,6] A7 (A8 ?_))|(refine Ax 13 rfl [0,1,2,3,4,5,6,7,8] A7 (A8 ?_))
 refine Cn (Xn x.graph (x.workers.getD w.toNat default).cells ((x.workers.getD w.toNat default).queue.getD 0 default) Ac Ac) rfl (A8 ?_)
 refine A4s A0 rfl rfl rfl rfl rfl rfl rfl rfl (l:=1) rfl rfl (⟨by omega,by omega,by omega⟩) (Ag ((x.workers.getD w.toNat default).queue.drop 1)) (Gt (k:=1) h4) (A8 ?_)
 refine B6 A0 rfl rfl rfl rfl rfl rfl rfl rfl rfl rfl rfl (Ag ((x.workers.getD w.toNat default).queue.drop 1)) (C1) (fun _=>F7 _) (by (rw [List.length_drop];omega)) (A8 ?_)
 first|(refine Ax 7 rfl [0,1,2,3,4,5,6,7,8,9,10,11,12,13,14,15] A7 (A8 ?_))|(refine Ax 11 rfl [0,1,2,3,4,5,6] A7 (A8 ?_))|(refine Ax 13 rfl [0,1,2,3,4,5,6,7,8] A7 (A8 ?_))
 refine At (Xh x.graph ((x.workers.getD w.toNat default).queue.getD 0 default) Ac) rfl (A8 ?_)
 refine ⟨fun h5=>?_,fun h5=>?_⟩<;>conv=>whnf
 ·have h5:capped x.graph ((Ab x w).queue.getD 0 default)=true:=h5
  refine ⟨by (show 0≤((x.workers.getD w.toNat default).queue.getD 0 default).stamp.epoch∧((x.workers.getD w.toNat default).queue.getD 0 default).stamp.epoch<(x.workers.getD w.toNat default).caps.length;omega),?_⟩
  conv=>whnf
  refine Am (j:=((x.workers.getD w.toNat default).queue.getD 0 default).stamp.epoch) A0 rfl rfl rfl rfl rfl rfl rfl rfl (Dq ((x.workers.getD w.toNat default).caps.set ((x.workers.getD w.toNat default).queue.getD 0 default).stamp.epoch.toNat true)) (C6 hc rfl) (A8 ?_)
  first|(refine Ax 7 rfl [0,1,2,3,4,5,6,7,8,9,10,11,12,13,14,15] A7 (A8 ?_))|(refine Ax 11 rfl [0,1,2,3,4,5,6] A7 (A8 ?_))|(refine Ax 13 rfl [0,1,2,3,4,5,6,7,8] A7 (A8 ?_))
  (repeat refine An ?_)
  refine Am (j:=w) A0 rfl rfl rfl rfl rfl rfl rfl rfl (Al (x.workers.set w.toNat (Hg x.graph (Ab x w)))) (G8 hk (by rw [Hg,if_pos h5];rfl)) (A8 ?_)
  rw [Q8 h1 hP]
  exact Bu A0 () trivial rfl rfl rfl rfl B1
 have h5:capped x.graph ((Ab x w).queue.getD 0 default)=false:=h5
 first|(refine Ax 7 rfl [0,1,2,3,4,5,6,7,8,9,10,11,12,13,14,15] A7 (A8 ?_))|(refine Ax 11 rfl [0,1,2,3,4,5,6] A7 (A8 ?_))|(refine Ax 13 rfl [0,1,2,3,4,5,6,7,8] A7 (A8 ?_))
 (repeat refine An ?_)
 refine Am (j:=w) A0 rfl rfl rfl rfl rfl rfl rfl rfl (Al (x.workers.set w.toNat (Hg x.graph (Ab x w)))) (G8 hk (by rw [Hg,if_neg (by rw [h5];decide)];rfl)) (A8 ?_)
 rw [Q8 h1 hP]
 exact Bu A0 () trivial rfl rfl rfl rfl B1
set_option maxHeartbeats 8000000 in
theorem B0p (x:A3)(w:Int)(h:x.w≤16000000):Dd Tryz.prog (fun _=>True) 115 [] (rc x) [.one (vi w)] (fun _:Unit=>True) (fun _=>Td (Cz x w).1 (B9 x)) (fun _=>[.one (vb (Cz x w).2)]):=by
 refine Dp A0 false Tryz.func115 rfl Az fun B b hH hp=>?_
 conv=>whnf
 refine Ak (A6q x w h) hH hp rfl B1 rfl rfl (fun r hr=>go A0 false ?_)
 conv=>whnf
 refine ⟨fun h1=>?_,fun h1=>?_⟩<;>conv=>whnf
 ·have h1:¬ Hj x w:=of_decide_eq_false (by simpa using h1)
  repeat refine Bd ?_
  rw [A1l h1]
  exact Bu A0 () trivial rfl rfl rfl rfl B1
 have h1:Hj x w:=of_decide_eq_true (show decide (Hj x w)=true by simpa using h1)
 have hC:=h1.1
 have hb:=h1.2
 have hk:w.toNat<x.workers.length:=by omega
 have hw:=A3.worker_le h hk
 have hg:=A7r h
 have hWP:=hC.2.1 _ (Ay (d:=default) hk)
 have hww:(Ab x w).w≤16000000:=by show (x.workers.getD w.toNat default).w≤_;omega
 have hlw:=V2 (x.workers.getD w.toNat default)
 repeat refine Bd ?_
 (repeat refine An ?_)
 refine S9 A0 rfl rfl rfl rfl rfl (jn:=w.toNat) rfl (r:=Aa.c ((x.workers).getD (w.toNat) default)) rfl hk rfl rfl (fun u=>go A0 false ?_)
 conv=>whnf
 refine ⟨fun h3=>?_,fun h3=>?_⟩<;>conv=>whnf
 ·have h3:¬ (Ab x w).staged.length=0:=by have:=of_decide_eq_true h3;simp only [Ab];omega
  repeat refine Bd ?_
  rw [Lg h1 hk (fun p=>h3 p.2.2.1)]
  refine Ej Tryz.prog 7 (w.toNat) [(0,11),(1,12),(2,13),(3,14),(4,15),(5,16),(6,17),(7,18)] (Al x.workers) hk rfl rfl G2 rfl (Ck rfl) ?_
  exact Bu A0 () trivial rfl rfl rfl rfl B1
 have h3:(Ab x w).staged.length=0:=by have:=of_decide_eq_false h3;simp only [Ab];omega
 repeat refine Bd ?_
 refine ⟨fun h4=>?_,fun h4=>?_⟩<;>conv=>whnf
 ·have h4:¬ (Ab x w).queue.length=0:=by have:=of_decide_eq_true h4;simp only [Ab];omega
  repeat refine Bd ?_
  rw [Lg h1 hk (fun p=>h4 p.2.2.2.1)]
  refine Ej Tryz.prog 7 (w.toNat) [(0,11),(1,12),(2,13),(3,14),(4,15),(5,16),(6,17),(7,18)] (Al x.workers) hk rfl rfl G2 rfl (Ck rfl) ?_
  exact Bu A0 () trivial rfl rfl rfl rfl B1
 have h4:(Ab x w).queue.length=0:=by have:=of_decide_eq_false h4;simp only [Ab];omega
 repeat refine Bd ?_
 refine ⟨fun h5=>have h5:=eq_of_beq h5;?_,fun h5=>have h5:=beq_eq_false_iff_ne.1 h5;?_⟩<;>conv=>whnf
 ·repeat refine Bd ?_
  rw [Lg h1 hk (fun p=>by have:=p.2.2.2.2;simp only [Ab] at this;omega)]
  refine Ej Tryz.prog 7 (w.toNat) [(0,11),(1,12),(2,13),(3,14),(4,15),(5,16),(6,17),(7,18)] (Al x.workers) hk rfl rfl G2 rfl (Ck rfl) ?_
  exact Bu A0 () trivial rfl rfl rfl rfl B1
 have h5:0<(x.workers.getD w.toNat default).inputs.length:=by omega
 have hP:M7 x.graph (Ab x w):=⟨hC.1.1,hWP,h3,h4,h5⟩
 have hq0:(Ab x w).queue=[]:=List.eq_nil_of_length_eq_zero h4
 repeat refine Bd ?_
 (repeat refine An ?_)
 refine Eo 20 (Ag [(x.workers.getD w.toNat default).inputs.getD 0 default]) rfl (Bq rfl Cg) ?_
 refine A4s A0 rfl rfl rfl rfl rfl rfl rfl rfl (l:=1) rfl rfl (⟨by omega,by omega,by omega⟩) (Ag ((x.workers.getD w.toNat default).inputs.drop 1)) (Gt (k:=1) h5) (A8 ?_)
 refine B6 A0 rfl rfl rfl rfl rfl rfl rfl rfl rfl rfl rfl (Ag ((x.workers.getD w.toNat default).inputs.drop 1)) (C1) (fun _=>F7 _) (by (rw [List.length_drop];omega)) (A8 ?_)
 first|(refine Ax 8 rfl [0,1,2,3,4,5,6,7,8] A7 (A8 ?_))
 (repeat refine An ?_)
 refine Am (j:=w) A0 rfl rfl rfl rfl rfl rfl rfl rfl (Al (x.workers.set w.toNat (J7 (Ab x w)))) (G8 hk (by rw [J7,hq0];rfl)) (A8 ?_)
 rw [Wy h1 hP]
 exact Bu A0 () trivial rfl rfl rfl rfl B1
end Go.Proofs.YtdendlkeiaccpaaGreatDoor
