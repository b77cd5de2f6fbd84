/- Part 27 of the proof that each of the laws FnTotals returns true for every input. No conditions. -/
import Derived.Test.YtdendlkeiaccpaaGreatP26
import Derived.Test.YtdendlkeiaccpaaGreatP10
import Derived.Test.YtdendlkeiaccpaaGreatP6
import Derived.Test.YtdendlkeiaccpaaGreatP17
import Derived.Test.YtdendlkeiaccpaaGreatP15
import Derived.Test.YtdendlkeiaccpaaGreatP18
import Derived.Test.YtdendlkeiaccpaaGreatP22
import Derived.Test.YtdendlkeiaccpaaGreatP20
import Derived.Test.YtdendlkeiaccpaaGreatP19

set_option linter.unusedSimpArgs false
set_option linter.unusedVariables false
set_option maxRecDepth 100000
namespace Go.Proofs.YtdendlkeiaccpaaGreat
open Go.Sx
theorem A94 {l:List An}(h:A7z l):Fa ⟨l,1,1⟩:=by
 obtain ⟨G,a,b,k,hG,ha,hb,hk,hl⟩:=h
 have ha:a=1∨a=2∨a=3:=by omega
 have hb:b=0∨b=1∨b=2∨b=3:=by omega
 have hk:k=1∨k=2∨k=3:=by omega
 rcases hl with rfl|rfl|rfl|rfl|rfl
 ·show Fa ⟨[⟨1,0,0,[1]⟩,⟨G,0,0,[2,5]⟩,⟨4,a,0,[3]⟩,⟨3,k,0,[4]⟩,⟨7,0,0,[1]⟩,⟨8,0,0,[]⟩],1,1⟩
  rcases hG with rfl|rfl<;>rcases ha with rfl|rfl|rfl<;>rcases hk with rfl|rfl|rfl<;>decide
 ·rcases hG with rfl|rfl<;>rcases ha with rfl|rfl|rfl<;>rcases hb with rfl|rfl|rfl|rfl<;>decide
 ·rcases hG with rfl|rfl<;>rcases ha with rfl|rfl|rfl<;>rcases hb with rfl|rfl|rfl|rfl<;>decide
 ·rcases hG with rfl|rfl<;>rcases ha with rfl|rfl|rfl<;>rcases hb with rfl|rfl|rfl|rfl<;>decide
 rcases hG with rfl|rfl<;>rcases ha with rfl|rfl|rfl<;>rcases hb with rfl|rfl|rfl|rfl<;>decide
theorem A9c {g:Ao}(h:Xr g):Fa g:=by
 obtain ⟨h1,h2,hn⟩:=h
 have:Fa ⟨g.nodes,1,1⟩:=A94 hn
 exact ⟨this.1,by omega,by omega,this.2.2.2⟩
def B5o (p:D5) (w:Int):Bool:=
 if p.kind==1 then p.a==w else if p.kind==2 then p.a==w else if p.kind==3 then p.a==w else if p.kind==7 then p.a==w
 else if p.kind==4 then (if p.a==w then true else p.b==w) else if p.kind==5 then (if p.a==w then true else p.b==w) else false
def B6c (xs:List D5) (w:Int):List D5:=xs.filter fun p=>!B5o p w
theorem A7s (c:A6)(j w:Int)(v:Ac):Af (Bc c j v) w=if w.toNat=j.toNat∧j.toNat<c.workers.length then v else Af c w:=by
 unfold Af Bc
 dsimp only
 by_cases h:w.toNat=j.toNat∧j.toNat<c.workers.length
 ·rw [if_pos h,h.1,Sx.getD_set_self _ _ _ _ h.2]
 rw [if_neg h]
 by_cases e:w.toNat=j.toNat
 ·have hl:c.workers.length≤j.toNat:=by omega
  rw [List.set_eq_of_length_le hl]
 rw [Sx.getD_set_ne _ _ _ _ _ e]
theorem A30 {c:A6}{j w:Int}(h:w.toNat=j.toNat):Af c w=Af c j:=by unfold Af;rw [h]
structure UI (n w e:Int) (c:A6):Prop where
 len:(c.workers.length:Int)=n
 done:G0 (Af c 0) e=false
 tok:(Ag c e).going=true→w≤(Ag c e).at_
 rest:(Ag c e).going=false→(Ag c e).at_=0
 news:∀x∈c.news,x.epoch≠e
theorem UI.lnk {n w e:Int}{c:A6}{k:Int}{l:B8}(h:UI n w e c):UI n w e (Cb c k l):=⟨h.1,h.2,h.3,h.4,h.5⟩
theorem UI.set {n w e:Int}{c:A6}{j:Int}{v:Ac}(h:UI n w e c)(hd:G0 v e=G0 (Af c j) e):UI n w e (Bc c j v):=by
 refine ⟨by rw [←h.len];simp only [Bc,List.length_set],?_,h.3,h.4,h.5⟩
 rw [A7s]
 split
 ·rename_i q
  rw [hd,←A30 q.1]
  exact h.done
 exact h.done
theorem Rt {v:Ac}{d:Fi}{e:Int}(h:d.epoch≠e):G0 (Gr v d) e=G0 v e:=by
 unfold G0 Gr
 dsimp only
 rw [List.any_append]
 have:(d.epoch==e)=false:=beq_eq_false_iff_ne.2 h
 simp only [List.any_cons,List.any_nil,this,Bool.or_false]
theorem Vr {c:A6}{e a:Int}{t:Di}(he:0≤e)(ha:0≤a)(h:a≠e):Ag (D7 c a t) e=Ag c e:=by
 unfold Ag D7
 exact Sx.getD_set_ne _ _ _ _ _ Ab
theorem Md {c:A6}{e:Int}{t:Di}(hl:e.toNat<c.tokens.length):Ag (D7 c e t) e=t:=by
 unfold Ag D7
 exact Sx.getD_set_self _ _ _ _ hl
theorem UI.other {n w e a:Int}{c:A6}{t:Di}(h:UI n w e c)(he:0≤e)(ha:0≤a)(hne:a≠e):UI n w e (D7 c a t):=by
 refine ⟨h.1,h.2,?_,?_,h.5⟩
 ·rw [Vr he ha hne];exact h.3
 rw [Vr he ha hne];exact h.4
theorem UI.step {n w e:Int}{c:A6}{p:D5}{l:List A9}(hw:0≤w∧w<n)(he:0≤e)(hi:(Af c w).inputs=l)(ho:l.any (fun r=>decide (r.stamp.epoch≤e))=true)(h:UI n w e c):UI n w e (As c p).1:=by
 by_cases hc:B4 c
 case neg=>rw [Nu hc];exact h
 unfold As
 split
 ·unfold E5
  split
  ·exact h.set (by unfold Fc;split<;>rfl)
  exact h
 split
 ·unfold Dn
  split
  ·exact h.set (by unfold Dd;split<;>rfl)
  exact h
 split
 ·unfold Ce
  split
  ·split
   ·exact h.set rfl
   split
   ·exact h.lnk.set (by unfold Hc;split<;>rfl)
   exact h
  exact h
 split
 ·unfold D9
  split
  ·exact h.lnk.set (by unfold Ea;split<;>rfl)
  exact h
 split
 ·unfold Dl
  split
  ·exact h.lnk
  exact h
 split
 ·unfold Cq
  dsimp only
  split
  ·rename_i hT
   have hA:=(hc.2.2.2.1 _ (B9 (d:=default) (show p.a.toNat<c.tokens.length by have:=hc.1.2.2.2;have:=hT.2.1;omega))).1.1
   have hA:0≤(Ag c p.a).at_:=hA
   have hN:∀t v:A6,True:=fun _ _=>trivial
   by_cases hee:p.a=e
   ·rw [hee] at hT hA ⊢
    have hlt:e.toNat<c.tokens.length:=by have:=hc.1.2.2.2;have:=hT.2.1;omega
    have hat:(Ag c e).at_≠w:=by
     intro q
     have hp:=hT.2.2.2
     rw [q] at hp
     unfold Jr A21 at hp
     rw [hi,ho] at hp
     simp at hp
    split
    ·rename_i hg
     refine UI.set ⟨h.1,h.2,?_,?_,h.5⟩ rfl
     ·rw [Md hlt]
      intro _
      show w≤(c.workers.length:Int)-1
      rw [h.len]
      omega
     rw [Md hlt]
     intro q
     cases q
    split
    ·rename_i hg ha
     have hg:(Ag c e).going=true:=by simpa using hg
     have:=h.tok hg
     split
     ·refine UI.set ⟨h.1,h.2,?_,?_,h.5⟩ rfl
      ·rw [Md hlt]
       intro _
       show w≤(Ag c e).at_-1
       omega
      rw [Md hlt]
      intro q
      rw [show (Ag c e).going=false from q] at hg
      cases hg
     exact h
    rename_i hg ha
    have hg:(Ag c e).going=true:=by simpa using hg
    have:=h.tok hg
    omega
   split
   ·exact (h.other he hT.2.1.1 hee).set rfl
   split
   ·split
    ·exact (h.other he hT.2.1.1 hee).set rfl
    exact h
   rename_i hg ha
   unfold Ip
   have h0:(Ag c p.a).at_=0:=by omega
   split
   ·have hs:=(h.other (t:=⟨false,(Ag c p.a).at_,(Ag c p.a).sum,(Ag c p.a).black,(Ag c p.a).capped⟩) he hT.2.1.1 hee).set (j:=0) (v:=Gr (Af c (Ag c p.a).at_) ⟨p.a,(Ag c p.a).capped||(Af c (Ag c p.a).at_).caps.getD p.a.toNat default⟩) (by
     rw [Rt hee,h0]
     rfl)
    refine ⟨hs.1,hs.2,hs.3,hs.4,fun x hx=>?_⟩
    rcases List.mem_append.1 hx with hx|hx
    ·exact h.news x hx
    simp only [Mo,List.mem_map] at hx
    obtain ⟨i,_,rfl⟩:=hx
    exact hee
   exact h.other he hT.2.1.1 hee
  exact h
 split
 ·unfold Dw
  split
  ·rename_i hT
   have hm:=R8 hc hT.2
   have hh:UI n w e (Kq c p.a):=⟨h.1,h.2,h.3,h.4,fun x hx=>h.news x (List.mem_of_mem_eraseIdx hx)⟩
   split
   ·exact hh
   exact hh.set (by rw [Rt (h.news _ hm.1)];rfl)
  exact h
 exact h
theorem Yo {g:Ao}{ins:List A9}(hg:Xr g)(hi:B1s ins):Vz g ins:=by
 refine ⟨A9c hg,by have:=hi.1;omega,fun r hr=>?_⟩
 obtain ⟨h1,h2,h3,h4,h5⟩:=hi.2 r hr
 exact ⟨⟨by omega,h3,by omega,by omega,by omega⟩,h1,h2⟩
theorem A3l (x:A6)(w:Int)(h:x.w≤16000000):Cr Tryz.prog (fun _=>True) 183 [] (rc x) [.one (vi w)] (fun _:Unit=>True) (fun _=>rc x) (fun _=>[.one (vb (decide (Gp x w)))]):=by
 have hwl:=A6.workers_le h
 refine Df A0 false Tryz.func183 rfl Aw fun B b hH hp=>?_
 conv=>whnf
 refine ⟨fun h1=>?_,fun h1=>?_⟩<;>conv=>whnf
 ·have h1:B4 x:=of_decide_eq_true (show B3 x=true from h1)
  repeat refine B7 ?_
  (repeat refine Am ?_)
  refine Az (Ep w 0 (x.workers.length-1)) rfl (A8 ?_)
  repeat refine B7 ?_
  rw [show Eb w 0 (x.workers.length-1)=decide (Gp x w) by rw [Bool.eq_iff_iff,Go.Sx.Au,decide_eq_true_eq];exact ⟨fun p=>⟨h1,by omega,by omega⟩,fun p=>⟨p.2.1,by have:=p.2.2;omega⟩⟩]
  exact Bm A0 () trivial rfl rfl rfl rfl At
 repeat refine B7 ?_
 rw [show decide (Gp x w)=false from decide_eq_false fun p=>absurd p.1 (of_decide_eq_false (show B3 x=false from h1))]
 exact Bm A0 () trivial rfl rfl rfl rfl At
set_option maxHeartbeats 4000000 in
theorem A5h (x:A6)(ok:Bool)(w e n:Int)(h0:0≤w)(hk:w.toNat<x.workers.length)(he:0≤e)(hke:e.toNat<(Af x w).sums.length)(hs:Hv ((Af x w).sums.getD e.toNat default))(hn: -1≤n∧n≤1):
  Cr Tryz.prog (fun _=>True) 185 [] (Rc x ok) [.one (vi w),.one (vi e),.one (vi n)] (fun _:Unit=>True) (fun _=>Rc (Bc x w (F4 (Af x w) e n)) (ok&&Eb ((Af x w).sums.getD e.toNat default+n) (-1000000) 1000000)) (fun _=>[]):=by
 obtain ⟨s1,s2⟩:=hs
 have hke2:e.toNat<(x.workers.getD w.toNat default).sums.length:=hke
 have hg:(x.workers.getD w.toNat default).sums.getD e.toNat default=(Af x w).sums.getD e.toNat default:=rfl
 refine Df A0 false Tryz.func185 rfl Aw fun B b hH hp=>?_
 conv=>whnf
 first|(refine B5 0 rfl [0,1,2,3,4,5,6,7,8,9,10,11,12,13,14,15,16,17,18,19,20,21,22,23,24,25] A7 (A8 ?_))
 (repeat refine Am ?_)
 refine I1 A0 rfl rfl rfl rfl rfl rfl (jn:=w.toNat) rfl rfl rfl (fun v=>go A0 false ?_)
 conv=>whnf
 (repeat refine Am ?_)
 refine A9u A0 rfl rfl rfl rfl rfl rfl (jn:=w.toNat) rfl (Gd _ _ _) rfl (A8 ?_)
 refine Jw 26 6 rfl rfl (A8 ?_)
 (repeat refine Am ?_)
 refine Al (j:=e) A0 rfl rfl rfl rfl rfl rfl rfl rfl (Ap ((x.workers.getD w.toNat default).sums.set e.toNat ((x.workers.getD w.toNat default).sums.getD e.toNat default+n))) (C0 hke2 rfl) (A8 ?_)
 cases ok
 ·repeat refine B7 ?_
  refine Mq 2 (w.toNat) [(4,6)] (Ar (x.workers.set w.toNat (F4 (Af x w) e n))) hk rfl rfl Hi rfl (Iz hk rfl) (Jf ?_)
  conv=>whnf
  exact B4f (Bm A0 () trivial rfl rfl rfl rfl At)
 repeat refine B7 ?_
 (repeat refine Am ?_)
 refine A9u A0 rfl rfl rfl rfl rfl rfl (jn:=w.toNat) rfl (Gd _ _ _) rfl (A8 ?_)
 repeat refine B7 ?_
 refine Jw 47 6 rfl rfl (A8 ?_)
 repeat refine B7 ?_
 refine ⟨by (rw [List.length_set];show _∧_;omega),?_⟩
 conv=>whnf
 repeat refine B7 ?_
 refine Az (Ep (((x.workers.getD w.toNat default).sums.set e.toNat ((x.workers.getD w.toNat default).sums.getD e.toNat default+n)).getD e.toNat default) (-1000000) 1000000) rfl (A8 ?_)
 repeat refine B7 ?_
 rw [Sx.getD_set_self _ _ _ _ hke2]
 refine Mq 2 (w.toNat) [(4,6)] (Ar (x.workers.set w.toNat (F4 (Af x w) e n))) hk rfl rfl Hi rfl (Iz hk rfl) (Jf ?_)
 conv=>whnf
 exact B4f (Bm A0 () trivial rfl rfl rfl rfl At)
theorem S9 {x:A6}{w:Int}(hk:w.toNat<x.workers.length):Bc x w (Af x w)=x:=by
 have e:x.workers.set w.toNat (x.workers.getD w.toNat default)=x.workers:=by
  apply List.ext_getElem
  ·simp
  intro i h1 h2
  rw [List.getElem_set]
  split
  ·rename_i h;subst h;simp [List.getD,hk]
  rfl
 unfold Bc Af
 rw [e]
theorem Oa {c:A6}{w:Int}(h:Gp c w)(hk:w.toNat<c.workers.length)(h2:¬ O3 c.graph (Af c w)):E5 c w=(c,false):=by
 rw [Qc h,B3s h2,S9 hk]
theorem O9 {c:A6}{w:Int}(h:Gp c w)(h2:O3 c.graph (Af c w)):E5 c w=(Bc c w (I7 c.graph (Af c w)),true):=by
 rw [Qc h,B1n h2]
theorem Jz {c:A6}{w:Int}(h:Gp c w)(hk:w.toNat<c.workers.length)(h2:¬ Kw c.graph (Af c w)):Dn c w=(c,false):=by
 rw [O8 h,A9h h2,S9 hk]
theorem Ur {c:A6}{w:Int}(h:Gp c w)(h2:Kw c.graph (Af c w)):Dn c w=(Bc c w (Iw (Af c w)),true):=by
 rw [O8 h,A6m h2]
set_option maxHeartbeats 8000000 in
theorem B08 (x:A6)(w:Int)(h:x.w≤16000000):Cr Tryz.prog (fun _=>True) 159 [] (rc x) [.one (vi w)] (fun _:Unit=>True) (fun _=>Rc (E5 x w).1 (B3 x)) (fun _=>[.one (vb (E5 x w).2)]):=by
 refine Df A0 false Tryz.func159 rfl Aw fun B b hH hp=>?_
 conv=>whnf
 refine Ai (A3l x w h) hH hp rfl At rfl rfl (fun r hr=>go A0 false ?_)
 conv=>whnf
 refine ⟨fun h1=>?_,fun h1=>?_⟩<;>conv=>whnf
 ·have h1:¬ Gp x w:=of_decide_eq_false (by simpa using h1)
  repeat refine B7 ?_
  rw [A08 h1]
  exact Bm A0 () trivial rfl rfl rfl rfl At
 have h1:Gp x w:=of_decide_eq_true (show decide (Gp x w)=true by simpa using h1)
 have hC:=h1.1
 have hb:=h1.2
 have hk:w.toNat<x.workers.length:=by omega
 have hw:=A6.worker_le h hk
 have hg:=A4o h
 have hWP:=hC.2.1 _ (B9 (d:=default) hk)
 have hww:(Af x w).w≤16000000:=by show (x.workers.getD w.toNat default).w≤_;omega
 have hlw:=T1 (x.workers.getD w.toNat default)
 repeat refine B7 ?_
 (repeat refine Am ?_)
 refine Up A0 rfl rfl rfl rfl rfl (jn:=w.toNat) rfl (r:=Ac.c ((x.workers).getD (w.toNat) default)) rfl hk rfl rfl (fun u=>go A0 false ?_)
 conv=>whnf
 refine ⟨fun h3=>?_,fun h3=>?_⟩<;>conv=>whnf
 ·have h3:¬ (Af x w).staged.length=0:=by have:=of_decide_eq_true h3;simp only [Af];omega
  repeat refine B7 ?_
  rw [Oa h1 hk (fun p=>h3 p.2.2.1)]
  refine Gi Tryz.prog 7 (w.toNat) [(0,11),(1,12),(2,13),(3,14),(4,15),(5,16),(6,17),(7,18)] (Ar x.workers) hk rfl rfl Hi rfl (D0 rfl) ?_
  exact Bm A0 () trivial rfl rfl rfl rfl At
 have h3:(Af x w).staged.length=0:=by have:=of_decide_eq_false h3;simp only [Af];omega
 repeat refine B7 ?_
 refine ⟨fun h4=>have h4:=eq_of_beq h4;?_,fun h4=>have h4:=beq_eq_false_iff_ne.1 h4;?_⟩<;>conv=>whnf
 ·repeat refine B7 ?_
  rw [Oa h1 hk (fun p=>by have:=p.2.2.2;simp only [Af] at this;omega)]
  refine Gi Tryz.prog 7 (w.toNat) [(0,11),(1,12),(2,13),(3,14),(4,15),(5,16),(6,17),(7,18)] (Ar x.workers) hk rfl rfl Hi rfl (D0 rfl) ?_
  exact Bm A0 () trivial rfl rfl rfl rfl At
 have h4:0<(x.workers.getD w.toNat default).queue.length:=by omega
 have hP:O3 x.graph (Af x w):=⟨hC.1.1,hWP,h3,h4⟩
 have hR:=hWP.1.1 _ (B9 (d:=default) h4)
 have hE:=hR.1.2.1
 have hcl:(x.workers.getD w.toNat default).caps.length=4:=hWP.2.1.2.2
 have hc:((x.workers.getD w.toNat default).queue.getD 0 default).stamp.epoch.toNat<(x.workers.getD w.toNat default).caps.length:=by omega
 repeat refine B7 ?_
 (repeat refine Am ?_)
 first|(refine B5 7 rfl [0,1,2,3,4,5,6,7,8,9,10,11,12,13,14,15] A7 (A8 ?_))|(refine B5 11 rfl [0,1,2,3,4,5,6] A7 (A8 ?_))|(refine B5 13 rfl [0,1,2,3,4,5,6,7,8] A7 (A8 ?_))
 refine Cx (Vg x.graph (x.workers.getD w.toNat default).cells ((x.workers.getD w.toNat default).queue.getD 0 default) Ab Ab) rfl (A8 ?_)
 refine A1v A0 rfl rfl rfl rfl rfl rfl rfl rfl (l:=1) rfl rfl (⟨by omega,by omega,by omega⟩) (Aa ((x.workers.getD w.toNat default).queue.drop 1)) (Fw (k:=1) h4) (A8 ?_)
 refine Av A0 rfl rfl rfl rfl rfl rfl rfl rfl rfl rfl rfl (Aa ((x.workers.getD w.toNat default).queue.drop 1)) (Cc) (fun _=>Cd _) (by (rw [List.length_drop];omega)) (A8 ?_)
 first|(refine B5 7 rfl [0,1,2,3,4,5,6,7,8,9,10,11,12,13,14,15] A7 (A8 ?_))|(refine B5 11 rfl [0,1,2,3,4,5,6] A7 (A8 ?_))|(refine B5 13 rfl [0,1,2,3,4,5,6,7,8] A7 (A8 ?_))
 refine Az (V9 x.graph ((x.workers.getD w.toNat default).queue.getD 0 default) Ab) rfl (A8 ?_)
 refine ⟨fun h5=>?_,fun h5=>?_⟩<;>conv=>whnf
 ·have h5:capped x.graph ((Af x w).queue.getD 0 default)=true:=h5
  refine ⟨by (show 0≤((x.workers.getD w.toNat default).queue.getD 0 default).stamp.epoch∧((x.workers.getD w.toNat default).queue.getD 0 default).stamp.epoch<(x.workers.getD w.toNat default).caps.length;omega),?_⟩
  conv=>whnf
  refine Al (j:=((x.workers.getD w.toNat default).queue.getD 0 default).stamp.epoch) A0 rfl rfl rfl rfl rfl rfl rfl rfl (Eg ((x.workers.getD w.toNat default).caps.set ((x.workers.getD w.toNat default).queue.getD 0 default).stamp.epoch.toNat true)) (C0 hc rfl) (A8 ?_)
  first|(refine B5 7 rfl [0,1,2,3,4,5,6,7,8,9,10,11,12,13,14,15] A7 (A8 ?_))|(refine B5 11 rfl [0,1,2,3,4,5,6] A7 (A8 ?_))|(refine B5 13 rfl [0,1,2,3,4,5,6,7,8] A7 (A8 ?_))
  (repeat refine Am ?_)
  refine Al (j:=w) A0 rfl rfl rfl rfl rfl rfl rfl rfl (Ar (x.workers.set w.toNat (I7 x.graph (Af x w)))) (Fg hk (by rw [I7,if_pos h5];rfl)) (A8 ?_)
  rw [O9 h1 hP]
  exact Bm A0 () trivial rfl rfl rfl rfl At
 have h5:capped x.graph ((Af x w).queue.getD 0 default)=false:=h5
 first|(refine B5 7 rfl [0,1,2,3,4,5,6,7,8,9,10,11,12,13,14,15] A7 (A8 ?_))|(refine B5 11 rfl [0,1,2,3,4,5,6] A7 (A8 ?_))|(refine B5 13 rfl [0,1,2,3,4,5,6,7,8] A7 (A8 ?_))
 (repeat refine Am ?_)
 refine Al (j:=w) A0 rfl rfl rfl rfl rfl rfl rfl rfl (Ar (x.workers.set w.toNat (I7 x.graph (Af x w)))) (Fg hk (by rw [I7,if_neg (by rw [h5];decide)];rfl)) (A8 ?_)
 rw [O9 h1 hP]
 exact Bm A0 () trivial rfl rfl rfl rfl At
set_option maxHeartbeats 8000000 in
theorem A7e (x:A6)(w:Int)(h:x.w≤16000000):Cr Tryz.prog (fun _=>True) 160 [] (rc x) [.one (vi w)] (fun _:Unit=>True) (fun _=>Rc (Dn x w).1 (B3 x)) (fun _=>[.one (vb (Dn x w).2)]):=by
 refine Df A0 false Tryz.func160 rfl Aw fun B b hH hp=>?_
 conv=>whnf
 refine Ai (A3l x w h) hH hp rfl At rfl rfl (fun r hr=>go A0 false ?_)
 conv=>whnf
 refine ⟨fun h1=>?_,fun h1=>?_⟩<;>conv=>whnf
 ·have h1:¬ Gp x w:=of_decide_eq_false (by simpa using h1)
  repeat refine B7 ?_
  rw [Yu h1]
  exact Bm A0 () trivial rfl rfl rfl rfl At
 have h1:Gp x w:=of_decide_eq_true (show decide (Gp x w)=true by simpa using h1)
 have hC:=h1.1
 have hb:=h1.2
 have hk:w.toNat<x.workers.length:=by omega
 have hw:=A6.worker_le h hk
 have hg:=A4o h
 have hWP:=hC.2.1 _ (B9 (d:=default) hk)
 have hww:(Af x w).w≤16000000:=by show (x.workers.getD w.toNat default).w≤_;omega
 have hlw:=T1 (x.workers.getD w.toNat default)
 repeat refine B7 ?_
 (repeat refine Am ?_)
 refine Up A0 rfl rfl rfl rfl rfl (jn:=w.toNat) rfl (r:=Ac.c ((x.workers).getD (w.toNat) default)) rfl hk rfl rfl (fun u=>go A0 false ?_)
 conv=>whnf
 refine ⟨fun h3=>?_,fun h3=>?_⟩<;>conv=>whnf
 ·have h3:¬ (Af x w).staged.length=0:=by have:=of_decide_eq_true h3;simp only [Af];omega
  repeat refine B7 ?_
  rw [Jz h1 hk (fun p=>h3 p.2.2.1)]
  refine Gi Tryz.prog 7 (w.toNat) [(0,11),(1,12),(2,13),(3,14),(4,15),(5,16),(6,17),(7,18)] (Ar x.workers) hk rfl rfl Hi rfl (D0 rfl) ?_
  exact Bm A0 () trivial rfl rfl rfl rfl At
 have h3:(Af x w).staged.length=0:=by have:=of_decide_eq_false h3;simp only [Af];omega
 repeat refine B7 ?_
 refine ⟨fun h4=>?_,fun h4=>?_⟩<;>conv=>whnf
 ·have h4:¬ (Af x w).queue.length=0:=by have:=of_decide_eq_true h4;simp only [Af];omega
  repeat refine B7 ?_
  rw [Jz h1 hk (fun p=>h4 p.2.2.2.1)]
  refine Gi Tryz.prog 7 (w.toNat) [(0,11),(1,12),(2,13),(3,14),(4,15),(5,16),(6,17),(7,18)] (Ar x.workers) hk rfl rfl Hi rfl (D0 rfl) ?_
  exact Bm A0 () trivial rfl rfl rfl rfl At
 have h4:(Af x w).queue.length=0:=by have:=of_decide_eq_false h4;simp only [Af];omega
 repeat refine B7 ?_
 refine ⟨fun h5=>have h5:=eq_of_beq h5;?_,fun h5=>have h5:=beq_eq_false_iff_ne.1 h5;?_⟩<;>conv=>whnf
 ·repeat refine B7 ?_
  rw [Jz h1 hk (fun p=>by have:=p.2.2.2.2;simp only [Af] at this;omega)]
  refine Gi Tryz.prog 7 (w.toNat) [(0,11),(1,12),(2,13),(3,14),(4,15),(5,16),(6,17),(7,18)] (Ar x.workers) hk rfl rfl Hi rfl (D0 rfl) ?_
  exact Bm A0 () trivial rfl rfl rfl rfl At
 have h5:0<(x.workers.getD w.toNat default).inputs.length:=by omega
 have hP:Kw x.graph (Af x w):=⟨hC.1.1,hWP,h3,h4,h5⟩
 have hq0:(Af x w).queue=[]:=List.eq_nil_of_length_eq_zero h4
 repeat refine B7 ?_
 (repeat refine Am ?_)
 refine Dv 20 (Aa [(x.workers.getD w.toNat default).inputs.getD 0 default]) rfl (Ba rfl Cf) ?_
 refine A1v A0 rfl rfl rfl rfl rfl rfl rfl rfl (l:=1) rfl rfl (⟨by omega,by omega,by omega⟩) (Aa ((x.workers.getD w.toNat default).inputs.drop 1)) (Fw (k:=1) h5) (A8 ?_)
 refine Av A0 rfl rfl rfl rfl rfl rfl rfl rfl rfl rfl rfl (Aa ((x.workers.getD w.toNat default).inputs.drop 1)) (Cc) (fun _=>Cd _) (by (rw [List.length_drop];omega)) (A8 ?_)
 first|(refine B5 8 rfl [0,1,2,3,4,5,6,7,8] A7 (A8 ?_))
 (repeat refine Am ?_)
 refine Al (j:=w) A0 rfl rfl rfl rfl rfl rfl rfl rfl (Ar (x.workers.set w.toNat (Iw (Af x w)))) (Fg hk (by rw [Iw,hq0];rfl)) (A8 ?_)
 rw [Ur h1 hP]
 exact Bm A0 () trivial rfl rfl rfl rfl At
end Go.Proofs.YtdendlkeiaccpaaGreat
