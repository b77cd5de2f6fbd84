/- Part 26 of the proof that each of the laws FnOneWorker returns true for every input. No conditions. -/
import Derived.Test.YtonodkjaoalfjaaGreatP25

set_option linter.unusedSimpArgs false
set_option linter.unusedVariables false
set_option maxRecDepth 100000
namespace Go.Proofs.YtonodkjaoalfjaaGreat
open Go.Sx
theorem Mo {g:Ad}{a b:Int}{ins:List A5}(hF:GrF g a b)(hI:Me ins):∀(l:List Bl) {k:Nat} (s:A3×List Bool),Et k s.1→k+l.length≤200000→H9 g a b ins s.1→
  H9 g a b ins (l.foldl Cl s).1∧pot (D3 a b ins) (l.foldl Cl s).1≤pot (D3 a b ins) s.1
 | [],_,_,_,_,hD=>⟨hD,Nat.le_refl _⟩
 |p::l,k,s,hR,hk,hD=>by
  simp only [List.length_cons] at hk
  obtain ⟨d1,d2,_⟩:=X1 (p:=p) hF hI hR.ok hD
  obtain ⟨i1,i2⟩:=Mo hF hI l (k:=k+1) (Cl s p) (hR.step Ac) Ac d1
  refine ⟨i1,Nat.le_trans i2 d2⟩
theorem B7y {g:Ad}{a b:Int}{ins:List A5}(hF:GrF g a b)(hI:Me ins):∀(l:List Bl) {k:Nat} (s:A3×List Bool),(∀p∈l,p.kind=1∨p.kind=2∨p.kind=3∨p.kind=7)→Et k s.1→k+l.length≤200000→H9 g a b ins s.1→
  pot (D3 a b ins) (l.foldl Cl s).1+1≤pot (D3 a b ins) s.1∨(Gt s.1 (l.foldl Cl s).1∧∀p∈l,p.kind≠7→∃c',Gt s.1 c'∧Et (k+l.length) c'∧(Ag c' p).2=false)
 | [],_,s,_,_,_,_=> .inr ⟨Gt.refl s.1,fun p hp=>by cases hp⟩
 |p::l,k,s,hk7,hR,hk,hD=>by
  simp only [List.length_cons] at hk ⊢
  obtain ⟨d1,d2,d3⟩:=X1 (p:=p) hF hI hR.ok hD
  have hR':=hR.step (p:=p) Ac
  have hmono:=(Mo hF hI l (k:=k+1) (Cl s p) hR' Ac d1).2
  simp only [List.foldl_cons]
  have e1:(Cl s p).1=(Ag s.1 p).1:=rfl
  rw [e1] at hmono
  have tail:Gt s.1 (Ag s.1 p).1→(p.kind≠7→(Ag s.1 p).2=false)→pot (D3 a b ins) (Ag s.1 p).1=pot (D3 a b ins) s.1→
   (pot (D3 a b ins) (l.foldl Cl (Cl s p)).1+1≤pot (D3 a b ins) s.1∨(Gt s.1 (l.foldl Cl (Cl s p)).1∧∀q∈p::l,q.kind≠7→∃c',Gt s.1 c'∧Et (k+(l.length+1)) c'∧(Ag c' q).2=false)):=fun hS hp he=>by
   rcases B7y hF hI l (k:=k+1) (Cl s p) (fun q hq=>hk7 q (List.mem_cons_of_mem _ hq)) hR' Ac d1 with h|⟨h1,h2⟩
   ·rw [e1,he] at h
    exact Or.inl h
   ·rw [e1] at h1 h2
    refine Or.inr ⟨hS.trans h1,fun q hq hq7=>?_⟩
    rcases List.mem_cons.1 hq with rfl|hq
    ·exact ⟨s.1,Gt.refl _,hR.more Ac,hp hq7⟩
    ·obtain ⟨c',a1,a2,a3⟩:=h2 q hq hq7
     exact ⟨c',hS.trans a1,a2.more Ac,a3⟩
  by_cases h7:p.kind=7
  ·have hS:Gt s.1 (Ag s.1 p).1:=by
    unfold Ag
    rw [if_neg Ac,if_neg Ac,if_neg Ac,if_neg Ac,if_neg Ac,if_neg Ac,if_pos h7]
    exact Ko s.1 p.a
   exact tail hS (fun q=>absurd h7 q) (hS.potS _)
  ·have hk3:p.kind=1∨p.kind=2∨p.kind=3:=by have:=hk7 p (List.mem_cons_self ..);omega
   cases hb:(Ag s.1 p).2 with
   |true=>
    have:=d3 hk3 hb
    exact .inl (Nat.le_trans (Nat.succ_le_succ hmono) this)
   |false=>
    have hid:=T2 hb
    exact tail (by rw [hid];exact Gt.refl _) (fun _=>hb) (by rw [hid])
def Mv (c:A3) (f t:Int):Prop:=0<(An c (Ae c f t)).credits∧(An c (Ae c f t)).queue=[]
def A2n (c:A3):Prop:=∀f t:Int,Jw c f t→Mv c f t
theorem Pu {c:A3}{k k':Int}{l:C2}:An (B6 c k l) k'=if k'.toNat=k.toNat∧k.toNat<c.links.length then l else An c k':=by
 unfold An B6
 simp only
 rw [Dr]
theorem Up (c:A3)(p:Bl):(Ag c p).1.graph=c.graph:=by
 unfold Ag
 split
 ·unfold Cr;split<;>rfl
 split
 ·unfold Cg;split<;>rfl
 split
 ·unfold C6;(repeat' split)<;>rfl
 split
 ·unfold Cd;split<;>rfl
 split
 ·unfold Br;split<;>rfl
 split
 ·exact (Lc c p.a).1
 split
 ·exact (Ko c p.a).1
 ·rfl
theorem P2 {c d:A3}(h:d.graph=c.graph)(f t:Int):Ae d f t=Ae c f t:=by unfold Ae;rw [h]
theorem A54 {c:A3}{f t:Int}{p:Bl}(hk:p.kind=4∨p.kind=5∨p.kind=6∨p.kind=7)(h:Mv c f t):Mv (Ag c p).1 f t:=by
 have hg:=Up c p
 unfold Mv at *
 rw [P2 hg]
 by_cases k4:p.kind=4
 ·have e0:Ag c p=Cd c p.a p.b:=by unfold Ag;rw [if_neg Ac,if_neg Ac,if_neg Ac,if_pos k4]
  rw [e0]
  unfold Cd
  split
  ·rename_i hm
   show 0<(An (B6 c _ _) _).credits∧(An (B6 c _ _) _).queue=[]
   rw [Pu]
   split
   ·rename_i e
    have e1:An c (Ae c p.a p.b)=An c (Ae c f t):=by unfold An;rw [e.1]
    have h2:=hm.2
    rw [e1] at h2 ⊢
    unfold At at h2
    rw [if_neg (by rw [h.2];exact fun q=>Nat.lt_irrefl 0 q.2)] at h2
    cases h2
   ·exact h
  ·exact h
 by_cases k5:p.kind=5
 ·have e0:Ag c p=Br c p.a p.b:=by unfold Ag;rw [if_neg Ac,if_neg Ac,if_neg Ac,if_neg k4,if_pos k5]
  rw [e0]
  unfold Br
  split
  ·show 0<(An (B6 c _ _) _).credits∧(An (B6 c _ _) _).queue=[]
   rw [Pu]
   split
   ·rename_i e
    have e1:An c (Ae c p.a p.b)=An c (Ae c f t):=by unfold An;rw [e.1]
    rw [e1]
    unfold Bn
    split
    ·exact ⟨by show 0<(An c (Ae c f t)).credits+1;omega,h.2⟩
    ·exact h
   ·exact h
  ·exact h
 have hS:Gt c (Ag c p).1:=by
  unfold Ag
  rw [if_neg Ac,if_neg Ac,if_neg Ac,if_neg k4,if_neg k5]
  split
  ·exact Lc c p.a
  split
  ·exact Ko c p.a
  ·exact Gt.refl c
 have:∀k,An (Ag c p).1 k=An c k:=fun k=>by unfold An;rw [hS.2.1]
 rw [this]
 exact h
theorem Vj {f t:Int}:∀(l:List Bl) (s:A3×List Bool),(∀p∈l,p.kind=4∨p.kind=5∨p.kind=6∨p.kind=7)→Mv s.1 f t→Mv (l.foldl Cl s).1 f t
 | [],_,_,h=>h
 |p::l,s,hk,h=>Vj l (Cl s p) (fun q hq=>hk q (List.mem_cons_of_mem _ hq)) (A54 (hk p (List.mem_cons_self ..)) h)
theorem A55 {c:A3}{f t:Int}(hC:Ap c)(h1:c.graph.cap=1)(hL:Jw c f t)(hC':Ap (Ag c ⟨4,f,t⟩).1):Mv (Ag (Ag c ⟨4,f,t⟩).1 ⟨5,f,t⟩).1 f t:=by
 obtain ⟨hkb,_,_⟩:=El hC hL.2.2.1 hL.2.2.2
 have hlk:=L8 hC hkb
 have hcap:(An c (Ae c f t)).cap=1:=by rw [hlk.2.1,h1]
 obtain ⟨n1,n2,n3,n4,n5,n6,n7⟩:=hlk.1.1
 have g1:=Up c ⟨4,f,t⟩
 have g2:=Up (Ag c ⟨4,f,t⟩).1 ⟨5,f,t⟩
 have a1:An (Ag c ⟨4,f,t⟩).1 (Ae c f t)=(At (An c (Ae c f t))).1:=by
  show An (Cd c f t).1 _=_
  unfold Cd
  split
  ·show An (B6 c _ _) _=_
   rw [Pu,if_pos ⟨rfl,by omega⟩]
  ·rename_i hn
   unfold At at hn ⊢
   split
   ·rename_i hp
    exact absurd ⟨hL,by rw [if_pos hp]⟩ hn
   ·rfl
 have hL':Jw (Ag c ⟨4,f,t⟩).1 f t:=⟨hC',hL.2.1,by rw [g1];exact hL.2.2⟩
 have hlen:(Ag c ⟨4,f,t⟩).1.links.length=c.links.length:=by
  have e1:=hC'.1.2.2.1
  have e2:=hC.1.2.2.1
  rw [g1] at e1
  omega
 have a2:An (Ag (Ag c ⟨4,f,t⟩).1 ⟨5,f,t⟩).1 (Ae c f t)=(Bn (At (An c (Ae c f t))).1).1:=by
  show An (Br (Ag c ⟨4,f,t⟩).1 f t).1 _=_
  unfold Br
  rw [if_pos hL']
  show An (B6 _ _ _) _=_
  rw [P2 g1,Pu,if_pos ⟨rfl,by omega⟩,a1]
 unfold Mv
 rw [P2 g2,P2 g1,a2]
 have hlk':Gy (At (An c (Ae c f t))).1:=Ua hlk.1
 by_cases hq:0<(An c (Ae c f t)).queue.length
 ·have et:(At (An c (Ae c f t))).1=⟨(An c (Ae c f t)).cap,(An c (Ae c f t)).queue.drop 1,(An c (Ae c f t)).credits,(An c (Ae c f t)).back+1,(An c (Ae c f t)).sent,(An c (Ae c f t)).got+1⟩:=by
   unfold At
   rw [if_pos ⟨hlk.1,hq⟩]
  rw [et] at hlk' ⊢
  unfold Bn
  rw [if_pos ⟨hlk',by show (An c (Ae c f t)).back+1≠0;omega⟩]
  refine ⟨by show 0<(An c (Ae c f t)).credits+1;omega,?_⟩
  show (An c (Ae c f t)).queue.drop 1=[]
  exact List.drop_eq_nil_of_le Ac
 ·have et:(At (An c (Ae c f t))).1=An c (Ae c f t):=by
   unfold At
   rw [if_neg (fun p=>hq p.2)]
  have hq0:(An c (Ae c f t)).queue=[]:=List.eq_nil_of_length_eq_zero Ac
  rw [et]
  unfold Bn
  by_cases hb:(An c (Ae c f t)).back=0
  ·rw [if_neg (fun p=>p.2 hb)]
   exact ⟨by show 0<(An c (Ae c f t)).credits;omega,hq0⟩
  ·rw [if_pos ⟨hlk.1,hb⟩]
   exact ⟨by show 0<(An c (Ae c f t)).credits+1;omega,hq0⟩
theorem Qx {β:Type}(F:Nat→List β){x:Nat}:∀{n:Nat},x<n→∃l1 l2,(List.range n).flatMap F=l1++F x++l2
 | 0,h=>absurd h (Nat.not_lt_zero _)
 |n+1,h=>by
  rw [Hj]
  by_cases hx:x=n
  ·subst hx
   exact ⟨(List.range x).flatMap F,[],by rw [List.append_nil]⟩
  ·obtain ⟨l1,l2,e⟩:=Qx F (show x<n by omega)
   exact ⟨l1,l2++F n,by rw [e];simp⟩
theorem B4r (n m:Nat):∀p∈pC n m,p.kind=4∨p.kind=5:=fun p hp=>by
 simp only [pC,pB,List.mem_flatMap] at hp
 obtain ⟨w,_,k,_,hp⟩:=hp
 unfold pK at hp
 split at hp
 ·cases hp
 ·simp at hp
  rcases hp with rfl|rfl
  ·exact .inl rfl
  ·exact .inr rfl
theorem B4s (n:Nat):∀p∈pE n,p.kind=6:=fun p hp=>by
 obtain ⟨e,_,rfl⟩:=List.mem_map.1 hp
 rfl
theorem B4p (n:Nat):∀p∈pA n,p.kind=1∨p.kind=2∨p.kind=3∨p.kind=7:=fun p hp=>by
 obtain ⟨w,_,hp⟩:=List.mem_flatMap.1 hp
 simp [pW] at hp
 rcases hp with rfl|rfl|rfl|rfl<;>simp
theorem Um (l:List Bl):∀s:A3×List Bool,(l.foldl Cl s).1.graph=s.1.graph:=by
 induction l with
 |nil=>intro s;rfl
 |cons p r ih=>intro s;exact (ih (Cl s p)).trans (Up s.1 p)
theorem T1 (c:A3):∀n,(frN c n).graph=c.graph
 | 0=>rfl
 |n+1=>(Um _ (frN c n,[])).trans (T1 c n)
theorem A4x {k:Nat}{c:A3}(hR:Et k c)(hk:k+44≤200000)(h1:c.graph.cap=1):A2n (Ba c).1:=by
 intro f t hL
 have hg:(Ba c).1.graph=c.graph:=Um _ (c,[])
 have hn:=Tc hR.ok
 have hnw:=hR.ok.1.2.1
 have hf:=hL.2.2.1
 have ht:=hL.2.2.2
 rw [hg] at hf ht
 have hal:=H0 c
 obtain ⟨l1,l2,e1⟩:=Qx (fun w=>pB w (Co c)) (show f.toNat<Co c by omega)
 obtain ⟨m1,m2,e2⟩:=Qx (pK f.toNat) (show t.toNat<Co c by omega)
 have eK:pK f.toNat t.toNat=[⟨4,f,t⟩,⟨5,f,t⟩]:=by
  unfold pK
  rw [if_neg (by have:=hL.2.1;omega),show ((f.toNat:Nat):Int)=f by omega,show ((t.toNat:Nat):Int)=t by omega]
 have hC:pC (Co c) (Co c)=(l1++m1)++[⟨4,f,t⟩,⟨5,f,t⟩]++(m2++l2):=by
  show (List.range (Co c)).flatMap (fun w=>pB w (Co c))=_
  rw [e1]
  show l1++(List.range (Co c)).flatMap (pK f.toNat)++l2=_
  rw [e2,eK]
  simp only [List.append_assoc]
 have hkinds:=B4r (Co c) (Co c)
 have hall:Gz (Co c)=(pA (Co c)++(l1++m1))++([⟨4,f,t⟩,⟨5,f,t⟩]++((m2++l2)++pE 4)):=by
  unfold Gz
  rw [hC]
  simp only [List.append_assoc]
 have hlen:(Gz (Co c)).length=(pA (Co c)++(l1++m1)).length+(2+((m2++l2)++pE 4).length):=by
  rw [hall]
  simp only [List.length_append,List.length_cons,List.length_nil]
 show Mv ((Gz (Co c)).foldl Cl (c,[])).1 f t
 rw [hall,List.foldl_append]
 generalize hs:(pA (Co c)++(l1++m1)).foldl Cl (c,[])=s
 have hRs:Et (k+(pA (Co c)++(l1++m1)).length) s.1:=by rw [←hs];exact Et.picks _ (c,[]) hR Ac
 have hgs:s.1.graph=c.graph:=by rw [←hs];exact Um _ (c,[])
 rw [List.foldl_append]
 refine Vj _ _ (fun p hp=>?_) ?_
 ·rcases List.mem_append.1 hp with hp|hp
  ·have:=hkinds p (by rw [hC];exact List.mem_append_right _ hp)
   omega
  ·have:=B4s 4 p hp
   omega
 ·have hR4:=hRs.step (p:=⟨4,f,t⟩) Ac
  exact A55 hRs.ok (by rw [hgs];exact h1) ⟨hRs.ok,hL.2.1,by rw [hgs];exact ⟨hf,ht⟩⟩ hR4.ok
def Uv (c:A3):Prop:=∀i,i<c.workers.length→(wk c i).queue=[]∧(wk c i).staged=[]∧(wk c i).inputs=[]
theorem B1a {g:Ad}{a b:Int}{ins:List A5}{k:Nat}{c:A3}(hF:GrF g a b)(hI:Me ins)(hR:Et k c)(hk:k+44≤200000)(hD:H9 g a b ins c)(hcl:A2n c):
  H9 g a b ins (Ba c).1∧(pot (D3 a b ins) (Ba c).1+1≤pot (D3 a b ins) c∨Uv c):=by
 have hal:=H0 c
 have hn:=Tc hR.ok
 have hsum:(Gz (Co c)).length=(pA (Co c)).length+(pC (Co c) (Co c)++pE 4).length:=by
  unfold Gz
  simp only [List.length_append]
  omega
 have hRA:Et (k+(pA (Co c)).length) ((pA (Co c)).foldl Cl (c,[])).1:=Et.picks _ (c,[]) hR Ac
 obtain ⟨hDA,_⟩:=Mo hF hI (pA (Co c)) (k:=k) (c,[]) hR Ac hD
 have hE:(Ba c).1=((pC (Co c) (Co c)++pE 4).foldl Cl ((pA (Co c)).foldl Cl (c,[]))).1:=by
  show ((Gz (Co c)).foldl Cl (c,[])).1=_
  rw [←List.foldl_append]
  unfold Gz
  rw [List.append_assoc]
 obtain ⟨hDE,hpE⟩:=Mo hF hI (pC (Co c) (Co c)++pE 4) (k:=k+(pA (Co c)).length) ((pA (Co c)).foldl Cl (c,[])) hRA Ac hDA
 rw [←hE] at hDE hpE
 refine ⟨hDE,?_⟩
 rcases B7y hF hI (pA (Co c)) (k:=k) (c,[]) (B4p _) hR Ac hD with h|⟨_,h⟩
 ·exact .inl (Nat.le_trans (Nat.succ_le_succ hpE) h)
 ·refine .inr fun i hi=>?_
  have hm:∀p∈pW i,p∈pA (Co c):=fun p hp=>List.mem_flatMap.2 ⟨i,List.mem_range.2 Ac,hp⟩
  have key:∀p∈pW i,p.kind≠7→∃c',Gt c c'∧Et (k+(pA (Co c)).length) c'∧(Ag c' p).2=false:=fun p hp h7=>h p (hm p hp) h7
  have hst:(wk c i).staged=[]:=by
   obtain ⟨c',s1,r1,f1⟩:=key ⟨3,i,0⟩ (by simp [pW]) (show (3:Int)≠7 by decide)
   have hlen':=s1.2.2.1
   have hw:=s1.2.2.2 i
   by_cases he:(wk c i).staged.length=0
   ·exact List.eq_nil_of_length_eq_zero he
   ·have f1:(C6 c' i).2=false:=f1
    have hW:Hh c' i∧0<(A6 c' i).staged.length:=⟨⟨r1.ok,by omega,by omega⟩,by
     show 0<(wk c' i).staged.length
     rw [hw.2.1]
     omega⟩
    unfold C6 at f1
    rw [if_pos hW] at f1
    split at f1
    ·cases f1
    ·rename_i hne
     have hb:(0:Int)≤i∧(i:Int)<c'.graph.workers:=by have:=r1.ok.1.2.1;omega
     have hmb:=Km hW.1 hW.2
     have hHL:Jw c i (B8 c' i):=⟨hR.ok,fun e=>hne e.symm,by rw [←s1.1];exact ⟨hb,hmb⟩⟩
     have hcl':=hcl _ _ hHL
     have hkb:=(El r1.ok hb hmb).1
     have hla:An c' (Ae c' i (B8 c' i))=An c (Ae c i (B8 c' i)):=by
      rw [P2 s1.1]
      unfold An
      rw [s1.2.1]
     have hS:(Dn (An c' (Ae c' i (B8 c' i))) (B7 c' i)).2=true:=by
      unfold Dn
      rw [if_pos]
      refine ⟨(L8 r1.ok hkb).1,(L5 hW.1 hW.2).1,?_,?_⟩
      ·rw [hla]
       have:=hcl'.1
       omega
      ·have:=Nn (j:=Ae c' i (B8 c' i)) r1.sent
       omega
     rw [if_pos hS] at f1
     cases f1
  have hqu:(wk c i).queue=[]:=by
   obtain ⟨c',s1,r1,f1⟩:=key ⟨1,i,0⟩ (by simp [pW]) (show (1:Int)≠7 by decide)
   have hlen':=s1.2.2.1
   have hw:=s1.2.2.2 i
   by_cases he:(wk c i).queue.length=0
   ·exact List.eq_nil_of_length_eq_zero he
   ·have f1:(Cr c' i).2=false:=f1
    have hW:Hh c' i:=⟨r1.ok,by omega,by omega⟩
    have hP:V5 c'.graph (A6 c' i):=⟨r1.ok.1.1,Kb r1.ok hW.2,by
     show (wk c' i).staged.length=0
     rw [hw.2.1,hst]
     rfl,by
     show 0<(wk c' i).queue.length
     rw [hw.1]
     omega⟩
    unfold Cr Fk at f1
    rw [if_pos hW,if_pos hP] at f1
    cases f1
  have hin:(wk c i).inputs=[]:=by
   obtain ⟨c',s1,r1,f1⟩:=key ⟨2,i,0⟩ (by simp [pW]) (show (2:Int)≠7 by decide)
   have hlen':=s1.2.2.1
   have hw:=s1.2.2.2 i
   by_cases he:(wk c i).inputs.length=0
   ·exact List.eq_nil_of_length_eq_zero he
   ·have f1:(Cg c' i).2=false:=f1
    have hW:Hh c' i:=⟨r1.ok,by omega,by omega⟩
    have hP:Sl c'.graph (A6 c' i):=⟨r1.ok.1.1,Kb r1.ok hW.2,by
     show (wk c' i).staged.length=0
     rw [hw.2.1,hst]
     rfl,by
     show (wk c' i).queue.length=0
     rw [hw.1,hqu]
     rfl,by
     show 0<(wk c' i).inputs.length
     rw [hw.2.2.1]
     omega⟩
    unfold Cg Dg at f1
    rw [if_pos hW,if_pos hP] at f1
    cases f1
  exact ⟨hqu,hst,hin⟩
theorem B0o {c:A3}(hC:Ap c){j:Nat}(hj:j<c.links.length):∃f t:Int,(0≤f∧f<c.graph.workers)∧(0≤t∧t<c.graph.workers)∧Ae c f t=j∧((j:Int).tdiv c.graph.workers=f∧(j:Int).tmod c.graph.workers=t):=by
 have hl:=hC.1.2.2.1
 have hn:=hC.1.1.2.1
 refine ⟨(j:Int).tdiv c.graph.workers,(j:Int).tmod c.graph.workers,?_,?_,?_,rfl,rfl⟩
 ·refine ⟨Int.tdiv_nonneg Ac Ac,?_⟩
  rw [Int.tdiv_eq_ediv_of_nonneg Ac]
  exact Int.ediv_lt_of_lt_mul Ac Ac
 ·exact ⟨Int.tmod_nonneg _ Ac,Int.tmod_lt_of_pos _ Ac⟩
 ·unfold Ae
  exact Int.tdiv_mul_add_tmod _ _
theorem A23 {c:A3}(hC:Ap c)(h:A2n c):∀j,j<c.links.length→(c.links.getD j default).queue=[]:=fun j hj=>by
 obtain ⟨f,t,hf,ht,hno,hd,hm⟩:=B0o hC hj
 by_cases hft:f=t
 ·refine List.eq_nil_of_length_eq_zero ((hC.2.2.1 j hj).2.2.2 ?_)
  rw [hd,hm]
  exact hft
 ·have:=(h f t ⟨hC,hft,hf,ht⟩).2
  unfold An at this
  rw [hno] at this
  exact this
theorem A6a {c:A3}(hC:Ap c)(h:Uv c)(hl:∀j,j<c.links.length→(c.links.getD j default).queue=[])(e:Int):Ql c e:=by
 refine ⟨fun i hi=>?_,?_⟩
 ·obtain ⟨h1,h2,h3⟩:=h i hi
  refine Dw.2 ⟨fun r hr=>?_,fun r hr=>?_,fun r hr=>?_⟩
  ·rw [h3] at hr;cases hr
  ·rw [h1] at hr;cases hr
  ·rw [h2] at hr;cases hr
 ·unfold Ev
  refine Q3 _ fun x hx=>?_
  obtain ⟨y,hy,rfl⟩:=List.mem_map.1 hx
  obtain ⟨j,hj,rfl⟩:=T9 hy
  rw [hl j hj]
  rfl
theorem Wv {c:A3}(hC:Ap c)(h:∀e:Int,0≤e→e≤3→Ql c e):Uv c∧∀j,j<c.links.length→(c.links.getD j default).queue=[]:=by
 refine ⟨fun i hi=>?_,fun j hj=>?_⟩
 ·have hw:=hC.2.1 (wk c i) (Aq hi)
  obtain ⟨⟨o1,o2,o3,_⟩,_⟩:=hw
  have nil:∀l:List A5,(∀r∈l,False)→l=[]:=fun l hl=>by
   cases l with
   |nil=>rfl
   |cons x l=>exact (hl x (List.mem_cons_self ..)).elim
  refine ⟨nil _ fun r hr=>?_,nil _ fun r hr=>?_,nil _ fun r hr=>?_⟩
  ·have:=(o1 r hr).1.2.1
   exact (Dw.1 ((h r.stamp.epoch this.1 this.2).1 i hi)).2.1 r hr rfl
  ·have:=(o2 r hr).1.2.1
   exact (Dw.1 ((h r.stamp.epoch this.1 this.2).1 i hi)).2.2 r hr rfl
  ·have:=(o3 r hr).1.2.1
   have:=(Dw.1 ((h 3 Bu Bu).1 i hi)).1 r hr
   omega
 ·have hLA:=hC.2.2.1 j hj
  have hq:=hLA.2.2.1
  cases hl:(c.links.getD j default).queue with
  |nil=>rfl
  |cons r l=>
   have hr:r∈(c.links.getD j default).queue:=by rw [hl];exact List.mem_cons_self ..
   have he:=(hq r hr).1.2.1
   have hf:=(h r.stamp.epoch he.1 he.2).2
   unfold Ev at hf
   have:=A1d (List.mem_map_of_mem (f:=fun l:C2=>(Bs l.queue r.stamp.epoch).length) (Aq (d:=default) hj))
   have hz:(Bs (c.links.getD j default).queue r.stamp.epoch).length=0:=by
    have h2:(Bs (c.links.getD j default).queue r.stamp.epoch).length≤0:=by rw [←hf];exact this
    omega
   have hm:r∈Bs (c.links.getD j default).queue r.stamp.epoch:=Ik.2 ⟨hr,rfl⟩
   have:=List.length_pos_of_mem hm
   omega
def Oe (c:A3):Prop:=∀x∈c.news,1≤x.to_
theorem A60 {c:A3}{p:Bl}(h:Oe c):Oe (Ag c p).1:=by
 unfold Ag
 split
 ·unfold Cr;split<;>exact h
 split
 ·unfold Cg;split<;>exact h
 split
 ·unfold C6;(repeat' split)<;>exact h
 split
 ·unfold Cd;split<;>exact h
 split
 ·unfold Br;split<;>exact h
 split
 ·unfold Bo
  dsimp only
  split
  ·split
   ·exact h
   split
   ·split<;>exact h
   ·unfold Gn
    split
    ·intro x hx
     rcases List.mem_append.1 hx with hx|hx
     ·exact h x hx
     ·obtain ⟨i,_,rfl⟩:=List.mem_map.1 hx
      show (1:Int)≤(i:Int)+1
      omega
    ·exact h
  ·exact h
 split
 ·unfold D4
  split
  ·have hh:Oe (Ih c p.a):=fun x hx=>h x (List.mem_of_mem_eraseIdx hx)
   split<;>exact hh
  ·exact h
 ·exact h
theorem R4:∀(l:List Bl) (s:A3×List Bool),Oe s.1→Oe (l.foldl Cl s).1
 | [],_,h=>h
 |p::l,s,h=>R4 l (Cl s p) (A60 h)
theorem Ze {c:A3}(h:Oe c):∀n,Oe (frN c n)
 | 0=>h
 |n+1=>R4 _ (frN c n,[]) (Ze h n)
theorem B9c {w:Ab}(h:∀e:Int,0≤e→e≤3→B1 w e=true):4≤w.dones.length:=by
 have h0:=h 0 Bu Bu
 have h1:=h 1 Bu Bu
 have h2:=h 2 Bu Bu
 have h3:=h 3 Bu Bu
 unfold B1 at *
 rcases hd:w.dones with _|⟨a,_|⟨b,_|⟨c,_|⟨d,l⟩⟩⟩⟩<;>rw [hd] at h0 h1 h2 h3<;>simp only [List.any_cons,List.any_nil,Bool.or_false,Bool.or_eq_true,beq_iff_eq,Bool.false_eq_true] at h0 h1 h2 h3
 ·omega
 ·omega
 ·omega
 ·simp only [List.length_cons];omega
structure Lj (c:A3):Prop where
 ov:∀e:Int,0≤e→e≤3→Ql c e
 dn:∀e:Int,0≤e→e≤3→∀i,i<c.workers.length→B1 (wk c i) e=true
 bk:∀f t:Int,Jw c f t→(An c (Ae c f t)).back=0
theorem A0i {k:Nat}{c:A3}(hR:Et k c)(hT:Oe c)(h:Lj c)(p:Bl):(Ag c p).2=false:=by
 obtain ⟨hE,hL⟩:=Wv hR.ok h.ov
 have hw:∀w:Int,Hh c w→(A6 c w).queue=[]∧(A6 c w).staged=[]∧(A6 c w).inputs=[]:=fun w hW=>hE w.toNat (by have:=hW.2;omega)
 unfold Ag
 split
 ·unfold Cr
  split
  ·rename_i hW
   unfold Fk
   rw [if_neg (fun q=>by have:=q.2.2.2;rw [(hw _ hW).1] at this;exact Nat.lt_irrefl 0 this)]
  ·rfl
 split
 ·unfold Cg
  split
  ·rename_i hW
   unfold Dg
   rw [if_neg (fun q=>by have:=q.2.2.2.2;rw [(hw _ hW).2.2] at this;exact Nat.lt_irrefl 0 this)]
  ·rfl
 split
 ·unfold C6
  rw [if_neg (fun q=>by have:=q.2;rw [(hw _ q.1).2.1] at this;exact Nat.lt_irrefl 0 this)]
 split
 ·unfold Cd
  rw [if_neg]
  rintro ⟨hHL,ht⟩
  have hkb:=(El hR.ok hHL.2.2.1 hHL.2.2.2).1
  have:=hL (Ae c p.a p.b).toNat Ac
  unfold At An at ht
  rw [if_neg (fun q=>by have:=q.2;rw [hL _ Ac] at this;exact Nat.lt_irrefl 0 this)] at ht
  cases ht
 split
 ·unfold Br
  split
  ·rename_i hHL
   unfold Bn
   rw [if_neg (fun q=>q.2 (h.bk _ _ hHL))]
  ·rfl
 split
 ·rw [Tj]
  rintro ⟨_,he,hd,_⟩
  have:=h.dn p.a he.1 he.2 0 (Ki hR.ok)
  have hd:B1 (wk c 0) p.a=false:=hd
  rw [this] at hd
  cases hd
 split
 ·unfold D4
  rw [if_neg]
  rintro ⟨_,hn⟩
  obtain ⟨m1,m2⟩:=Jk hR.ok hn
  have hN:=hR.ok.2.2.2.2 _ m1
  have h1:=hT _ m1
  have hlen:=hR.ok.1.2.1
  have hi:p.a.toNat<c.workers.length:=by have:=hN.1;omega
  have hc:=hR.news.cnt p.a.toNat Ac hi
  have h4:=B9c (w:=wk c p.a.toNat) fun e h0 h3=>h.dn e h0 h3 _ hi
  have h04:=Qt hR.ok
  have hpos:0<Hc p.a.toNat c.news:=by
   unfold Hc
   exact List.length_pos_of_mem (List.mem_filter.2 ⟨m1,by rw [m2];simp only [beq_iff_eq];omega⟩)
  omega
 ·rfl
theorem Zq {c:A3}(h:∀p,(Ag c p).2=false):∀(l:List Bl) (s:A3×List Bool),s.1=c→(l.foldl Cl s).1=c∧((l.foldl Cl s).2.filter id).length=(s.2.filter id).length
 | [],_,hs=>⟨hs,rfl⟩
 |p::l,s,hs=>by
  have h1:(Cl s p).1=c:=by
   show (Ag s.1 p).1=c
   rw [hs]
   exact T2 (h p)
  obtain ⟨a1,a2⟩:=Zq h l (Cl s p) h1
  refine ⟨a1,?_⟩
  simp only [List.foldl_cons]
  rw [a2]
  show ((s.2++[(Ag s.1 p).2]).filter id).length=_
  rw [hs,h p]
  simp
theorem T0 {c:A3}{j:Nat}(h:(Ba (frN c j)).2=0):∀n,frN c (j+n)=frN c j
 | 0=>rfl
 |n+1=>by
  show (Ba (frN c (j+n))).1=_
  rw [T0 h n]
  exact (A7v h).1
theorem Yu {k:Nat}{c:A3}{e:Int}(hR:Et k c)(hd:B1 (wk c 0) e=true):∀n,k+44 * n≤200000→B1 (wk (frN c n) 0) e=true
 | 0,_=>hd
 |n+1,hb=>by
  have i1:=Yu hR hd n Ac
  have hRm:=hR.frN n Ac
  have:=H0 (frN c n)
  have m2:∀(l:List Bl) {k:Nat} (s:A3×List Bool),Et k s.1→k+l.length≤200000→B1 (wk s.1 0) e=true→B1 (wk (l.foldl Cl s).1 0) e=true:=by
   intro l
   induction l with
   |nil=>intro _ _ _ _ h;exact h
   |cons p l ih=>
    intro k s hR hk hd
    simp only [List.length_cons] at hk
    exact ih (k:=k+1) (Cl s p) (hR.step Ac) Ac ((B7x hR.ok hR.news).mono 0 e hd)
  exact m2 (Gz (Co (frN c n))) (frN c n,[]) hRm Ac i1
theorem B4n {k:Nat}{c:A3}{x y:Nat}(hx:x=14)(hy:y=4)(hR:Et k c)(hk:k+44 * 18≤200000)(hov:∀e:Int,Ql c e):(∀e:Int,0≤e→e≤3→Ql (frN (frN c x) y) e)∧
  ∀e:Int,0≤e→e≤3→∀i,i<(frN (frN c x) y).workers.length→B1 (wk (frN (frN c x) y) i) e=true:=by
 have hRx:=hR.frN x Ac
 have hlx:=Uh hR x Ac
 have hly:=Uh hRx y Ac
 refine ⟨fun e h0 h3=>(Ly hRx ⟨h0,h3⟩ (Ly hR ⟨h0,h3⟩ (hov e) x Ac).1 y Ac).1,fun e h0 h3 i hi=>?_⟩
 obtain ⟨a1,a2⟩:=Ly hR ⟨h0,h3⟩ (hov e) x Ac
 have hr0:Fh (frN c x) e=0:=by rw [if_pos Ac] at a2;omega
 have hd0:=B06 hr0
 by_cases hi0:i=0
 ·subst hi0
  exact Yu hRx hd0 y Ac
 ·obtain ⟨b1,b2⟩:=Ub (e:=e) (w:=i) hRx hd0 ⟨by omega,by omega⟩ y Ac
  have hz2:Gh (frN (frN c x) y) e i=0:=by rw [if_pos Ac] at b2;omega
  exact A6k (hRx.frN y Ac).news b1 ⟨by omega,by omega⟩ hz2
theorem Ss {k:Nat}{c:A3}(hR:Et k c)(hk:k≤1000)(h1:c.graph.cap=1∨c.graph.workers=1)(n:Nat)(hn:n≤3000):A2n (frN c (n+1)):=by
 have hRn:=hR.frN n Ac
 rcases h1 with h1|h1
 ·exact A4x hRn Ac (by rw [T1];exact h1)
 ·intro f t hL
  have hf:=hL.2.2.1
  have ht:=hL.2.2.2
  have hne:=hL.2.1
  rw [T1,h1] at hf ht
  omega
theorem A79 {g:Ad}{a b:Int}{ins:List A5}{k:Nat}{c:A3}(hF:GrF g a b)(hI:Me ins)(hR:Et k c)(hk:k≤1000)(hD:H9 g a b ins c)(n:Nat)(hn:n≤3000):H9 g a b ins (frN c n)∧pot (D3 a b ins) (frN c n)≤pot (D3 a b ins) c:=by
 induction n with
 |zero=>exact ⟨hD,Nat.le_refl _⟩
 |succ n ih=>
  obtain ⟨i1,i2⟩:=ih Ac
  have hRn:=hR.frN n Ac
  have:=H0 (frN c n)
  obtain ⟨j1,j2⟩:=Mo hF hI (Gz (Co (frN c n))) (frN c n,[]) hRn Ac i1
  exact ⟨j1,Nat.le_trans j2 i2⟩
theorem A4n {g:Ad}{a b:Int}{ins:List A5}{k:Nat}{c:A3}(hF:GrF g a b)(hI:Me ins)(hR:Et k c)(hk:k≤1000)(hD:H9 g a b ins c)(hp:pot (D3 a b ins) c≤2800)(h1:c.graph.cap=1∨c.graph.workers=1):
  ∃n,n≤2801∧Uv (frN c (n+1)):=by
 have key:∀m,m≤2802→(∃n,n≤2801∧Uv (frN c (n+1)))∨pot (D3 a b ins) (frN c (m+1))+m≤2800:=by
  intro m
  induction m with
  |zero=>
   intro _
   have q:pot (D3 a b ins) (frN c (0+1))≤pot (D3 a b ins) c:=(A79 hF hI hR hk hD 1 Ac).2
   exact .inr Ac
  |succ m ih=>
   intro hm
   rcases ih Ac with h|h
   ·exact .inl h
   ·have hRn:=hR.frN (m+1) Ac
    rcases (B1a hF hI hRn Ac (A79 hF hI hR hk hD (m+1) Ac).1 (Ss hR hk h1 m Ac)).2 with q|q
    ·have q:pot (D3 a b ins) (frN c (m+1+1))+1≤pot (D3 a b ins) (frN c (m+1)):=q
     exact .inr Ac
    ·exact .inl ⟨m,by omega,q⟩
 rcases key 2802 (Nat.le_refl _) with h|h
 ·exact h
 ·omega
theorem B30 {p:Nat→Prop}{n:Nat}(h:p n):∃j,j≤n∧p j∧∀i,i<j→¬ p i:=by
 induction n using Nat.strongRecOn with
 |_ n ih=>
  by_cases q:∃i,i<n∧p i
  ·obtain ⟨i,hi,hz⟩:=q
   obtain ⟨j,h1,h2,h3⟩:=ih i hi hz
   exact ⟨j,by omega,h2,h3⟩
  ·exact ⟨n,Nat.le_refl _,h,fun i hi hz=>q ⟨i,hi,hz⟩⟩
theorem B0a (N:Nat)(hN:2900≤N){g:Ad}{a b:Int}{ins:List A5}{k:Nat}{c:A3}(hF:GrF g a b)(hI:Me ins)(hR:Et k c)(hk:k≤1000)(hD:H9 g a b ins c)(hT:Oe c)(hp:pot (D3 a b ins) c≤2800)(h1:c.graph.cap=1∨c.graph.workers=1):
  (Di N c).2<2900∧(∃k',Et k' (Di N c).1)∧Lj (Di N c).1∧(Di N c).1.graph=c.graph:=by
 obtain ⟨n,hn,hE⟩:=A4n hF hI hR hk hD hp h1
 have hRn:=hR.frN (n+1) Ac
 have hov:∀e:Int,Ql (frN c (n+1)) e:=fun e=>A6a hRn.ok hE (A23 hRn.ok (Ss hR hk h1 n Ac)) e
 obtain ⟨x,hx⟩:∃x:Nat,x=14:=⟨14,rfl⟩
 obtain ⟨y,hy⟩:∃y:Nat,y=4:=⟨4,rfl⟩
 obtain ⟨hovz,hdn⟩:=B4n hx hy hRn Ac hov
 have hz:frN c (n+1+x+y)=frN (frN (frN c (n+1)) x) y:=by rw [A0z,A0z]
 rw [←hz] at hovz hdn
 generalize hm:n+1+x+y=m at *
 have hRz:=hR.frN m Ac
 have hcz:A2n (frN c m):=by
  have:=Ss hR hk h1 (m-1) Ac
  rw [show m-1+1=m by omega] at this
  exact this
 have hbk:∀f t:Int,Jw (frN c m) f t→(An (frN c m) (Ae (frN c m) f t)).back=0:=fun f t hL=>by
  have hc:=hcz f t hL
  have hkb:=(El hRz.ok hL.2.2.1 hL.2.2.2).1
  have hla:=L8 hRz.ok hkb
  obtain ⟨n1,n2,n3,n4,n5,n6,n7⟩:=hla.1.1
  have hcap:=hla.2.1
  have hc1:=hc.1
  rw [T1] at hcap
  rcases h1 with h1|h1
  ·omega
  ·have hf:=hL.2.2.1
   have ht:=hL.2.2.2
   have hne:=hL.2.1
   rw [T1,h1] at hf ht
   omega
 have hAO:Lj (frN c m):=⟨hovz,hdn,hbk⟩
 have hzero:(Ba (frN c m)).2=0:=(Zq (A0i hRz (Ze hT _) hAO) _ (frN c m,[]) rfl).2
 obtain ⟨j,hj,hjz,hjb⟩:=B30 (p:=fun j=>(Ba (frN c j)).2=0) hzero
 have hfr:Di N c=(frN c (j+1),j+1):=N7 Ac hjb hjz
 have hsame:frN c (j+1)=frN c m:=by
  rw [T0 hjz 1]
  have:=T0 hjz (m-j)
  rw [show j+(m-j)=m by omega] at this
  exact this.symm
 rw [hfr]
 refine ⟨by show j+1<2900;omega,⟨k+44 * m,?_⟩,?_,T1 c (j+1)⟩
 ·show Et _ (frN c (j+1))
  rw [hsame]
  exact hRz
 ·show Lj (frN c (j+1))
  rw [hsame]
  exact hAO
end Go.Proofs.YtonodkjaoalfjaaGreat
