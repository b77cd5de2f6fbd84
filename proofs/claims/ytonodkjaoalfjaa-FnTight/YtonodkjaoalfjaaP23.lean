/- Part 23 of the proof that each of the laws FnTight returns true for every input. No conditions. -/
import Derived.Test.YtonodkjaoalfjaaP22

set_option linter.unusedSimpArgs false
set_option linter.unusedVariables false
set_option maxRecDepth 100000
namespace Go.Proofs.Ytonodkjaoalfjaa
open Go.Sx
theorem A83 {g:An}{a b:Int}{ins:List Ac}(hF:GrF g a b)(hI:A4h ins):∀(l:List Bl) {k:Nat} (s:A3×List Bool),A60 k s.1→k+l.length≤200000→A8k g a b ins s.1→
  A8k g a b ins (l.foldl F2 s).1∧pot (A4d a b ins) (l.foldl F2 s).1≤pot (A4d a b ins) s.1
 | [],_,_,_,_,hD=>⟨hD,Nat.le_refl _⟩
 |p::l,k,s,hR,hk,hD=>by
  simp only [List.length_cons] at hk
  obtain ⟨d1,d2,_⟩:=B2r (p:=p) hF hI hR.ok hD
  obtain ⟨i1,i2⟩:=A83 hF hI l (k:=k+1) (F2 s p) (hR.step Ag) Ag d1
  refine ⟨i1,Nat.le_trans i2 d2⟩
theorem B5e {g:An}{a b:Int}{ins:List Ac}(hF:GrF g a b)(hI:A4h ins):∀(l:List Bl) {k:Nat} (s:A3×List Bool),(∀p∈l,p.kind=1∨p.kind=2∨p.kind=3∨p.kind=7)→A60 k s.1→k+l.length≤200000→A8k g a b ins s.1→
  pot (A4d a b ins) (l.foldl F2 s).1+1≤pot (A4d a b ins) s.1∨(A79 s.1 (l.foldl F2 s).1∧∀p∈l,p.kind≠7→∃c',A79 s.1 c'∧A60 (k+l.length) c'∧(Ao c' p).2=false)
 | [],_,s,_,_,_,_=> .inr ⟨A79.refl s.1,fun p hp=>by cases hp⟩
 |p::l,k,s,hk7,hR,hk,hD=>by
  simp only [List.length_cons] at hk ⊢
  obtain ⟨d1,d2,d3⟩:=B2r (p:=p) hF hI hR.ok hD
  have hR':=hR.step (p:=p) Ag
  have hmono:=(A83 hF hI l (k:=k+1) (F2 s p) hR' Ag d1).2
  simp only [List.foldl_cons]
  have e1:(F2 s p).1=(Ao s.1 p).1:=rfl
  rw [e1] at hmono
  have tail:A79 s.1 (Ao s.1 p).1→(p.kind≠7→(Ao s.1 p).2=false)→pot (A4d a b ins) (Ao s.1 p).1=pot (A4d a b ins) s.1→
   (pot (A4d a b ins) (l.foldl F2 (F2 s p)).1+1≤pot (A4d a b ins) s.1∨(A79 s.1 (l.foldl F2 (F2 s p)).1∧∀q∈p::l,q.kind≠7→∃c',A79 s.1 c'∧A60 (k+(l.length+1)) c'∧(Ao c' q).2=false)):=fun hS hp he=>by
   rcases B5e hF hI l (k:=k+1) (F2 s p) (fun q hq=>hk7 q (List.mem_cons_of_mem _ hq)) hR' Ag d1 with h|⟨h1,h2⟩
   ·rw [e1,he] at h
    exact Or.inl h
   ·rw [e1] at h1 h2
    refine Or.inr ⟨hS.trans h1,fun q hq hq7=>?_⟩
    rcases List.mem_cons.1 hq with rfl|hq
    ·exact ⟨s.1,A79.refl _,hR.more Ag,hp hq7⟩
    ·obtain ⟨c',a1,a2,a3⟩:=h2 q hq hq7
     exact ⟨c',hS.trans a1,a2.more Ag,a3⟩
  by_cases h7:p.kind=7
  ·have hS:A79 s.1 (Ao s.1 p).1:=by
    unfold Ao
    rw [if_neg Ag,if_neg Ag,if_neg Ag,if_neg Ag,if_neg Ag,if_neg Ag,if_pos h7]
    exact A9n s.1 p.a
   exact tail hS (fun q=>absurd h7 q) (hS.potS _)
  ·have hk3:p.kind=1∨p.kind=2∨p.kind=3:=by have:=hk7 p (List.mem_cons_self ..);omega
   cases hb:(Ao s.1 p).2 with
   |true=>
    have:=d3 hk3 hb
    exact .inl (Nat.le_trans (Nat.succ_le_succ hmono) this)
   |false=>
    have hid:=B0b hb
    exact tail (by rw [hid];exact A79.refl _) (fun _=>hb) (by rw [hid])
def A86 (c:A3) (f t:Int):Prop:=0<(Bc c (Ai c f t)).credits∧(Bc c (Ai c f t)).queue=[]
def B2g (c:A3):Prop:=∀f t:Int,Jb c f t→A86 c f t
theorem A9k {c:A3}{k k':Int}{l:C0}:Bc (Bo c k l) k'=if k'.toNat=k.toNat∧k.toNat<c.links.length then l else Bc c k':=by
 unfold Bc Bo
 simp only
 rw [A63]
theorem B0s (c:A3)(p:Bl):(Ao c p).1.graph=c.graph:=by
 unfold Ao
 split
 ·unfold Df;split<;>rfl
 split
 ·unfold Ct;split<;>rfl
 split
 ·unfold Br;(repeat' split)<;>rfl
 split
 ·unfold Ck;split<;>rfl
 split
 ·unfold Cq;split<;>rfl
 split
 ·exact (A9x c p.a).1
 split
 ·exact (A9n c p.a).1
 ·rfl
theorem A9f {c d:A3}(h:d.graph=c.graph)(f t:Int):Ai d f t=Ai c f t:=by unfold Ai;rw [h]
theorem B23 {c:A3}{f t:Int}{p:Bl}(hk:p.kind=4∨p.kind=5∨p.kind=6∨p.kind=7)(h:A86 c f t):A86 (Ao c p).1 f t:=by
 have hg:=B0s c p
 unfold A86 at *
 rw [A9f hg]
 by_cases k4:p.kind=4
 ·have e0:Ao c p=Ck c p.a p.b:=by unfold Ao;rw [if_neg Ag,if_neg Ag,if_neg Ag,if_pos k4]
  rw [e0]
  unfold Ck
  split
  ·rename_i hm
   show 0<(Bc (Bo c _ _) _).credits∧(Bc (Bo c _ _) _).queue=[]
   rw [A9k]
   split
   ·rename_i e
    have e1:Bc c (Ai c p.a p.b)=Bc c (Ai c f t):=by unfold Bc;rw [e.1]
    have h2:=hm.2
    rw [e1] at h2 ⊢
    unfold Bn at h2
    rw [if_neg (by rw [h.2];exact fun q=>Nat.lt_irrefl 0 q.2)] at h2
    cases h2
   ·exact h
  ·exact h
 by_cases k5:p.kind=5
 ·have e0:Ao c p=Cq c p.a p.b:=by unfold Ao;rw [if_neg Ag,if_neg Ag,if_neg Ag,if_neg k4,if_pos k5]
  rw [e0]
  unfold Cq
  split
  ·show 0<(Bc (Bo c _ _) _).credits∧(Bc (Bo c _ _) _).queue=[]
   rw [A9k]
   split
   ·rename_i e
    have e1:Bc c (Ai c p.a p.b)=Bc c (Ai c f t):=by unfold Bc;rw [e.1]
    rw [e1]
    unfold D4
    split
    ·exact ⟨by show 0<(Bc c (Ai c f t)).credits+1;omega,h.2⟩
    ·exact h
   ·exact h
  ·exact h
 have hS:A79 c (Ao c p).1:=by
  unfold Ao
  rw [if_neg Ag,if_neg Ag,if_neg Ag,if_neg k4,if_neg k5]
  split
  ·exact A9x c p.a
  split
  ·exact A9n c p.a
  ·exact A79.refl c
 have:∀k,Bc (Ao c p).1 k=Bc c k:=fun k=>by unfold Bc;rw [hS.2.1]
 rw [this]
 exact h
theorem B0w {f t:Int}:∀(l:List Bl) (s:A3×List Bool),(∀p∈l,p.kind=4∨p.kind=5∨p.kind=6∨p.kind=7)→A86 s.1 f t→A86 (l.foldl F2 s).1 f t
 | [],_,_,h=>h
 |p::l,s,hk,h=>B0w l (F2 s p) (fun q hq=>hk q (List.mem_cons_of_mem _ hq)) (B23 (hk p (List.mem_cons_self ..)) h)
theorem B24 {c:A3}{f t:Int}(hC:Ar c)(h1:c.graph.cap=1)(hL:Jb c f t)(hC':Ar (Ao c ⟨4,f,t⟩).1):A86 (Ao (Ao c ⟨4,f,t⟩).1 ⟨5,f,t⟩).1 f t:=by
 obtain ⟨hkb,_,_⟩:=I4 hC hL.2.2.1 hL.2.2.2
 have hlk:=N1 hC hkb
 have hcap:(Bc c (Ai c f t)).cap=1:=by rw [hlk.2.1,h1]
 obtain ⟨n1,n2,n3,n4,n5,n6,n7⟩:=hlk.1.1
 have g1:=B0s c ⟨4,f,t⟩
 have g2:=B0s (Ao c ⟨4,f,t⟩).1 ⟨5,f,t⟩
 have a1:Bc (Ao c ⟨4,f,t⟩).1 (Ai c f t)=(Bn (Bc c (Ai c f t))).1:=by
  show Bc (Ck c f t).1 _=_
  unfold Ck
  split
  ·show Bc (Bo c _ _) _=_
   rw [A9k,if_pos ⟨rfl,by omega⟩]
  ·rename_i hn
   unfold Bn at hn ⊢
   split
   ·rename_i hp
    exact absurd ⟨hL,by rw [if_pos hp]⟩ hn
   ·rfl
 have hL':Jb (Ao c ⟨4,f,t⟩).1 f t:=⟨hC',hL.2.1,by rw [g1];exact hL.2.2⟩
 have hlen:(Ao c ⟨4,f,t⟩).1.links.length=c.links.length:=by
  have e1:=hC'.1.2.2.1
  have e2:=hC.1.2.2.1
  rw [g1] at e1
  omega
 have a2:Bc (Ao (Ao c ⟨4,f,t⟩).1 ⟨5,f,t⟩).1 (Ai c f t)=(D4 (Bn (Bc c (Ai c f t))).1).1:=by
  show Bc (Cq (Ao c ⟨4,f,t⟩).1 f t).1 _=_
  unfold Cq
  rw [if_pos hL']
  show Bc (Bo _ _ _) _=_
  rw [A9f g1,A9k,if_pos ⟨rfl,by omega⟩,a1]
 unfold A86
 rw [A9f g2,A9f g1,a2]
 have hlk':Fc (Bn (Bc c (Ai c f t))).1:=W4 hlk.1
 by_cases hq:0<(Bc c (Ai c f t)).queue.length
 ·have et:(Bn (Bc c (Ai c f t))).1=⟨(Bc c (Ai c f t)).cap,(Bc c (Ai c f t)).queue.drop 1,(Bc c (Ai c f t)).credits,(Bc c (Ai c f t)).back+1,(Bc c (Ai c f t)).sent,(Bc c (Ai c f t)).got+1⟩:=by
   unfold Bn
   rw [if_pos ⟨hlk.1,hq⟩]
  rw [et] at hlk' ⊢
  unfold D4
  rw [if_pos ⟨hlk',by show (Bc c (Ai c f t)).back+1≠0;omega⟩]
  refine ⟨by show 0<(Bc c (Ai c f t)).credits+1;omega,?_⟩
  show (Bc c (Ai c f t)).queue.drop 1=[]
  exact List.drop_eq_nil_of_le Ag
 ·have et:(Bn (Bc c (Ai c f t))).1=Bc c (Ai c f t):=by
   unfold Bn
   rw [if_neg (fun p=>hq p.2)]
  have hq0:(Bc c (Ai c f t)).queue=[]:=List.eq_nil_of_length_eq_zero Ag
  rw [et]
  unfold D4
  by_cases hb:(Bc c (Ai c f t)).back=0
  ·rw [if_neg (fun p=>p.2 hb)]
   exact ⟨by show 0<(Bc c (Ai c f t)).credits;omega,hq0⟩
  ·rw [if_pos ⟨hlk.1,hb⟩]
   exact ⟨by show 0<(Bc c (Ai c f t)).credits+1;omega,hq0⟩
theorem A9t {β:Type}(F:Nat→List β){x:Nat}:∀{n:Nat},x<n→∃l1 l2,(List.range n).flatMap F=l1++F x++l2
 | 0,h=>absurd h (Nat.not_lt_zero _)
 |n+1,h=>by
  rw [Hm]
  by_cases hx:x=n
  ·subst hx
   exact ⟨(List.range x).flatMap F,[],by rw [List.append_nil]⟩
  ·obtain ⟨l1,l2,e⟩:=A9t F (show x<n by omega)
   exact ⟨l1,l2++F n,by rw [e];simp⟩
theorem B4s (n m:Nat):∀p∈pC n m,p.kind=4∨p.kind=5:=fun p hp=>by
 simp only [pC,pB,List.mem_flatMap] at hp
 obtain ⟨w,_,k,_,hp⟩:=hp
 unfold pK at hp
 split at hp
 ·cases hp
 ·simp at hp
  rcases hp with rfl|rfl
  ·exact .inl rfl
  ·exact .inr rfl
theorem B4t (n:Nat):∀p∈pE n,p.kind=6:=fun p hp=>by
 obtain ⟨e,_,rfl⟩:=List.mem_map.1 hp
 rfl
theorem B4r (n:Nat):∀p∈pA n,p.kind=1∨p.kind=2∨p.kind=3∨p.kind=7:=fun p hp=>by
 obtain ⟨w,_,hp⟩:=List.mem_flatMap.1 hp
 simp [pW] at hp
 rcases hp with rfl|rfl|rfl|rfl<;>simp
theorem B0r (l:List Bl):∀s:A3×List Bool,(l.foldl F2 s).1.graph=s.1.graph:=by
 induction l with
 |nil=>intro s;rfl
 |cons p r ih=>intro s;exact (ih (F2 s p)).trans (B0s s.1 p)
theorem B0a (c:A3):∀n,(frN c n).graph=c.graph
 | 0=>rfl
 |n+1=>(B0r _ (frN c n,[])).trans (B0a c n)
theorem B2w {k:Nat}{c:A3}(hR:A60 k c)(hk:k+44≤200000)(h1:c.graph.cap=1):B2g (A4a c).1:=by
 intro f t hL
 have hg:(A4a c).1.graph=c.graph:=B0r _ (c,[])
 have hn:=B0g hR.ok
 have hnw:=hR.ok.1.2.1
 have hf:=hL.2.2.1
 have ht:=hL.2.2.2
 rw [hg] at hf ht
 have hal:=Pv c
 obtain ⟨l1,l2,e1⟩:=A9t (fun w=>pB w (Ou c)) (show f.toNat<Ou c by omega)
 obtain ⟨m1,m2,e2⟩:=A9t (pK f.toNat) (show t.toNat<Ou c by omega)
 have eK:pK f.toNat t.toNat=[⟨4,f,t⟩,⟨5,f,t⟩]:=by
  unfold pK
  rw [if_neg (by have:=hL.2.1;omega),show ((f.toNat:Nat):Int)=f by omega,show ((t.toNat:Nat):Int)=t by omega]
 have hC:pC (Ou c) (Ou c)=(l1++m1)++[⟨4,f,t⟩,⟨5,f,t⟩]++(m2++l2):=by
  show (List.range (Ou c)).flatMap (fun w=>pB w (Ou c))=_
  rw [e1]
  show l1++(List.range (Ou c)).flatMap (pK f.toNat)++l2=_
  rw [e2,eK]
  simp only [List.append_assoc]
 have hkinds:=B4s (Ou c) (Ou c)
 have hall:Ru (Ou c)=(pA (Ou c)++(l1++m1))++([⟨4,f,t⟩,⟨5,f,t⟩]++((m2++l2)++pE 4)):=by
  unfold Ru
  rw [hC]
  simp only [List.append_assoc]
 have hlen:(Ru (Ou c)).length=(pA (Ou c)++(l1++m1)).length+(2+((m2++l2)++pE 4).length):=by
  rw [hall]
  simp only [List.length_append,List.length_cons,List.length_nil]
 show A86 ((Ru (Ou c)).foldl F2 (c,[])).1 f t
 rw [hall,List.foldl_append]
 generalize hs:(pA (Ou c)++(l1++m1)).foldl F2 (c,[])=s
 have hRs:A60 (k+(pA (Ou c)++(l1++m1)).length) s.1:=by rw [←hs];exact A60.picks _ (c,[]) hR Ag
 have hgs:s.1.graph=c.graph:=by rw [←hs];exact B0r _ (c,[])
 rw [List.foldl_append]
 refine B0w _ _ (fun p hp=>?_) ?_
 ·rcases List.mem_append.1 hp with hp|hp
  ·have:=hkinds p (by rw [hC];exact List.mem_append_right _ hp)
   omega
  ·have:=B4t 4 p hp
   omega
 ·have hR4:=hRs.step (p:=⟨4,f,t⟩) Ag
  exact B24 hRs.ok (by rw [hgs];exact h1) ⟨hRs.ok,hL.2.1,by rw [hgs];exact ⟨hf,ht⟩⟩ hR4.ok
def B0t (c:A3):Prop:=∀i,i<c.workers.length→(wk c i).queue=[]∧(wk c i).staged=[]∧(wk c i).inputs=[]
theorem B32 {g:An}{a b:Int}{ins:List Ac}{k:Nat}{c:A3}(hF:GrF g a b)(hI:A4h ins)(hR:A60 k c)(hk:k+44≤200000)(hD:A8k g a b ins c)(hcl:B2g c):
  A8k g a b ins (A4a c).1∧(pot (A4d a b ins) (A4a c).1+1≤pot (A4d a b ins) c∨B0t c):=by
 have hal:=Pv c
 have hn:=B0g hR.ok
 have hsum:(Ru (Ou c)).length=(pA (Ou c)).length+(pC (Ou c) (Ou c)++pE 4).length:=by
  unfold Ru
  simp only [List.length_append]
  omega
 have hRA:A60 (k+(pA (Ou c)).length) ((pA (Ou c)).foldl F2 (c,[])).1:=A60.picks _ (c,[]) hR Ag
 obtain ⟨hDA,_⟩:=A83 hF hI (pA (Ou c)) (k:=k) (c,[]) hR Ag hD
 have hE:(A4a c).1=((pC (Ou c) (Ou c)++pE 4).foldl F2 ((pA (Ou c)).foldl F2 (c,[]))).1:=by
  show ((Ru (Ou c)).foldl F2 (c,[])).1=_
  rw [←List.foldl_append]
  unfold Ru
  rw [List.append_assoc]
 obtain ⟨hDE,hpE⟩:=A83 hF hI (pC (Ou c) (Ou c)++pE 4) (k:=k+(pA (Ou c)).length) ((pA (Ou c)).foldl F2 (c,[])) hRA Ag hDA
 rw [←hE] at hDE hpE
 refine ⟨hDE,?_⟩
 rcases B5e hF hI (pA (Ou c)) (k:=k) (c,[]) (B4r _) hR Ag hD with h|⟨_,h⟩
 ·exact .inl (Nat.le_trans (Nat.succ_le_succ hpE) h)
 ·refine .inr fun i hi=>?_
  have hm:∀p∈pW i,p∈pA (Ou c):=fun p hp=>List.mem_flatMap.2 ⟨i,List.mem_range.2 Ag,hp⟩
  have key:∀p∈pW i,p.kind≠7→∃c',A79 c c'∧A60 (k+(pA (Ou c)).length) c'∧(Ao c' p).2=false:=fun p hp h7=>h p (hm p hp) h7
  have hst:(wk c i).staged=[]:=by
   obtain ⟨c',s1,r1,f1⟩:=key ⟨3,i,0⟩ (by simp [pW]) (show (3:Int)≠7 by decide)
   have hlen':=s1.2.2.1
   have hw:=s1.2.2.2 i
   by_cases he:(wk c i).staged.length=0
   ·exact List.eq_nil_of_length_eq_zero he
   ·have f1:(Br c' i).2=false:=f1
    have hW:Fi c' i∧0<(A9 c' i).staged.length:=⟨⟨r1.ok,by omega,by omega⟩,by
     show 0<(wk c' i).staged.length
     rw [hw.2.1]
     omega⟩
    unfold Br at f1
    rw [if_pos hW] at f1
    split at f1
    ·cases f1
    ·rename_i hne
     have hb:(0:Int)≤i∧(i:Int)<c'.graph.workers:=by have:=r1.ok.1.2.1;omega
     have hmb:=Ss hW.1 hW.2
     have hHL:Jb c i (As c' i):=⟨hR.ok,fun e=>hne e.symm,by rw [←s1.1];exact ⟨hb,hmb⟩⟩
     have hcl':=hcl _ _ hHL
     have hkb:=(I4 r1.ok hb hmb).1
     have hla:Bc c' (Ai c' i (As c' i))=Bc c (Ai c i (As c' i)):=by
      rw [A9f s1.1]
      unfold Bc
      rw [s1.2.1]
     have hS:(C6 (Bc c' (Ai c' i (As c' i))) (Au c' i)).2=true:=by
      unfold C6
      rw [if_pos]
      refine ⟨(N1 r1.ok hkb).1,(Q7 hW.1 hW.2).1,?_,?_⟩
      ·rw [hla]
       have:=hcl'.1
       omega
      ·have:=A89 (j:=Ai c' i (As c' i)) r1.sent
       omega
     rw [if_pos hS] at f1
     cases f1
  have hqu:(wk c i).queue=[]:=by
   obtain ⟨c',s1,r1,f1⟩:=key ⟨1,i,0⟩ (by simp [pW]) (show (1:Int)≠7 by decide)
   have hlen':=s1.2.2.1
   have hw:=s1.2.2.2 i
   by_cases he:(wk c i).queue.length=0
   ·exact List.eq_nil_of_length_eq_zero he
   ·have f1:(Df c' i).2=false:=f1
    have hW:Fi c' i:=⟨r1.ok,by omega,by omega⟩
    have hP:Of c'.graph (A9 c' i):=⟨r1.ok.1.1,Oc r1.ok hW.2,by
     show (wk c' i).staged.length=0
     rw [hw.2.1,hst]
     rfl,by
     show 0<(wk c' i).queue.length
     rw [hw.1]
     omega⟩
    unfold Df H4 at f1
    rw [if_pos hW,if_pos hP] at f1
    cases f1
  have hin:(wk c i).inputs=[]:=by
   obtain ⟨c',s1,r1,f1⟩:=key ⟨2,i,0⟩ (by simp [pW]) (show (2:Int)≠7 by decide)
   have hlen':=s1.2.2.1
   have hw:=s1.2.2.2 i
   by_cases he:(wk c i).inputs.length=0
   ·exact List.eq_nil_of_length_eq_zero he
   ·have f1:(Ct c' i).2=false:=f1
    have hW:Fi c' i:=⟨r1.ok,by omega,by omega⟩
    have hP:Kc c'.graph (A9 c' i):=⟨r1.ok.1.1,Oc r1.ok hW.2,by
     show (wk c' i).staged.length=0
     rw [hw.2.1,hst]
     rfl,by
     show (wk c' i).queue.length=0
     rw [hw.1,hqu]
     rfl,by
     show 0<(wk c' i).inputs.length
     rw [hw.2.2.1]
     omega⟩
    unfold Ct Et at f1
    rw [if_pos hW,if_pos hP] at f1
    cases f1
  exact ⟨hqu,hst,hin⟩
theorem B3v {c:A3}(hC:Ar c){j:Nat}(hj:j<c.links.length):∃f t:Int,(0≤f∧f<c.graph.workers)∧(0≤t∧t<c.graph.workers)∧Ai c f t=j∧((j:Int).tdiv c.graph.workers=f∧(j:Int).tmod c.graph.workers=t):=by
 have hl:=hC.1.2.2.1
 have hn:=hC.1.1.2.1
 refine ⟨(j:Int).tdiv c.graph.workers,(j:Int).tmod c.graph.workers,?_,?_,?_,rfl,rfl⟩
 ·refine ⟨Int.tdiv_nonneg Ag Ag,?_⟩
  rw [Int.tdiv_eq_ediv_of_nonneg Ag]
  exact Int.ediv_lt_of_lt_mul Ag Ag
 ·exact ⟨Int.tmod_nonneg _ Ag,Int.tmod_lt_of_pos _ Ag⟩
 ·unfold Ai
  exact Int.tdiv_mul_add_tmod _ _
theorem B2k {c:A3}(hC:Ar c)(h:B2g c):∀j,j<c.links.length→(c.links.getD j default).queue=[]:=fun j hj=>by
 obtain ⟨f,t,hf,ht,hno,hd,hm⟩:=B3v hC hj
 by_cases hft:f=t
 ·refine List.eq_nil_of_length_eq_zero ((hC.2.2.1 j hj).2.2.2 ?_)
  rw [hd,hm]
  exact hft
 ·have:=(h f t ⟨hC,hft,hf,ht⟩).2
  unfold Bc at this
  rw [hno] at this
  exact this
theorem B26 {c:A3}(hC:Ar c)(h:B0t c)(hl:∀j,j<c.links.length→(c.links.getD j default).queue=[])(e:Int):A9p c e:=by
 refine ⟨fun i hi=>?_,?_⟩
 ·obtain ⟨h1,h2,h3⟩:=h i hi
  refine A4e.2 ⟨fun r hr=>?_,fun r hr=>?_,fun r hr=>?_⟩
  ·rw [h3] at hr;cases hr
  ·rw [h1] at hr;cases hr
  ·rw [h2] at hr;cases hr
 ·unfold A6l
  refine A84 _ fun x hx=>?_
  obtain ⟨y,hy,rfl⟩:=List.mem_map.1 hx
  obtain ⟨j,hj,rfl⟩:=B0e hy
  rw [hl j hj]
  rfl
theorem A8q {c:A3}(hC:Ar c)(h:∀e:Int,0≤e→e≤3→A9p c e):B0t c∧∀j,j<c.links.length→(c.links.getD j default).queue=[]:=by
 refine ⟨fun i hi=>?_,fun j hj=>?_⟩
 ·have hw:=hC.2.1 (wk c i) (B9 hi)
  obtain ⟨⟨o1,o2,o3,_⟩,_⟩:=hw
  have nil:∀l:List Ac,(∀r∈l,False)→l=[]:=fun l hl=>by
   cases l with
   |nil=>rfl
   |cons x l=>exact (hl x (List.mem_cons_self ..)).elim
  refine ⟨nil _ fun r hr=>?_,nil _ fun r hr=>?_,nil _ fun r hr=>?_⟩
  ·have:=(o1 r hr).1.2.1
   exact (A4e.1 ((h r.stamp.epoch this.1 this.2).1 i hi)).2.1 r hr rfl
  ·have:=(o2 r hr).1.2.1
   exact (A4e.1 ((h r.stamp.epoch this.1 this.2).1 i hi)).2.2 r hr rfl
  ·have:=(o3 r hr).1.2.1
   have:=(A4e.1 ((h 3 Cb Cb).1 i hi)).1 r hr
   omega
 ·have hLA:=hC.2.2.1 j hj
  have hq:=hLA.2.2.1
  cases hl:(c.links.getD j default).queue with
  |nil=>rfl
  |cons r l=>
   have hr:r∈(c.links.getD j default).queue:=by rw [hl];exact List.mem_cons_self ..
   have he:=(hq r hr).1.2.1
   have hf:=(h r.stamp.epoch he.1 he.2).2
   unfold A6l at hf
   have:=B3n (List.mem_map_of_mem (f:=fun l:C0=>(G7 l.queue r.stamp.epoch).length) (B9 (d:=default) hj))
   have hz:(G7 (c.links.getD j default).queue r.stamp.epoch).length=0:=by
    have h2:(G7 (c.links.getD j default).queue r.stamp.epoch).length≤0:=by rw [←hf];exact this
    omega
   have hm:r∈G7 (c.links.getD j default).queue r.stamp.epoch:=A8x.2 ⟨hr,rfl⟩
   have:=List.length_pos_of_mem hm
   omega
def A9d (c:A3):Prop:=∀x∈c.news,1≤x.to_
theorem B3e {c:A3}{p:Bl}(h:A9d c):A9d (Ao c p).1:=by
 unfold Ao
 split
 ·unfold Df;split<;>exact h
 split
 ·unfold Ct;split<;>exact h
 split
 ·unfold Br;(repeat' split)<;>exact h
 split
 ·unfold Ck;split<;>exact h
 split
 ·unfold Cq;split<;>exact h
 split
 ·unfold C2
  dsimp only
  split
  ·split
   ·exact h
   split
   ·split<;>exact h
   ·unfold H2
    split
    ·intro x hx
     rcases List.mem_append.1 hx with hx|hx
     ·exact h x hx
     ·obtain ⟨i,_,rfl⟩:=List.mem_map.1 hx
      show (1:Int)≤(i:Int)+1
      omega
    ·exact h
  ·exact h
 split
 ·unfold D9
  split
  ·have hh:A9d (Ip c p.a):=fun x hx=>h x (List.mem_of_mem_eraseIdx hx)
   split<;>exact hh
  ·exact h
 ·exact h
theorem A9w:∀(l:List Bl) (s:A3×List Bool),A9d s.1→A9d (l.foldl F2 s).1
 | [],_,h=>h
 |p::l,s,h=>A9w l (F2 s p) (B3e h)
theorem B1o {c:A3}(h:A9d c):∀n,A9d (frN c n)
 | 0=>h
 |n+1=>A9w _ (frN c n,[]) (B1o h n)
theorem B5v {w:Ad}(h:∀e:Int,0≤e→e≤3→En w e=true):4≤w.dones.length:=by
 have h0:=h 0 Cb Cb
 have h1:=h 1 Cb Cb
 have h2:=h 2 Cb Cb
 have h3:=h 3 Cb Cb
 unfold En at *
 rcases hd:w.dones with _|⟨a,_|⟨b,_|⟨c,_|⟨d,l⟩⟩⟩⟩<;>rw [hd] at h0 h1 h2 h3<;>simp only [List.any_cons,List.any_nil,Bool.or_false,Bool.or_eq_true,beq_iff_eq,Bool.false_eq_true] at h0 h1 h2 h3
 ·omega
 ·omega
 ·omega
 ·simp only [List.length_cons];omega
structure A8o (c:A3):Prop where
 ov:∀e:Int,0≤e→e≤3→A9p c e
 dn:∀e:Int,0≤e→e≤3→∀i,i<c.workers.length→En (wk c i) e=true
 bk:∀f t:Int,Jb c f t→(Bc c (Ai c f t)).back=0
theorem B1v {k:Nat}{c:A3}(hR:A60 k c)(hT:A9d c)(h:A8o c)(p:Bl):(Ao c p).2=false:=by
 obtain ⟨hE,hL⟩:=A8q hR.ok h.ov
 have hw:∀w:Int,Fi c w→(A9 c w).queue=[]∧(A9 c w).staged=[]∧(A9 c w).inputs=[]:=fun w hW=>hE w.toNat (by have:=hW.2;omega)
 unfold Ao
 split
 ·unfold Df
  split
  ·rename_i hW
   unfold H4
   rw [if_neg (fun q=>by have:=q.2.2.2;rw [(hw _ hW).1] at this;exact Nat.lt_irrefl 0 this)]
  ·rfl
 split
 ·unfold Ct
  split
  ·rename_i hW
   unfold Et
   rw [if_neg (fun q=>by have:=q.2.2.2.2;rw [(hw _ hW).2.2] at this;exact Nat.lt_irrefl 0 this)]
  ·rfl
 split
 ·unfold Br
  rw [if_neg (fun q=>by have:=q.2;rw [(hw _ q.1).2.1] at this;exact Nat.lt_irrefl 0 this)]
 split
 ·unfold Ck
  rw [if_neg]
  rintro ⟨hHL,ht⟩
  have hkb:=(I4 hR.ok hHL.2.2.1 hHL.2.2.2).1
  have:=hL (Ai c p.a p.b).toNat Ag
  unfold Bn Bc at ht
  rw [if_neg (fun q=>by have:=q.2;rw [hL _ Ag] at this;exact Nat.lt_irrefl 0 this)] at ht
  cases ht
 split
 ·unfold Cq
  split
  ·rename_i hHL
   unfold D4
   rw [if_neg (fun q=>q.2 (h.bk _ _ hHL))]
  ·rfl
 split
 ·rw [Rl]
  rintro ⟨_,he,hd,_⟩
  have:=h.dn p.a he.1 he.2 0 (A8v hR.ok)
  have hd:En (wk c 0) p.a=false:=hd
  rw [this] at hd
  cases hd
 split
 ·unfold D9
  rw [if_neg]
  rintro ⟨_,hn⟩
  obtain ⟨m1,m2⟩:=O0 hR.ok hn
  have hN:=hR.ok.2.2.2.2 _ m1
  have h1:=hT _ m1
  have hlen:=hR.ok.1.2.1
  have hi:p.a.toNat<c.workers.length:=by have:=hN.1;omega
  have hc:=hR.news.cnt p.a.toNat Ag hi
  have h4:=B5v (w:=wk c p.a.toNat) fun e h0 h3=>h.dn e h0 h3 _ hi
  have h04:=A9r hR.ok
  have hpos:0<A8b p.a.toNat c.news:=by
   unfold A8b
   exact List.length_pos_of_mem (List.mem_filter.2 ⟨m1,by rw [m2];simp only [beq_iff_eq];omega⟩)
  omega
 ·rfl
theorem B1q {c:A3}(h:∀p,(Ao c p).2=false):∀(l:List Bl) (s:A3×List Bool),s.1=c→(l.foldl F2 s).1=c∧((l.foldl F2 s).2.filter id).length=(s.2.filter id).length
 | [],_,hs=>⟨hs,rfl⟩
 |p::l,s,hs=>by
  have h1:(F2 s p).1=c:=by
   show (Ao s.1 p).1=c
   rw [hs]
   exact B0b (h p)
  obtain ⟨a1,a2⟩:=B1q h l (F2 s p) h1
  refine ⟨a1,?_⟩
  simp only [List.foldl_cons]
  rw [a2]
  show ((s.2++[(Ao s.1 p).2]).filter id).length=_
  rw [hs,h p]
  simp
theorem A99 {c:A3}{j:Nat}(h:(A4a (frN c j)).2=0):∀n,frN c (j+n)=frN c j
 | 0=>rfl
 |n+1=>by
  show (A4a (frN c (j+n))).1=_
  rw [A99 h n]
  exact (B3k h).1
theorem B1i {k:Nat}{c:A3}{e:Int}(hR:A60 k c)(hd:En (wk c 0) e=true):∀n,k+44 * n≤200000→En (wk (frN c n) 0) e=true
 | 0,_=>hd
 |n+1,hb=>by
  have i1:=B1i hR hd n Ag
  have hRm:=hR.frN n Ag
  have:=Pv (frN c n)
  have m2:∀(l:List Bl) {k:Nat} (s:A3×List Bool),A60 k s.1→k+l.length≤200000→En (wk s.1 0) e=true→En (wk (l.foldl F2 s).1 0) e=true:=by
   intro l
   induction l with
   |nil=>intro _ _ _ _ h;exact h
   |cons p l ih=>
    intro k s hR hk hd
    simp only [List.length_cons] at hk
    exact ih (k:=k+1) (F2 s p) (hR.step Ag) Ag ((B5d hR.ok hR.news).mono 0 e hd)
  exact m2 (Ru (Ou (frN c n))) (frN c n,[]) hRm Ag i1
theorem B4q {k:Nat}{c:A3}{x y:Nat}(hx:x=14)(hy:y=4)(hR:A60 k c)(hk:k+44 * 18≤200000)(hov:∀e:Int,A9p c e):(∀e:Int,0≤e→e≤3→A9p (frN (frN c x) y) e)∧
  ∀e:Int,0≤e→e≤3→∀i,i<(frN (frN c x) y).workers.length→En (wk (frN (frN c x) y) i) e=true:=by
 have hRx:=hR.frN x Ag
 have hlx:=B0o hR x Ag
 have hly:=B0o hRx y Ag
 refine ⟨fun e h0 h3=>(A8y hRx ⟨h0,h3⟩ (A8y hR ⟨h0,h3⟩ (hov e) x Ag).1 y Ag).1,fun e h0 h3 i hi=>?_⟩
 obtain ⟨a1,a2⟩:=A8y hR ⟨h0,h3⟩ (hov e) x Ag
 have hr0:A7s (frN c x) e=0:=by rw [if_pos Ag] at a2;omega
 have hd0:=B31 hr0
 by_cases hi0:i=0
 ·subst hi0
  exact B1i hRx hd0 y Ag
 ·obtain ⟨b1,b2⟩:=B0l (e:=e) (w:=i) hRx hd0 ⟨by omega,by omega⟩ y Ag
  have hz2:A77 (frN (frN c x) y) e i=0:=by rw [if_pos Ag] at b2;omega
  exact B28 (hRx.frN y Ag).news b1 ⟨by omega,by omega⟩ hz2
theorem A97 {k:Nat}{c:A3}(hR:A60 k c)(hk:k≤1000)(h1:c.graph.cap=1∨c.graph.workers=1)(n:Nat)(hn:n≤3000):B2g (frN c (n+1)):=by
 have hRn:=hR.frN n Ag
 rcases h1 with h1|h1
 ·exact B2w hRn Ag (by rw [B0a];exact h1)
 ·intro f t hL
  have hf:=hL.2.2.1
  have ht:=hL.2.2.2
  have hne:=hL.2.1
  rw [B0a,h1] at hf ht
  omega
theorem B3l {g:An}{a b:Int}{ins:List Ac}{k:Nat}{c:A3}(hF:GrF g a b)(hI:A4h ins)(hR:A60 k c)(hk:k≤1000)(hD:A8k g a b ins c)(n:Nat)(hn:n≤3000):A8k g a b ins (frN c n)∧pot (A4d a b ins) (frN c n)≤pot (A4d a b ins) c:=by
 induction n with
 |zero=>exact ⟨hD,Nat.le_refl _⟩
 |succ n ih=>
  obtain ⟨i1,i2⟩:=ih Ag
  have hRn:=hR.frN n Ag
  have:=Pv (frN c n)
  obtain ⟨j1,j2⟩:=A83 hF hI (Ru (Ou (frN c n))) (frN c n,[]) hRn Ag i1
  exact ⟨j1,Nat.le_trans j2 i2⟩
theorem B2u {g:An}{a b:Int}{ins:List Ac}{k:Nat}{c:A3}(hF:GrF g a b)(hI:A4h ins)(hR:A60 k c)(hk:k≤1000)(hD:A8k g a b ins c)(hp:pot (A4d a b ins) c≤2800)(h1:c.graph.cap=1∨c.graph.workers=1):
  ∃n,n≤2801∧B0t (frN c (n+1)):=by
 have key:∀m,m≤2802→(∃n,n≤2801∧B0t (frN c (n+1)))∨pot (A4d a b ins) (frN c (m+1))+m≤2800:=by
  intro m
  induction m with
  |zero=>
   intro _
   have q:pot (A4d a b ins) (frN c (0+1))≤pot (A4d a b ins) c:=(B3l hF hI hR hk hD 1 Ag).2
   exact .inr Ag
  |succ m ih=>
   intro hm
   rcases ih Ag with h|h
   ·exact .inl h
   ·have hRn:=hR.frN (m+1) Ag
    rcases (B32 hF hI hRn Ag (B3l hF hI hR hk hD (m+1) Ag).1 (A97 hR hk h1 m Ag)).2 with q|q
    ·have q:pot (A4d a b ins) (frN c (m+1+1))+1≤pot (A4d a b ins) (frN c (m+1)):=q
     exact .inr Ag
    ·exact .inl ⟨m,by omega,q⟩
 rcases key 2802 (Nat.le_refl _) with h|h
 ·exact h
 ·omega
theorem B4j {p:Nat→Prop}{n:Nat}(h:p n):∃j,j≤n∧p j∧∀i,i<j→¬ p i:=by
 induction n using Nat.strongRecOn with
 |_ n ih=>
  by_cases q:∃i,i<n∧p i
  ·obtain ⟨i,hi,hz⟩:=q
   obtain ⟨j,h1,h2,h3⟩:=ih i hi hz
   exact ⟨j,by omega,h2,h3⟩
  ·exact ⟨n,Nat.le_refl _,h,fun i hi hz=>q ⟨i,hi,hz⟩⟩
theorem B3t (N:Nat)(hN:2900≤N){g:An}{a b:Int}{ins:List Ac}{k:Nat}{c:A3}(hF:GrF g a b)(hI:A4h ins)(hR:A60 k c)(hk:k≤1000)(hD:A8k g a b ins c)(hT:A9d c)(hp:pot (A4d a b ins) c≤2800)(h1:c.graph.cap=1∨c.graph.workers=1):
  (A46 N c).2<2900∧(∃k',A60 k' (A46 N c).1)∧A8o (A46 N c).1∧(A46 N c).1.graph=c.graph:=by
 obtain ⟨n,hn,hE⟩:=B2u hF hI hR hk hD hp h1
 have hRn:=hR.frN (n+1) Ag
 have hov:∀e:Int,A9p (frN c (n+1)) e:=fun e=>B26 hRn.ok hE (B2k hRn.ok (A97 hR hk h1 n Ag)) e
 obtain ⟨x,hx⟩:∃x:Nat,x=14:=⟨14,rfl⟩
 obtain ⟨y,hy⟩:∃y:Nat,y=4:=⟨4,rfl⟩
 obtain ⟨hovz,hdn⟩:=B4q hx hy hRn Ag hov
 have hz:frN c (n+1+x+y)=frN (frN (frN c (n+1)) x) y:=by rw [B11,B11]
 rw [←hz] at hovz hdn
 generalize hm:n+1+x+y=m at *
 have hRz:=hR.frN m Ag
 have hcz:B2g (frN c m):=by
  have:=A97 hR hk h1 (m-1) Ag
  rw [show m-1+1=m by omega] at this
  exact this
 have hbk:∀f t:Int,Jb (frN c m) f t→(Bc (frN c m) (Ai (frN c m) f t)).back=0:=fun f t hL=>by
  have hc:=hcz f t hL
  have hkb:=(I4 hRz.ok hL.2.2.1 hL.2.2.2).1
  have hla:=N1 hRz.ok hkb
  obtain ⟨n1,n2,n3,n4,n5,n6,n7⟩:=hla.1.1
  have hcap:=hla.2.1
  have hc1:=hc.1
  rw [B0a] at hcap
  rcases h1 with h1|h1
  ·omega
  ·have hf:=hL.2.2.1
   have ht:=hL.2.2.2
   have hne:=hL.2.1
   rw [B0a,h1] at hf ht
   omega
 have hAO:A8o (frN c m):=⟨hovz,hdn,hbk⟩
 have hzero:(A4a (frN c m)).2=0:=(B1q (B1v hRz (B1o hT _) hAO) _ (frN c m,[]) rfl).2
 obtain ⟨j,hj,hjz,hjb⟩:=B4j (p:=fun j=>(A4a (frN c j)).2=0) hzero
 have hfr:A46 N c=(frN c (j+1),j+1):=A90 Ag hjb hjz
 have hsame:frN c (j+1)=frN c m:=by
  rw [A99 hjz 1]
  have:=A99 hjz (m-j)
  rw [show j+(m-j)=m by omega] at this
  exact this.symm
 rw [hfr]
 refine ⟨by show j+1<2900;omega,⟨k+44 * m,?_⟩,?_,B0a c (j+1)⟩
 ·show A60 _ (frN c (j+1))
  rw [hsame]
  exact hRz
 ·show A8o (frN c (j+1))
  rw [hsame]
  exact hAO
end Go.Proofs.Ytonodkjaoalfjaa
