/- Part 21 of the proof that each of the laws FnTight returns true for every input. No conditions. -/
import Derived.Test.YtonodkjaoalfjaaP19
import Derived.Test.YtonodkjaoalfjaaP20
import Derived.Test.YtonodkjaoalfjaaP11

set_option linter.unusedSimpArgs false
set_option linter.unusedVariables false
set_option maxRecDepth 100000
namespace Go.Proofs.Ytonodkjaoalfjaa
open Go.Sx
theorem B05 (op e k v:Int):∀(l:List Ax) (s:Int×Bool),((l.foldl (Tv op e k) s).2=true∧(l.foldl (Tv op e k) s).1≤v)↔(s.2=true∧s.1≤v)∨∃y∈l,(y.op=op∧y.epoch=e∧y.key=k)∧y.val≤v
 | [],s=>by simp
 |x::l,s=>by
  simp only [List.foldl_cons]
  rw [B05 op e k v l]
  have h:((Tv op e k s x).2=true∧(Tv op e k s x).1≤v)↔(s.2=true∧s.1≤v)∨((x.op=op∧x.epoch=e∧x.key=k)∧x.val≤v):=by
   unfold Tv
   split
   ·rename_i h
    obtain ⟨h1,h2⟩:=h
    simp only [true_and,h1,and_self]
    constructor
    ·exact .inr
    ·rintro (⟨q1,q2⟩|q)
     ·rcases h2 with h2|h2
      ·rw [q1] at h2;cases h2
      ·omega
     ·exact q
   ·rename_i h
    constructor
    ·exact .inl
    ·rintro (q|⟨q1,q2⟩)
     ·exact q
     ·cases hs:s.2 with
      |false=>exact absurd ⟨q1,.inl hs⟩ h
      |true=>
       refine ⟨rfl,?_⟩
       by_cases hx:x.val<s.1
       ·exact absurd ⟨q1,.inr hx⟩ h
       ·omega
  rw [h]
  constructor
  ·rintro ((q|q)|⟨y,hy,q⟩)
   ·exact .inl q
   ·exact .inr ⟨x,List.mem_cons_self ..,q⟩
   ·exact .inr ⟨y,List.mem_cons_of_mem _ hy,q⟩
  ·rintro (q|⟨y,hy,q⟩)
   ·exact .inl (.inl q)
   ·rcases List.mem_cons.1 hy with rfl|hy
    ·exact .inl (.inr q)
    ·exact .inr ⟨y,hy,q⟩
theorem A8d {l:List Ax}{x:Ax}:Qn l x↔∃y∈l,(y.op=x.op∧y.epoch=x.epoch∧y.key=x.key)∧y.val≤x.val:=by
 unfold Qn Ho
 rw [B05]
 simp
theorem B0i {l:List Ax}{x:Ax}:Io l x=true↔x∈l:=by
 unfold Io
 rw [List.any_eq_true]
 constructor
 ·rintro ⟨y,hy,e⟩
  obtain rfl:=of_decide_eq_true e
  exact hy
 ·intro h
  exact ⟨x,h,by simp⟩
theorem A9v {l:List Ax}{x y:Ax}(h:¬ Qn l x):y∈(Iu l x).1↔(y∈l∧¬ (x.op=y.op∧x.epoch=y.epoch∧x.key=y.key))∨y=x:=by
 unfold Iu
 rw [if_neg h]
 simp only
 rw [B0p,List.mem_filter]
 unfold B6
 simp only [Bool.not_eq_true',decide_eq_false_iff_not]
theorem B22 {l:List Ax}{x y:Ax}(h:Qn l x):Qn (Iu l y).1 x:=by
 by_cases hy:Qn l y
 ·unfold Iu;rw [if_pos hy];exact h
 ·obtain ⟨z,hz,s,hv⟩:=A8d.1 h
  rw [A8d]
  by_cases hs:y.op=z.op∧y.epoch=z.epoch∧y.key=z.key
  ·refine ⟨y,(A9v hy).2 (.inr rfl),⟨by omega,by omega,by omega⟩,?_⟩
   by_cases hle:y.val≤x.val
   ·exact hle
   ·exact absurd (A8d.2 ⟨z,hz,⟨by omega,by omega,by omega⟩,by omega⟩) hy
  ·exact ⟨z,(A9v hy).2 (.inl ⟨hz,hs⟩),s,hv⟩
theorem B2i {l:List Ax}{y:Ax}:Qn (Iu l y).1 y:=by
 by_cases hy:Qn l y
 ·unfold Iu;rw [if_pos hy];exact hy
 ·exact A8d.2 ⟨y,(A9v hy).2 (.inr rfl),⟨rfl,rfl,rfl⟩,Int.le_refl _⟩
def A8t (k:Int) (l:List Ax) (x:Ax):Bool:=!(Cz k l x).2
theorem B2l {l:List Ax}{x:Ax}:A8t 5 l x=true↔Qn l x:=by
 unfold A8t Cz Iu
 rw [if_pos Cb]
 split
 ·rename_i h;simp [h]
 ·rename_i h;simp [h]
theorem B2m {l:List Ax}{x:Ax}:A8t 6 l x=true↔x∈l:=by
 rw [←B0i]
 unfold A8t Cz
 rw [if_neg Cb,if_pos rfl]
 split
 ·rename_i h;simp [h]
 ·rename_i h;simp [h]
theorem B3g {k k':Int}{l:List Ax}{x y:Ax}(hk:k=5∨k=6)(h:A8t k l x=true)(hy:y.op=x.op→k'=k):A8t k (Cz k' l y).1 x=true:=by
 have hput:∀{l:List Ax} {z:Ax},z∈l→z∈Ff l y:=fun hz=>B0p.2 (.inl hz)
 rcases hk with rfl|rfl
 ·rw [B2l] at h ⊢
  unfold Cz
  split
  ·exact B22 h
  ·split
   ·split
    ·exact h
    ·obtain ⟨z,hz,s⟩:=A8d.1 h
     exact A8d.2 ⟨z,hput hz,s⟩
   ·exact h
 ·rw [B2m] at h ⊢
  unfold Cz
  split
  ·rename_i hk'
   have hne:y.op≠x.op:=fun e=>by have:=hy e;omega
   unfold Iu
   split
   ·exact h
   ·refine B0p.2 (.inl (List.mem_filter.2 ⟨h,?_⟩))
    unfold B6
    simp [hne]
  ·split
   ·split
    ·exact h
    ·exact hput h
   ·exact h
theorem B2v {k:Int}{l:List Ax}{x:Ax}(hk:k=5∨k=6):A8t k (Cz k l x).1 x=true:=by
 rcases hk with rfl|rfl
 ·rw [B2l]
  unfold Cz
  rw [if_pos Cb]
  exact B2i
 ·rw [B2m]
  unfold Cz
  rw [if_neg Cb,if_pos rfl]
  split
  ·rename_i h;exact B0i.1 h
  ·exact B0p.2 (.inr rfl)
theorem A9s {α:Type}(p q:α→Bool):∀(l:List α),(∀x∈l,q x=true→p x=true)→(l.filter q).length≤(l.filter p).length
 | [],_=>Nat.le_refl _
 |x::l,h=>by
  have ih:=A9s p q l fun y hy=>h y (List.mem_cons_of_mem _ hy)
  have hx:=h x (List.mem_cons_self ..)
  simp only [List.filter_cons]
  cases hq:q x with
  |true=>rw [hx hq,if_pos rfl,if_pos rfl];simp only [List.length_cons];omega
  |false=>
   rw [if_neg Cb]
   split
   ·simp only [List.length_cons];omega
   ·exact ih
theorem B00 {α:Type}(p q:α→Bool):∀(l:List α),(∀x∈l,q x=true→p x=true)→(∃x∈l,p x=true∧q x=false)→(l.filter q).length+1≤(l.filter p).length
 | [],_,h=>by obtain ⟨x,hx,_⟩:=h;cases hx
 |x::l,h,he=>by
  have ih:=B00 p q l fun y hy=>h y (List.mem_cons_of_mem _ hy)
  have il:=A9s p q l fun y hy=>h y (List.mem_cons_of_mem _ hy)
  have hx:=h x (List.mem_cons_self ..)
  simp only [List.filter_cons]
  obtain ⟨y,hy,h1,h2⟩:=he
  rcases List.mem_cons.1 hy with rfl|hy
  ·rw [h1,h2,if_pos rfl,if_neg Cb]
   simp only [List.length_cons];omega
  ·have:=ih ⟨y,hy,h1,h2⟩
   cases hq:q x with
   |true=>rw [hx hq,if_pos rfl,if_pos rfl];simp only [List.length_cons];omega
   |false=>
    rw [if_neg Cb]
    split
    ·simp only [List.length_cons];omega
    ·exact this
structure GrF (g:An) (a b:Int):Prop where
 ha:1≤a∧a≤3
 hb:0≤b∧b≤3
 len:g.nodes.length=6∨g.nodes.length=7
 n0:(Ae g 0).kind=1∧((Ae g 0).outs=[1]∨((Ae g 0).outs=[1,6]∧g.nodes.length=7))
 n1:((Ae g 1).kind=5∨(Ae g 1).kind=6)∧(Ae g 1).outs=[2,5]
 n2:(Ae g 2).kind=4∧(Ae g 2).a=a∧((Ae g 2).outs=[3]∨(Ae g 2).outs=[3,4])
 n3:(((Ae g 3).kind=2∧(Ae g 3).a=b)∨(Ae g 3).kind=3)∧(Ae g 3).outs=[4]
 n4:((Ae g 4).kind=7∧(Ae g 4).outs=[1])∨((Ae g 4).kind=8∧(Ae g 4).outs=[])
 n5:(Ae g 5).kind=8∧(Ae g 5).outs=[]
 n6:g.nodes.length=7→(Ae g 6).kind=8∧(Ae g 6).outs=[]
theorem B5i {g:An}(h:A1g g.nodes):∃a b,GrF g a b:=by
 obtain ⟨G,a,b,k,hG,ha,hb,hk,hl⟩:=h
 refine ⟨a,b,?_⟩
 have hK:∀{x:Int},x=6∨x=5→x=5∨x=6:=fun q=>by omega
 rcases hl with hl|hl|hl|hl|hl
 ·refine ⟨ha,hb,by rw [hl];exact .inl rfl,?_,?_,?_,?_,?_,?_,?_⟩<;>unfold Ae<;>rw [hl]
  ·exact ⟨rfl,.inl rfl⟩
  ·exact ⟨hK hG,rfl⟩
  ·exact ⟨rfl,rfl,.inl rfl⟩
  ·exact ⟨.inr rfl,rfl⟩
  ·exact .inl ⟨rfl,rfl⟩
  ·exact ⟨rfl,rfl⟩
  ·exact fun q=>absurd q (by simp [Y2])
 ·refine ⟨ha,hb,by rw [hl];exact .inl rfl,?_,?_,?_,?_,?_,?_,?_⟩<;>unfold Ae<;>rw [hl]
  ·exact ⟨rfl,.inl rfl⟩
  ·exact ⟨hK hG,rfl⟩
  ·exact ⟨rfl,rfl,.inl rfl⟩
  ·exact ⟨.inl ⟨rfl,rfl⟩,rfl⟩
  ·exact .inr ⟨rfl,rfl⟩
  ·exact ⟨rfl,rfl⟩
  ·exact fun q=>absurd q Bq
 ·refine ⟨ha,hb,by rw [hl];exact .inl rfl,?_,?_,?_,?_,?_,?_,?_⟩<;>unfold Ae<;>rw [hl]
  ·exact ⟨rfl,.inl rfl⟩
  ·exact ⟨hK hG,rfl⟩
  ·exact ⟨rfl,rfl,.inr rfl⟩
  ·exact ⟨.inl ⟨rfl,rfl⟩,rfl⟩
  ·exact .inl ⟨rfl,rfl⟩
  ·exact ⟨rfl,rfl⟩
  ·exact fun q=>absurd q (by simp [Y2])
 ·refine ⟨ha,hb,by rw [hl];exact .inr rfl,?_,?_,?_,?_,?_,?_,?_⟩<;>unfold Ae<;>rw [hl]
  ·exact ⟨rfl,.inr ⟨rfl,rfl⟩⟩
  ·exact ⟨hK hG,rfl⟩
  ·exact ⟨rfl,rfl,.inl rfl⟩
  ·exact ⟨.inl ⟨rfl,rfl⟩,rfl⟩
  ·exact .inl ⟨rfl,rfl⟩
  ·exact ⟨rfl,rfl⟩
  ·exact fun _=>⟨rfl,rfl⟩
 ·refine ⟨ha,hb,by rw [hl];exact .inl rfl,?_,?_,?_,?_,?_,?_,?_⟩<;>unfold Ae<;>rw [hl]
  ·exact ⟨rfl,.inl rfl⟩
  ·exact ⟨hK hG,rfl⟩
  ·exact ⟨rfl,rfl,.inl rfl⟩
  ·exact ⟨.inl ⟨rfl,rfl⟩,rfl⟩
  ·exact .inl ⟨rfl,rfl⟩
  ·exact ⟨rfl,rfl⟩
  ·exact fun q=>absurd q (by simp [Y2])
def A4h (ins:List Ac):Prop:=ins.length≤5∧∀r∈ins,r.op=0∧r.stamp.turn=0∧(0≤r.stamp.epoch∧r.stamp.epoch≤3)∧(0≤r.key∧r.key≤11)∧(0≤r.val∧r.val≤39)
theorem A0g {xs:List Ac}{e k v:Int}(h:∀r∈xs,r.op=0∧r.stamp.turn=0∧(0≤r.stamp.epoch∧r.stamp.epoch≤3)∧(0≤r.key∧r.key≤11)∧(0≤r.val∧r.val≤39))(he:0≤e∧e≤3)(hk:0≤k∧k≤11)(hv:0≤v∧v≤39):
  ∀r∈xs++[(⟨0,⟨e,0⟩,k,v⟩:Ac)],r.op=0∧r.stamp.turn=0∧(0≤r.stamp.epoch∧r.stamp.epoch≤3)∧(0≤r.key∧r.key≤11)∧(0≤r.val∧r.val≤39):=fun r hr=>by
 rcases List.mem_append.1 hr with hr|hr
 ·exact h r hr
 ·rw [List.mem_singleton.1 hr]
  exact ⟨rfl,rfl,he,hk,hv⟩
structure JIn where
 k:Nat
 i:Int
 h:Int
 e:Int
 xs:List Ac
theorem Zt (d:Gb)(i h:Int)(hi:0≤i∧i≤d.n):Dq Try.prog HT 23 d.pins (d.cur i h) [] (fun r:Int×Int×List Ac=>(0≤r.1∧r.1≤d.n)∧A4h r.2.2) (fun r=>d.cur r.1 r.2.1) (fun r=>[.one (A8 r.2.2)]):=by
 refine Ex A0 false Try.func23 rfl Cb fun B b hH hp=>?_
 conv=>whnf
 refine Du 1 (A8 []) rfl (Cn rfl D8) ?_
 refine Cc A0 false [6] (fun j:JIn=>[(4,.c (vi j.e)),(5,.c (vi j.k))]) (fun j=>[⟨0,[.c (.val d.v),.c (vi j.i),.c (vi j.h)]⟩]) (fun j=>[⟨1,A8 j.xs⟩]) (fun j=>(0≤j.i∧j.i≤d.n)∧j.k≤5∧j.xs.length=j.k∧(0≤j.e∧j.e≤2)∧∀r∈j.xs,r.op=0∧r.stamp.turn=0∧(0≤r.stamp.epoch∧r.stamp.epoch≤3)∧(0≤r.key∧r.key≤11)∧(0≤r.val∧r.val≤39)) (fun j=>5-j.k) (⟨0,i,h,0,[]⟩) (⟨hi,Nat.zero_le _,rfl,⟨Int.le_refl _,(by decide:(0:Int)≤2)⟩,fun r hr=>(List.not_mem_nil hr).elim⟩) ⟨by first|rfl|simp [Dc,ren2,ren1,ren0],by first|rfl|simp [Dc,ren2,ren1,ren0],trivial⟩ D8 ⟨by first|rfl|exact (congrArg (fun l=>Dz _ _ l) (List.append_nil _)).symm|(show (_:A7)=_;simp)|simp,trivial⟩ Dg A6 (fun j hj=>?_)
 conv=>whnf
 obtain ⟨hi,hk,hx,he,hA⟩:=hj
 refine Cm (Cv d j.i j.h 6 hi Cb) hH hp rfl C1 rfl rfl (fun r hr=>go A0 false ?_)
 conv=>whnf
 refine G2 (fun hlt=>?_) fun hlt=>?_<;>conv=>whnf
 ·have hlt2:r.2.2<6:=hr.2.2.2 Ag
  refine Cm (Cv d r.1 r.2.1 2 hr.1 Cb) hH hp rfl C1 rfl rfl (fun r2 hr2=>go A0 false ?_)
  conv=>whnf
  have hr2b:r2.2.2<2:=hr2.2.2.2 Ag
  (repeat refine Ak ?_)
  refine B7 (P4 (j.e+r2.2.2) 0 2) rfl (Af ?_)
  have hB:=G1 (j.e+r2.2.2) 0 2 Cb
  refine Cm (Cv d r2.1 r2.2.1 12 hr2.1 Cb) hH hp rfl C1 rfl rfl (fun r3 hr3=>go A0 false ?_)
  conv=>whnf
  refine Cm (Cv d r3.1 r3.2.1 40 hr3.1 Cb) hH hp rfl C1 rfl rfl (fun r4 hr4=>go A0 false ?_)
  conv=>whnf
  have hk3:=hr3.2.2.2 Ag
  have hv4:=hr4.2.2.2 Ag
  refine B4 A0 rfl rfl rfl rfl rfl rfl rfl rfl rfl rfl rfl (A8 (j.xs++[⟨0,⟨Dn (j.e+r2.2.2) 0 2,0⟩,r3.2.2,r4.2.2⟩])) (B5 rfl) Rt Ag (Af ?_)
  (repeat refine Ak ?_)
  refine B8 [(1,3)] (⟨j.k+1,r4.1,r4.2.1,Dn (j.e+r2.2.2) 0 2,j.xs++[⟨0,⟨Dn (j.e+r2.2.2) 0 2,0⟩,r3.2.2,r4.2.2⟩]⟩) (⟨hr4.1,by show j.k+1≤5;omega,by simp [hx],hB,A0g hA ⟨hB.1,by omega⟩ ⟨hr3.2.1,by omega⟩ ⟨hr4.2.1,by omega⟩⟩) (by show 5-(j.k+1)<_;omega) ⟨rfl,rfl,trivial⟩ ⟨rfl,trivial⟩ D8 A6 Dg A6
 ·exact C9 A0 (r.1,r.2.1,j.xs) ⟨hr.1,by show j.xs.length≤5;omega,hA⟩ rfl rfl rfl rfl C1
end Go.Proofs.Ytonodkjaoalfjaa
