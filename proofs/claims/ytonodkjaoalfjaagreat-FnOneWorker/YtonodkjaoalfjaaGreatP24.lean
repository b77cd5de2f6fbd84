/- Part 24 of the proof that each of the laws FnOneWorker returns true for every input. No conditions. -/
import Derived.Test.YtonodkjaoalfjaaGreatP22
import Derived.Test.YtonodkjaoalfjaaGreatP23
import Derived.Test.YtonodkjaoalfjaaGreatP14

set_option linter.unusedSimpArgs false
set_option linter.unusedVariables false
set_option maxRecDepth 100000
namespace Go.Proofs.YtonodkjaoalfjaaGreat
open Go.Sx
theorem Wl (op e k v:Int):∀(l:List A7) (s:Int×Bool),((l.foldl (L7 op e k) s).2=true∧(l.foldl (L7 op e k) s).1≤v)↔(s.2=true∧s.1≤v)∨∃y∈l,(y.op=op∧y.epoch=e∧y.key=k)∧y.val≤v
 | [],s=>by simp
 |x::l,s=>by
  simp only [List.foldl_cons]
  rw [Wl op e k v l]
  have h:((L7 op e k s x).2=true∧(L7 op e k s x).1≤v)↔(s.2=true∧s.1≤v)∨((x.op=op∧x.epoch=e∧x.key=k)∧x.val≤v):=by
   unfold L7
   split
   ·rename_i h
    obtain ⟨h1,h2⟩:=h
    simp only [true_and,h1,and_self]
    constructor
    ·exact .inr
    ·rintro (⟨q1,q2⟩|q)
     ·rcases h2 with h2|h2
      ·rw [q1] at h2;cases h2
      ·omega
     ·exact q
   ·rename_i h
    constructor
    ·exact .inl
    ·rintro (q|⟨q1,q2⟩)
     ·exact q
     ·cases hs:s.2 with
      |false=>exact absurd ⟨q1,.inl hs⟩ h
      |true=>
       refine ⟨rfl,?_⟩
       by_cases hx:x.val<s.1
       ·exact absurd ⟨q1,.inr hx⟩ h
       ·omega
  rw [h]
  constructor
  ·rintro ((q|q)|⟨y,hy,q⟩)
   ·exact .inl q
   ·exact .inr ⟨x,List.mem_cons_self ..,q⟩
   ·exact .inr ⟨y,List.mem_cons_of_mem _ hy,q⟩
  ·rintro (q|⟨y,hy,q⟩)
   ·exact .inl (.inl q)
   ·rcases List.mem_cons.1 hy with rfl|hy
    ·exact .inl (.inr q)
    ·exact .inr ⟨y,hy,q⟩
theorem Ex {l:List A7}{x:A7}:G7 l x↔∃y∈l,(y.op=x.op∧y.epoch=x.epoch∧y.key=x.key)∧y.val≤x.val:=by
 unfold G7 H8
 rw [Wl]
 simp
theorem On {l:List A7}{x:A7}:I2 l x=true↔x∈l:=by
 unfold I2
 rw [List.any_eq_true]
 constructor
 ·rintro ⟨y,hy,e⟩
  obtain rfl:=of_decide_eq_true e
  exact hy
 ·intro h
  exact ⟨x,h,by simp⟩
theorem Jj {l:List A7}{x y:A7}(h:¬ G7 l x):y∈(Dq l x).1↔(y∈l∧¬ (x.op=y.op∧x.epoch=y.epoch∧x.key=y.key))∨y=x:=by
 unfold Dq
 rw [if_neg h]
 simp only
 rw [J1,List.mem_filter]
 unfold B2
 simp only [Bool.not_eq_true',decide_eq_false_iff_not]
theorem Qn {l:List A7}{x y:A7}(h:G7 l x):G7 (Dq l y).1 x:=by
 by_cases hy:G7 l y
 ·unfold Dq;rw [if_pos hy];exact h
 ·obtain ⟨z,hz,s,hv⟩:=Ex.1 h
  rw [Ex]
  by_cases hs:y.op=z.op∧y.epoch=z.epoch∧y.key=z.key
  ·refine ⟨y,(Jj hy).2 (.inr rfl),⟨by omega,by omega,by omega⟩,?_⟩
   by_cases hle:y.val≤x.val
   ·exact hle
   ·exact absurd (Ex.2 ⟨z,hz,⟨by omega,by omega,by omega⟩,by omega⟩) hy
  ·exact ⟨z,(Jj hy).2 (.inl ⟨hz,hs⟩),s,hv⟩
theorem Tn {l:List A7}{y:A7}:G7 (Dq l y).1 y:=by
 by_cases hy:G7 l y
 ·unfold Dq;rw [if_pos hy];exact hy
 ·exact Ex.2 ⟨y,(Jj hy).2 (.inr rfl),⟨rfl,rfl,rfl⟩,Int.le_refl _⟩
def K7 (k:Int) (l:List A7) (x:A7):Bool:=!(Bb k l x).2
theorem Mi {l:List A7}{x:A7}:K7 5 l x=true↔G7 l x:=by
 unfold K7 Bb Dq
 rw [if_pos Bu]
 split
 ·rename_i h;simp [h]
 ·rename_i h;simp [h]
theorem A25 {l:List A7}{x:A7}:K7 6 l x=true↔x∈l:=by
 rw [←On]
 unfold K7 Bb
 rw [if_neg Bu,if_pos rfl]
 split
 ·rename_i h;simp [h]
 ·rename_i h;simp [h]
theorem A67 {k k':Int}{l:List A7}{x y:A7}(hk:k=5∨k=6)(h:K7 k l x=true)(hy:y.op=x.op→k'=k):K7 k (Bb k' l y).1 x=true:=by
 have hput:∀{l:List A7} {z:A7},z∈l→z∈Cy l y:=fun hz=>J1.2 (.inl hz)
 rcases hk with rfl|rfl
 ·rw [Mi] at h ⊢
  unfold Bb
  split
  ·exact Qn h
  ·split
   ·split
    ·exact h
    ·obtain ⟨z,hz,s⟩:=Ex.1 h
     exact Ex.2 ⟨z,hput hz,s⟩
   ·exact h
 ·rw [A25] at h ⊢
  unfold Bb
  split
  ·rename_i hk'
   have hne:y.op≠x.op:=fun e=>by have:=hy e;omega
   unfold Dq
   split
   ·exact h
   ·refine J1.2 (.inl (List.mem_filter.2 ⟨h,?_⟩))
    unfold B2
    simp [hne]
  ·split
   ·split
    ·exact h
    ·exact hput h
   ·exact h
theorem A4o {k:Int}{l:List A7}{x:A7}(hk:k=5∨k=6):K7 k (Bb k l x).1 x=true:=by
 rcases hk with rfl|rfl
 ·rw [Mi]
  unfold Bb
  rw [if_pos Bu]
  exact Tn
 ·rw [A25]
  unfold Bb
  rw [if_neg Bu,if_pos rfl]
  split
  ·rename_i h;exact On.1 h
  ·exact J1.2 (.inr rfl)
theorem Qu {α:Type}(p q:α→Bool):∀(l:List α),(∀x∈l,q x=true→p x=true)→(l.filter q).length≤(l.filter p).length
 | [],_=>Nat.le_refl _
 |x::l,h=>by
  have ih:=Qu p q l fun y hy=>h y (List.mem_cons_of_mem _ hy)
  have hx:=h x (List.mem_cons_self ..)
  simp only [List.filter_cons]
  cases hq:q x with
  |true=>rw [hx hq,if_pos rfl,if_pos rfl];simp only [List.length_cons];omega
  |false=>
   rw [if_neg Bu]
   split
   ·simp only [List.length_cons];omega
   ·exact ih
theorem Qv {α:Type}(p q:α→Bool):∀(l:List α),(∀x∈l,q x=true→p x=true)→(∃x∈l,p x=true∧q x=false)→(l.filter q).length+1≤(l.filter p).length
 | [],_,h=>by obtain ⟨x,hx,_⟩:=h;cases hx
 |x::l,h,he=>by
  have ih:=Qv p q l fun y hy=>h y (List.mem_cons_of_mem _ hy)
  have il:=Qu p q l fun y hy=>h y (List.mem_cons_of_mem _ hy)
  have hx:=h x (List.mem_cons_self ..)
  simp only [List.filter_cons]
  obtain ⟨y,hy,h1,h2⟩:=he
  rcases List.mem_cons.1 hy with rfl|hy
  ·rw [h1,h2,if_pos rfl,if_neg Bu]
   simp only [List.length_cons];omega
  ·have:=ih ⟨y,hy,h1,h2⟩
   cases hq:q x with
   |true=>rw [hx hq,if_pos rfl,if_pos rfl];simp only [List.length_cons];omega
   |false=>
    rw [if_neg Bu]
    split
    ·simp only [List.length_cons];omega
    ·exact this
structure GrF (g:Ad) (a b:Int):Prop where
 ha:1≤a∧a≤3
 hb:0≤b∧b≤3
 len:g.nodes.length=6∨g.nodes.length=7
 n0:(A9 g 0).kind=1∧((A9 g 0).outs=[1]∨((A9 g 0).outs=[1,6]∧g.nodes.length=7))
 n1:((A9 g 1).kind=5∨(A9 g 1).kind=6)∧(A9 g 1).outs=[2,5]
 n2:(A9 g 2).kind=4∧(A9 g 2).a=a∧((A9 g 2).outs=[3]∨(A9 g 2).outs=[3,4])
 n3:(((A9 g 3).kind=2∧(A9 g 3).a=b)∨(A9 g 3).kind=3)∧(A9 g 3).outs=[4]
 n4:((A9 g 4).kind=7∧(A9 g 4).outs=[1])∨((A9 g 4).kind=8∧(A9 g 4).outs=[])
 n5:(A9 g 5).kind=8∧(A9 g 5).outs=[]
 n6:g.nodes.length=7→(A9 g 6).kind=8∧(A9 g 6).outs=[]
theorem B3f {g:Ad}(h:Uz g.nodes):∃a b,GrF g a b:=by
 obtain ⟨G,a,b,k,hG,ha,hb,hk,hl⟩:=h
 refine ⟨a,b,?_⟩
 have hK:∀{x:Int},x=6∨x=5→x=5∨x=6:=fun q=>by omega
 rcases hl with hl|hl|hl|hl|hl
 ·refine ⟨ha,hb,by rw [hl];exact .inl rfl,?_,?_,?_,?_,?_,?_,?_⟩<;>unfold A9<;>rw [hl]
  ·exact ⟨rfl,.inl rfl⟩
  ·exact ⟨hK hG,rfl⟩
  ·exact ⟨rfl,rfl,.inl rfl⟩
  ·exact ⟨.inr rfl,rfl⟩
  ·exact .inl ⟨rfl,rfl⟩
  ·exact ⟨rfl,rfl⟩
  ·exact fun q=>absurd q (by simp [Ve])
 ·refine ⟨ha,hb,by rw [hl];exact .inl rfl,?_,?_,?_,?_,?_,?_,?_⟩<;>unfold A9<;>rw [hl]
  ·exact ⟨rfl,.inl rfl⟩
  ·exact ⟨hK hG,rfl⟩
  ·exact ⟨rfl,rfl,.inl rfl⟩
  ·exact ⟨.inl ⟨rfl,rfl⟩,rfl⟩
  ·exact .inr ⟨rfl,rfl⟩
  ·exact ⟨rfl,rfl⟩
  ·exact fun q=>absurd q Bj
 ·refine ⟨ha,hb,by rw [hl];exact .inl rfl,?_,?_,?_,?_,?_,?_,?_⟩<;>unfold A9<;>rw [hl]
  ·exact ⟨rfl,.inl rfl⟩
  ·exact ⟨hK hG,rfl⟩
  ·exact ⟨rfl,rfl,.inr rfl⟩
  ·exact ⟨.inl ⟨rfl,rfl⟩,rfl⟩
  ·exact .inl ⟨rfl,rfl⟩
  ·exact ⟨rfl,rfl⟩
  ·exact fun q=>absurd q (by simp [Ve])
 ·refine ⟨ha,hb,by rw [hl];exact .inr rfl,?_,?_,?_,?_,?_,?_,?_⟩<;>unfold A9<;>rw [hl]
  ·exact ⟨rfl,.inr ⟨rfl,rfl⟩⟩
  ·exact ⟨hK hG,rfl⟩
  ·exact ⟨rfl,rfl,.inl rfl⟩
  ·exact ⟨.inl ⟨rfl,rfl⟩,rfl⟩
  ·exact .inl ⟨rfl,rfl⟩
  ·exact ⟨rfl,rfl⟩
  ·exact fun _=>⟨rfl,rfl⟩
 ·refine ⟨ha,hb,by rw [hl];exact .inl rfl,?_,?_,?_,?_,?_,?_,?_⟩<;>unfold A9<;>rw [hl]
  ·exact ⟨rfl,.inl rfl⟩
  ·exact ⟨hK hG,rfl⟩
  ·exact ⟨rfl,rfl,.inl rfl⟩
  ·exact ⟨.inl ⟨rfl,rfl⟩,rfl⟩
  ·exact .inl ⟨rfl,rfl⟩
  ·exact ⟨rfl,rfl⟩
  ·exact fun q=>absurd q (by simp [Ve])
def Me (ins:List A5):Prop:=ins.length≤5∧∀r∈ins,r.op=0∧r.stamp.turn=0∧(0≤r.stamp.epoch∧r.stamp.epoch≤3)∧(0≤r.key∧r.key≤11)∧(0≤r.val∧r.val≤39)
theorem B0k {xs:List A5}{e k v:Int}(h:∀r∈xs,r.op=0∧r.stamp.turn=0∧(0≤r.stamp.epoch∧r.stamp.epoch≤3)∧(0≤r.key∧r.key≤11)∧(0≤r.val∧r.val≤39))(he:0≤e∧e≤3)(hk:0≤k∧k≤11)(hv:0≤v∧v≤39):
  ∀r∈xs++[(⟨0,⟨e,0⟩,k,v⟩:A5)],r.op=0∧r.stamp.turn=0∧(0≤r.stamp.epoch∧r.stamp.epoch≤3)∧(0≤r.key∧r.key≤11)∧(0≤r.val∧r.val≤39):=fun r hr=>by
 rcases List.mem_append.1 hr with hr|hr
 ·exact h r hr
 ·rw [List.mem_singleton.1 hr]
  exact ⟨rfl,rfl,he,hk,hv⟩
structure JIn where
 k:Nat
 i:Int
 h:Int
 e:Int
 xs:List A5
theorem A90 (d:I9)(i h:Int)(hi:0≤i∧i≤d.n):Iv Tryz.prog HT 52 d.pins (d.cur i h) [] (fun r:Int×Int×List A5=>(0≤r.1∧r.1≤d.n)∧Me r.2.2) (fun r=>d.cur r.1 r.2.1) (fun r=>[.one (Ax r.2.2)]):=by
 refine Ol A0 false Tryz.func52 rfl Bu fun B b hH hp=>?_
 conv=>whnf
 refine G4 1 (Ax []) rfl (Db rfl Dh) ?_
 refine Bw A0 false [6] (fun j:JIn=>[(4,.c (vi j.e)),(5,.c (vi j.k))]) (fun j=>[⟨0,[.c (.val d.v),.c (vi j.i),.c (vi j.h)]⟩]) (fun j=>[⟨1,Ax j.xs⟩]) (fun j=>(0≤j.i∧j.i≤d.n)∧j.k≤5∧j.xs.length=j.k∧(0≤j.e∧j.e≤2)∧∀r∈j.xs,r.op=0∧r.stamp.turn=0∧(0≤r.stamp.epoch∧r.stamp.epoch≤3)∧(0≤r.key∧r.key≤11)∧(0≤r.val∧r.val≤39)) (fun j=>5-j.k) (⟨0,i,h,0,[]⟩) (⟨hi,Nat.zero_le _,rfl,⟨Int.le_refl _,(by decide:(0:Int)≤2)⟩,fun r hr=>(List.not_mem_nil hr).elim⟩) ⟨by first|rfl|simp [Dl,ren2,ren1,ren0],by first|rfl|simp [Dl,ren2,ren1,ren0],trivial⟩ Dh ⟨by first|rfl|exact (congrArg (fun l=>Du _ _ l) (List.append_nil _)).symm|(show (_:A8)=_;simp)|simp,trivial⟩ D0 Aa (fun j hj=>?_)
 conv=>whnf
 obtain ⟨hi,hk,hx,he,hA⟩:=hj
 refine Fg (E5 d j.i j.h 6 hi Bu) hH hp rfl Ca rfl rfl (fun r hr=>go A0 false ?_)
 conv=>whnf
 refine G5 (fun hlt=>?_) fun hlt=>?_<;>conv=>whnf
 ·have hlt2:r.2.2<6:=hr.2.2.2 Ac
  refine Fg (E5 d r.1 r.2.1 2 hr.1 Bu) hH hp rfl Ca rfl rfl (fun r2 hr2=>go A0 false ?_)
  conv=>whnf
  have hr2b:r2.2.2<2:=hr2.2.2.2 Ac
  (repeat refine Ar ?_)
  refine Aw (A46 (j.e+r2.2.2) 0 2) rfl (Al ?_)
  have hB:=Jq (j.e+r2.2.2) 0 2 Bu
  refine Fg (E5 d r2.1 r2.2.1 12 hr2.1 Bu) hH hp rfl Ca rfl rfl (fun r3 hr3=>go A0 false ?_)
  conv=>whnf
  refine Fg (E5 d r3.1 r3.2.1 40 hr3.1 Bu) hH hp rfl Ca rfl rfl (fun r4 hr4=>go A0 false ?_)
  conv=>whnf
  have hk3:=hr3.2.2.2 Ac
  have hv4:=hr4.2.2.2 Ac
  refine Dp A0 rfl rfl rfl rfl rfl rfl rfl rfl rfl rfl rfl (Ax (j.xs++[⟨0,⟨En (j.e+r2.2.2) 0 2,0⟩,r3.2.2,r4.2.2⟩])) (Bf rfl) Kc Ac (Al ?_)
  (repeat refine Ar ?_)
  refine B5 [(1,3)] (⟨j.k+1,r4.1,r4.2.1,En (j.e+r2.2.2) 0 2,j.xs++[⟨0,⟨En (j.e+r2.2.2) 0 2,0⟩,r3.2.2,r4.2.2⟩]⟩) (⟨hr4.1,by show j.k+1≤5;omega,by simp [hx],hB,B0k hA ⟨hB.1,by omega⟩ ⟨hr3.2.1,by omega⟩ ⟨hr4.2.1,by omega⟩⟩) (by show 5-(j.k+1)<_;omega) ⟨rfl,rfl,trivial⟩ ⟨rfl,trivial⟩ Dh Aa D0 Aa
 ·exact Kk A0 (r.1,r.2.1,j.xs) ⟨hr.1,by show j.xs.length≤5;omega,hA⟩ rfl rfl rfl rfl Ca
end Go.Proofs.YtonodkjaoalfjaaGreat
