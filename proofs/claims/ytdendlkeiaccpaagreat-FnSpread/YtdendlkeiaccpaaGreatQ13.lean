/- Part 13 of the proof that each of the laws FnSpread returns true for every input. No conditions. -/
import Derived.Test.YtdendlkeiaccpaaGreatQ12
import Derived.Test.YtdendlkeiaccpaaGreatQ10
import Derived.Test.YtdendlkeiaccpaaGreatQ5
import Derived.Test.YtdendlkeiaccpaaGreatQ6

set_option linter.unusedSimpArgs false
set_option linter.unusedVariables false
set_option maxRecDepth 100000
namespace Go.Proofs.YtdendlkeiaccpaaGreat
open Go.Sx
theorem A1e (op e k v:Int):∀(l:List Ae) (s:Int×Bool),((l.foldl (N3 op e k) s).2=true∧(l.foldl (N3 op e k) s).1≤v)↔(s.2=true∧s.1≤v)∨∃y∈l,(y.op=op∧y.epoch=e∧y.key=k)∧y.val≤v
 | [],s=>by simp
 |x::l,s=>by
  simp only [List.foldl_cons];rw [A1e op e k v l]
  have h:((N3 op e k s x).2=true∧(N3 op e k s x).1≤v)↔(s.2=true∧s.1≤v)∨((x.op=op∧x.epoch=e∧x.key=k)∧x.val≤v):=by
   unfold N3
   split
   ·rename_i h
    obtain ⟨h1,h2⟩:=h;simp only [true_and,h1,and_self]
    constructor
    ·exact .inr
    rintro (⟨q1,q2⟩|q)
    ·rcases h2 with h2|h2
     ·rw [q1] at h2;cases h2
     omega
    exact q
   rename_i h
   constructor
   ·exact .inl
   rintro (q|⟨q1,q2⟩)
   ·exact q
   cases hs:s.2 with
   |false=>exact absurd ⟨q1,.inl hs⟩ h
   |true=>
    refine ⟨rfl,?_⟩
    by_cases hx:x.val<s.1
    ·exact absurd ⟨q1,.inr hx⟩ h
    omega
  rw [h]
  constructor
  ·rintro ((q|q)|⟨y,hy,q⟩)
   ·exact .inl q
   ·exact .inr ⟨x,List.mem_cons_self ..,q⟩
   exact .inr ⟨y,List.mem_cons_of_mem _ hy,q⟩
  rintro (q|⟨y,hy,q⟩)
  ·exact .inl (.inl q)
  rcases List.mem_cons.1 hy with rfl|hy
  ·exact .inl (.inr q)
  exact .inr ⟨y,hy,q⟩
theorem Fh {l:List Ae}{x:Ae}:Hb l x↔∃y∈l,(y.op=x.op∧y.epoch=x.epoch∧y.key=x.key)∧y.val≤x.val:=by
 unfold Hb Io;rw [A1e]
 simp
theorem R5 {l:List Ae}{x:Ae}:Jn l x=true↔x∈l:=by
 unfold Jn;rw [List.any_eq_true]
 constructor
 ·rintro ⟨y,hy,e⟩
  obtain rfl:=of_decide_eq_true e;exact hy
 intro h;exact ⟨x,h,by simp⟩
theorem Lc {l:List Ae}{x y:Ae}(h:¬ Hb l x):y∈(Ei l x).1↔(y∈l∧¬ (x.op=y.op∧x.epoch=y.epoch∧x.key=y.key))∨y=x:=by
 unfold Ei;rw [if_neg h]
 simp only
 rw [J2,List.mem_filter];unfold Bq;simp only [Bool.not_eq_true',decide_eq_false_iff_not]
theorem Tk {l:List Ae}{x y:Ae}(h:Hb l x):Hb (Ei l y).1 x:=by
 by_cases hy:Hb l y
 ·unfold Ei;rw [if_pos hy];exact h
 obtain ⟨z,hz,s,hv⟩:=Fh.1 h;rw [Fh]
 by_cases hs:y.op=z.op∧y.epoch=z.epoch∧y.key=z.key
 ·refine ⟨y,(Lc hy).2 (.inr rfl),⟨by omega,by omega,by omega⟩,?_⟩
  by_cases hle:y.val≤x.val
  ·exact hle
  exact absurd (Fh.2 ⟨z,hz,⟨by omega,by omega,by omega⟩,by omega⟩) hy
 exact ⟨z,(Lc hy).2 (.inl ⟨hz,hs⟩),s,hv⟩
theorem Xm {l:List Ae}{y:Ae}:Hb (Ei l y).1 y:=by
 by_cases hy:Hb l y
 ·unfold Ei;rw [if_pos hy];exact hy
 exact Fh.2 ⟨y,(Lc hy).2 (.inr rfl),⟨rfl,rfl,rfl⟩,Int.le_refl _⟩
def M8 (k:Int) (l:List Ae) (x:Ae):Bool:=!(Bs k l x).2
theorem Ok {l:List Ae}{x:Ae}:M8 5 l x=true↔Hb l x:=by
 unfold M8 Bs Ei;rw [if_pos B5]
 split
 ·rename_i h;simp [h]
 rename_i h;simp [h]
theorem A7t {l:List Ae}{x:Ae}:M8 6 l x=true↔x∈l:=by
 rw [←R5];unfold M8 Bs;rw [if_neg B5,if_pos rfl]
 split
 ·rename_i h;simp [h]
 rename_i h;simp [h]
theorem B1q {k k':Int}{l:List Ae}{x y:Ae}(hk:k=5∨k=6)(h:M8 k l x=true)(hy:y.op=x.op→k'=k):M8 k (Bs k' l y).1 x=true:=by
 have hput:∀{l:List Ae} {z:Ae},z∈l→z∈Do l y:=fun hz=>J2.2 (.inl hz)
 rcases hk with rfl|rfl
 ·rw [Ok] at h ⊢
  unfold Bs
  split
  ·exact Tk h
  split
  ·split
   ·exact h
   obtain ⟨z,hz,s⟩:=Fh.1 h;exact Fh.2 ⟨z,hput hz,s⟩
  exact h
 rw [A7t] at h ⊢;unfold Bs
 split
 ·rename_i hk'
  have hne:y.op≠x.op:=fun e=>by have:=hy e;omega
  unfold Ei
  split
  ·exact h
  refine J2.2 (.inl (List.mem_filter.2 ⟨h,?_⟩));unfold Bq
  simp [hne]
 split
 ·split
  ·exact h
  exact hput h
 exact h
theorem A9a {k:Int}{l:List Ae}{x:Ae}(hk:k=5∨k=6):M8 k (Bs k l x).1 x=true:=by
 rcases hk with rfl|rfl
 ·rw [Ok]
  unfold Bs;rw [if_pos B5];exact Xm
 rw [A7t];unfold Bs;rw [if_neg B5,if_pos rfl]
 split
 ·rename_i h;exact R5.1 h
 exact J2.2 (.inr rfl)
theorem Tp {α:Type}(p q:α→Bool):∀(l:List α),(∀x∈l,q x=true→p x=true)→(l.filter q).length≤(l.filter p).length
 | [],_=>Nat.le_refl _
 |x::l,h=>by
  have ih:=Tp p q l fun y hy=>h y (List.mem_cons_of_mem _ hy);have hx:=h x (List.mem_cons_self ..);simp only [List.filter_cons]
  cases hq:q x with
  |true=>rw [hx hq,if_pos rfl,if_pos rfl];simp only [List.length_cons];omega
  |false=>
   rw [if_neg B5]
   split
   ·simp only [List.length_cons];omega
   exact ih
theorem Tq {α:Type}(p q:α→Bool):∀(l:List α),(∀x∈l,q x=true→p x=true)→(∃x∈l,p x=true∧q x=false)→(l.filter q).length+1≤(l.filter p).length
 | [],_,h=>by obtain ⟨x,hx,_⟩:=h;cases hx
 |x::l,h,he=>by
  have ih:=Tq p q l fun y hy=>h y (List.mem_cons_of_mem _ hy);have il:=Tp p q l fun y hy=>h y (List.mem_cons_of_mem _ hy);have hx:=h x (List.mem_cons_self ..);simp only [List.filter_cons];obtain ⟨y,hy,h1,h2⟩:=he
  rcases List.mem_cons.1 hy with rfl|hy
  ·rw [h1,h2,if_pos rfl,if_neg B5]
   simp only [List.length_cons];omega
  have:=ih ⟨y,hy,h1,h2⟩
  cases hq:q x with
  |true=>rw [hx hq,if_pos rfl,if_pos rfl];simp only [List.length_cons];omega
  |false=>
   rw [if_neg B5]
   split
   ·simp only [List.length_cons];omega
   exact this
structure GrF (g:Ah) (a b:Int):Prop where
 ha:1≤a∧a≤3
 hb:0≤b∧b≤3
 len:g.nodes.length=6∨g.nodes.length=7
 n0:(Ac g 0).kind=1∧((Ac g 0).outs=[1]∨((Ac g 0).outs=[1,6]∧g.nodes.length=7))
 n1:((Ac g 1).kind=5∨(Ac g 1).kind=6)∧(Ac g 1).outs=[2,5]
 n2:(Ac g 2).kind=4∧(Ac g 2).a=a∧((Ac g 2).outs=[3]∨(Ac g 2).outs=[3,4])
 n3:(((Ac g 3).kind=2∧(Ac g 3).a=b)∨(Ac g 3).kind=3)∧(Ac g 3).outs=[4]
 n4:((Ac g 4).kind=7∧(Ac g 4).outs=[1])∨((Ac g 4).kind=8∧(Ac g 4).outs=[])
 n5:(Ac g 5).kind=8∧(Ac g 5).outs=[]
 n6:g.nodes.length=7→(Ac g 6).kind=8∧(Ac g 6).outs=[]
theorem B8b {g:Ah}(h:Z9 g.nodes):∃a b,GrF g a b:=by
 obtain ⟨G,a,b,k,hG,ha,hb,hk,hl⟩:=h;refine ⟨a,b,?_⟩;have hK:∀{x:Int},x=6∨x=5→x=5∨x=6:=fun q=>by omega
 rcases hl with hl|hl|hl|hl|hl
 ·refine ⟨ha,hb,by rw [hl];exact .inl rfl,?_,?_,?_,?_,?_,?_,?_⟩<;>unfold Ac<;>rw [hl]
  ·exact ⟨rfl,.inl rfl⟩
  ·exact ⟨hK hG,rfl⟩
  ·exact ⟨rfl,rfl,.inl rfl⟩
  ·exact ⟨.inr rfl,rfl⟩
  ·exact .inl ⟨rfl,rfl⟩
  ·exact ⟨rfl,rfl⟩
  exact fun q=>absurd q (by simp [Zo])
 ·refine ⟨ha,hb,by rw [hl];exact .inl rfl,?_,?_,?_,?_,?_,?_,?_⟩<;>unfold Ac<;>rw [hl]
  ·exact ⟨rfl,.inl rfl⟩
  ·exact ⟨hK hG,rfl⟩
  ·exact ⟨rfl,rfl,.inl rfl⟩
  ·exact ⟨.inl ⟨rfl,rfl⟩,rfl⟩
  ·exact .inr ⟨rfl,rfl⟩
  ·exact ⟨rfl,rfl⟩
  exact fun q=>absurd q C8
 ·refine ⟨ha,hb,by rw [hl];exact .inl rfl,?_,?_,?_,?_,?_,?_,?_⟩<;>unfold Ac<;>rw [hl]
  ·exact ⟨rfl,.inl rfl⟩
  ·exact ⟨hK hG,rfl⟩
  ·exact ⟨rfl,rfl,.inr rfl⟩
  ·exact ⟨.inl ⟨rfl,rfl⟩,rfl⟩
  ·exact .inl ⟨rfl,rfl⟩
  ·exact ⟨rfl,rfl⟩
  exact fun q=>absurd q (by simp [Zo])
 ·refine ⟨ha,hb,by rw [hl];exact .inr rfl,?_,?_,?_,?_,?_,?_,?_⟩<;>unfold Ac<;>rw [hl]
  ·exact ⟨rfl,.inr ⟨rfl,rfl⟩⟩
  ·exact ⟨hK hG,rfl⟩
  ·exact ⟨rfl,rfl,.inl rfl⟩
  ·exact ⟨.inl ⟨rfl,rfl⟩,rfl⟩
  ·exact .inl ⟨rfl,rfl⟩
  ·exact ⟨rfl,rfl⟩
  exact fun _=>⟨rfl,rfl⟩
 refine ⟨ha,hb,by rw [hl];exact .inl rfl,?_,?_,?_,?_,?_,?_,?_⟩<;>unfold Ac<;>rw [hl]
 ·exact ⟨rfl,.inl rfl⟩
 ·exact ⟨hK hG,rfl⟩
 ·exact ⟨rfl,rfl,.inl rfl⟩
 ·exact ⟨.inl ⟨rfl,rfl⟩,rfl⟩
 ·exact .inl ⟨rfl,rfl⟩
 ·exact ⟨rfl,rfl⟩
 exact fun q=>absurd q (by simp [Zo])
def Ui (ins:List Aa):Prop:=ins.length≤5∧∀r∈ins,r.op=0∧r.stamp.turn=0∧(0≤r.stamp.epoch∧r.stamp.epoch≤3)∧(0≤r.key∧r.key≤11)∧(0≤r.val∧r.val≤39)
theorem B5c {xs:List Aa}{e k v:Int}(h:∀r∈xs,r.op=0∧r.stamp.turn=0∧(0≤r.stamp.epoch∧r.stamp.epoch≤3)∧(0≤r.key∧r.key≤11)∧(0≤r.val∧r.val≤39))(he:0≤e∧e≤3)(hk:0≤k∧k≤11)(hv:0≤v∧v≤39):
  ∀r∈xs++[(⟨0,⟨e,0⟩,k,v⟩:Aa)],r.op=0∧r.stamp.turn=0∧(0≤r.stamp.epoch∧r.stamp.epoch≤3)∧(0≤r.key∧r.key≤11)∧(0≤r.val∧r.val≤39):=fun r hr=>by
 rcases List.mem_append.1 hr with hr|hr
 ·exact h r hr
 rw [List.mem_singleton.1 hr];exact ⟨rfl,rfl,he,hk,hv⟩
structure JIn where
 k:Nat
 i:Int
 h:Int
 e:Int
 xs:List Aa
theorem Wp (d:Ey)(i h:Int)(hi:0≤i∧i≤d.n):E3 Tryz.prog HT 48 d.pins (d.cur i h) [] (fun r:Int×Int×List Aa=>(0≤r.1∧r.1≤d.n)∧Ui r.2.2) (fun r=>d.cur r.1 r.2.1) (fun r=>[.one (Af r.2.2)]):=by
 refine Em A0 false Tryz.func48 rfl B5 fun B b hH hp=>?_;conv=>whnf
 refine Es 1 (Af []) rfl (Bu rfl C2) ?_;refine Bk A0 false [6] (fun j:JIn=>[(4,.c (vi j.e)),(5,.c (vi j.k))]) (fun j=>[⟨0,[.c (.val d.v),.c (vi j.i),.c (vi j.h)]⟩]) (fun j=>[⟨1,Af j.xs⟩]) (fun j=>(0≤j.i∧j.i≤d.n)∧j.k≤5∧j.xs.length=j.k∧(0≤j.e∧j.e≤2)∧∀r∈j.xs,r.op=0∧r.stamp.turn=0∧(0≤r.stamp.epoch∧r.stamp.epoch≤3)∧(0≤r.key∧r.key≤11)∧(0≤r.val∧r.val≤39)) (fun j=>5-j.k) (⟨0,i,h,0,[]⟩) (⟨hi,Nat.zero_le _,rfl,⟨Int.le_refl _,(by decide:(0:Int)≤2)⟩,fun r hr=>(List.not_mem_nil hr).elim⟩) ⟨F0,F0,trivial⟩ C2 ⟨Dm,trivial⟩ C1 A6 (fun j hj=>?_);conv=>whnf
 obtain ⟨hi,hk,hx,he,hA⟩:=hj;refine Ay (Au d j.i j.h 6 hi B5) hH hp rfl B0 rfl rfl (fun r hr=>go A0 false ?_);conv=>whnf
 refine Eo (fun hlt=>?_) fun hlt=>?_<;>conv=>whnf
 ·have hlt2:r.2.2<6:=hr.2.2.2 Ad
  refine Ay (Au d r.1 r.2.1 2 hr.1 B5) hH hp rfl B0 rfl rfl (fun r2 hr2=>go A0 false ?_);conv=>whnf
  have hr2b:r2.2.2<2:=hr2.2.2.2 Ad;(repeat refine Ap ?_);refine As (M3 (j.e+r2.2.2) 0 2) rfl (A7 ?_);have hB:=Fe (j.e+r2.2.2) 0 2 B5;refine Ay (Au d r2.1 r2.2.1 12 hr2.1 B5) hH hp rfl B0 rfl rfl (fun r3 hr3=>go A0 false ?_);conv=>whnf
  refine Ay (Au d r3.1 r3.2.1 40 hr3.1 B5) hH hp rfl B0 rfl rfl (fun r4 hr4=>go A0 false ?_);conv=>whnf
  have hk3:=hr3.2.2.2 Ad;have hv4:=hr4.2.2.2 Ad;refine Bj A0 rfl rfl rfl rfl rfl rfl rfl rfl rfl rfl rfl (Af (j.xs++[⟨0,⟨Cx (j.e+r2.2.2) 0 2,0⟩,r3.2.2,r4.2.2⟩])) (An rfl) C6 Ad (A7 ?_);(repeat refine Ap ?_);refine Az [(1,3)] (⟨j.k+1,r4.1,r4.2.1,Cx (j.e+r2.2.2) 0 2,j.xs++[⟨0,⟨Cx (j.e+r2.2.2) 0 2,0⟩,r3.2.2,r4.2.2⟩]⟩) (⟨hr4.1,by show j.k+1≤5;omega,by simp [hx],hB,B5c hA ⟨hB.1,by omega⟩ ⟨hr3.2.1,by omega⟩ ⟨hr4.2.1,by omega⟩⟩) (by show 5-(j.k+1)<_;omega) ⟨rfl,rfl,trivial⟩ ⟨rfl,trivial⟩ C2 A6 C1 A6
 exact C3 A0 (r.1,r.2.1,j.xs) ⟨hr.1,by show j.xs.length≤5;omega,hA⟩ rfl rfl rfl rfl B0
def Uh (a b : Int) (ins : List Aa) (q : Aa) : Prop :=
  ∃ r ∈ ins, ∃ t j : Nat, q.stamp.epoch = r.stamp.epoch ∧ q.stamp.turn = t ∧ t ≤ 6 ∧
    (((q.op = 0 ∨ q.op = 6) ∧ t = 0 ∧ q.key = r.key ∧ q.val = r.val) ∨
     ((q.op = 1 ∨ q.op = 2 ∨ q.op = 5) ∧ q.key = r.key + a * t ∧ q.val = r.val + b * j ∧ j ≤ t) ∨
     (q.op = 3 ∧ q.key = r.key + a * (t + 1) ∧ q.val = r.val + b * j ∧ j ≤ t) ∨
     (q.op = 4 ∧ q.key = r.key + a * (t + 1) ∧ q.val = r.val + b * j ∧ j ≤ t + 1))
def Gh (a b:Int) (ins:List Aa):List Ae:=ins.flatMap fun r=>(List.range 7).flatMap fun (t:Nat)=>(List.range (t+1)).map fun (j:Nat)=>⟨1,r.stamp.epoch,r.key+a * t,r.val+b * j⟩
def qw (op:Int):Nat:=[5,1,11,5,3,1,1].getD op.toNat 0
def pw1 (l:List Aa):Nat:=(l.map fun r=>qw r.op).sum
def U3 (l:List Aa):Nat:=(l.map fun r=>qw r.op+1).sum
theorem A88 {l:List Aa}(h:0<l.length):pw1 (l.drop 1)+qw (l.getD 0 default).op=pw1 l:=by
 cases l with
 |nil=>cases h
 |cons x l=>unfold pw1;simp only [List.drop_succ_cons,List.drop_zero,List.getD_cons_zero,List.map_cons,List.sum_cons];omega
theorem A89 {l:List Aa}(h:0<l.length):U3 (l.drop 1)+(qw (l.getD 0 default).op+1)=U3 l:=by
 cases l with
 |nil=>cases h
 |cons x l=>unfold U3;simp only [List.drop_succ_cons,List.drop_zero,List.getD_cons_zero,List.map_cons,List.sum_cons];omega
theorem Vm (l:List Aa)(r:Aa):pw1 (l++[r])=pw1 l+qw r.op:=by
 unfold pw1;rw [List.map_append,List.sum_append]
 simp
structure C51 (g:Ah) (a b:Int) (ins:List Aa) (cs:List Ae) (r:Aa):Prop where
 der:∀q∈(Cj g cs r).2.1,Uh a b ins q
 pot:U3 (Cj g cs r).2.1+1≤qw r.op+(if r.op=1∧M8 (Ac g 1).kind cs (Co r)=false then 14 else 0)
theorem B5v (g:Ah)(r:Aa):U3 (Hj g r)≤((Ac g r.op).outs.map fun k=>qw k+1).sum:=by
 unfold Hj
 split
 ·exact Nat.zero_le _
 unfold U3;rw [List.map_map];exact Nat.le_refl _
theorem Jx {g:Ah}{r q:Aa}(h:q∈Hj g r):q.op∈(Ac g r.op).outs∧q.stamp.epoch=r.stamp.epoch∧q.key=(B9 (Ac g r.op) r.key r.val).1∧q.val=(B9 (Ac g r.op) r.key r.val).2.1∧
  ((Ac g r.op).kind≠7→q.stamp.turn=r.stamp.turn)∧((Ac g r.op).kind=7→q.stamp.turn=r.stamp.turn+1∧r.stamp.turn<6):=by
 have he:=R3 h;unfold Hj at h
 split at h
 ·cases h
 rename_i hb
 obtain ⟨k,hk,rfl⟩:=List.mem_map.1 h;refine ⟨hk,he,rfl,rfl,fun q=>?_,fun q=>?_⟩
 ·simp only
  rw [if_neg q]
 simp only
 rw [if_pos q]
 have:=Nz (s:=r.stamp) (by
  cases hn:(Ch r.stamp).2 with
  |true=>rfl
  |false=>exact absurd ⟨q,hn⟩ hb)
 rw [this.1];exact ⟨rfl,this.2.2.2⟩
theorem Nd {g:Ah}{cs:List Ae}{r q:Aa}(h:q∈(Cj g cs r).2.1):q∈Hj g r:=by
 unfold Cj at h
 (repeat' split at h)<;>first|exact h|cases h
theorem B2c {g:Ah}{cs:List Ae}{r:Aa}:U3 (Cj g cs r).2.1≤U3 (Hj g r):=by
 unfold Cj
 (repeat' split)<;>first|exact Nat.le_refl _|exact Nat.zero_le _
theorem A94 {g:Ah}{cs:List Ae}{r:Aa}(h:(Bs (Ac g r.op).kind cs (Co r)).2=false):(Cj g cs r).2.1=[]:=by
 unfold Cj
 split
 ·split
  ·rfl
  rename_i hn
  simp only [h,if_true]
 rfl
theorem B9t {a b:Int}{ins:List Aa}{r:Aa}(h:Uh a b ins r):1≤qw r.op∧(r.op=0∨r.op=1∨r.op=2∨r.op=3∨r.op=4∨r.op=5∨r.op=6):=by
 obtain ⟨_,_,t,j,_,_,_,h⟩:=h
 have:r.op=0∨r.op=1∨r.op=2∨r.op=3∨r.op=4∨r.op=5∨r.op=6:=by omega
 refine ⟨?_,this⟩
 rcases this with e|e|e|e|e|e|e<;>rw [e]<;>decide
theorem C07 {a b:Int}{ins:List Aa}(hD:Ui ins)(ha:1≤a∧a≤3)(hb:0≤b∧b≤3){r:Aa}(h:Uh a b ins r):(0≤r.key∧r.key≤32)∧0≤r.val∧r.val≤60:=by
 obtain ⟨x,hx,t,j,_,_,ht,h⟩:=h;obtain ⟨_,_,_,hk,hv⟩:=hD.2 x hx;have ha':a=1∨a=2∨a=3:=by omega
 have hb':b=0∨b=1∨b=2∨b=3:=by omega
 rcases ha' with rfl|rfl|rfl<;>rcases hb' with rfl|rfl|rfl|rfl<;>omega
theorem Ry {g:Ah}{cs:List Ae}{r q:Aa}(h:q∈(Cj g cs r).2.1):q∈Hj g r∧((Ac g r.op).kind=8∨(B9 (Ac g r.op) r.key r.val).2.2=true):=by
 unfold Cj at h
 split at h
 ·split at h
  ·cases h
  rename_i hc
  have hc':(Ac g r.op).kind=8∨(B9 (Ac g r.op) r.key r.val).2.2=true:=by
   by_cases h8:(Ac g r.op).kind=8
   ·exact .inl h8
   cases hb:(B9 (Ac g r.op) r.key r.val).2.2 with
   |true=>exact .inr rfl
   |false=>exact absurd ⟨hb,h8⟩ hc
  split at h
  ·cases h
  exact ⟨h,hc'⟩
 cases h
theorem Pe {x:Bw}{k v:Int}(h2:x.kind≠2)(h4:x.kind≠4):(B9 x k v).1=k∧(B9 x k v).2.1=v:=by
 unfold B9;rw [if_neg h2,if_neg h4]
 (repeat' split)<;>exact ⟨rfl,rfl⟩
theorem A5e {x:Bw}{k v:Int}(h:x.kind=4)(hb:(B9 x k v).2.2=true)(h0:0≤k+x.a)(h1:k+x.a<100):(B9 x k v).1=k+x.a∧(B9 x k v).2.1=v:=by
 unfold B9 at *
 split at hb
 ·rename_i hp
  rw [if_pos hp,if_neg Ad,if_pos h];exact ⟨Int.tmod_eq_of_lt h0 h1,rfl⟩
 cases hb
theorem A7r {x:Bw}{k v:Int}(h:x.kind=2)(hb:(B9 x k v).2.2=true)(h1:v+x.a<999):(B9 x k v).1=k∧(B9 x k v).2.1=v+x.a:=by
 unfold B9 at *
 split at hb
 ·rename_i hp
  rw [if_pos hp,if_pos h,if_pos h1];exact ⟨rfl,rfl⟩
 cases hb
theorem C27 (a:Int)(t:Nat):a * ((t:Int)+1)=a * t+a:=by rw [Int.mul_add,Int.mul_one]
theorem Sd (x:Int)(f:Int→Nat):([x].map f).sum=f x:=by simp
theorem X4 (x y:Int)(f:Int→Nat):([x,y].map f).sum=f x+f y:=by simp
theorem C6b {g:Ah}{a b:Int}{ins:List Aa}{cs:List Ae}{r:Aa}(hF:GrF g a b)(hD:Ui ins)(h:Uh a b ins r)(hl:r.op<g.nodes.length):C51 g a b ins cs r:=by
 have hrg:=C07 hD hF.ha hF.hb h;have hop:=(B9t h).2;obtain ⟨x,hx,t,j,he,htn,ht,hc⟩:=h;have hS:=C27 a t;have hT:=C27 b j;have P:=B2c (g:=g) (cs:=cs) (r:=r);have E:=B5v g r
 rcases hop with o|o|o|o|o|o|o
 ·have n0:=hF.n0
  rw [←o] at n0;refine ⟨fun q hq=>?_,?_⟩
  ·obtain ⟨m1,m2,m3,m4,m5,_⟩:=Jx (Nd hq)
   obtain ⟨c1,c2⟩:=Pe (k:=r.key) (v:=r.val) (x:=Ac g r.op) Ad Ad;have hz:t=0∧r.key=x.key∧r.val=x.val:=by omega
   have m5:=m5 Ad
   have hq1:q.op=1∨q.op=6:=by
    rcases n0.2 with e|⟨e,_⟩<;>rw [e] at m1<;>simp at m1<;>omega
   refine ⟨x,hx,0,0,by omega,by omega,by omega,?_⟩
   rcases hq1 with q1|q1
   ·refine .inr (.inl ⟨.inl q1,?_,?_,Nat.le_refl _⟩)
    ·rw [m3,c1];simp;omega
    rw [m4,c2];simp;omega
   exact .inl ⟨.inr q1,rfl,by omega,by omega⟩
  rw [if_neg Ad]
  have:((Ac g r.op).outs.map fun k=>qw k+1).sum≤4:=by
   rcases n0.2 with e|⟨e,_⟩<;>rw [e]
   ·exact Nat.le_trans (Nat.le_of_eq (Sd 1 _)) B5
   exact Nat.le_trans (Nat.le_of_eq (X4 1 6 _)) B5
  have:qw r.op=5:=by rw [o];rfl
  omega
 ·have n1:=hF.n1
  have hk1:Ac g r.op=Ac g 1:=by rw [o]
  rw [←hk1] at n1;refine ⟨fun q hq=>?_,?_⟩
  ·obtain ⟨m1,m2,m3,m4,m5,_⟩:=Jx (Nd hq)
   obtain ⟨c1,c2⟩:=Pe (k:=r.key) (v:=r.val) (x:=Ac g r.op) Ad Ad;have m5:=m5 Ad;rw [n1.2] at m1;have hq1:q.op=2∨q.op=5:=by simp at m1;omega
   exact ⟨x,hx,t,j,by omega,by omega,ht,.inr (.inl ⟨by omega,by omega,by omega,by omega⟩)⟩
  have:qw r.op=1:=by rw [o];rfl
  by_cases hg:M8 (Ac g 1).kind cs (Co r)=false
  ·rw [if_pos ⟨o,hg⟩]
   have:((Ac g r.op).outs.map fun k=>qw k+1).sum≤14:=by
    rw [n1.2];exact Nat.le_trans (Nat.le_of_eq (X4 2 5 _)) B5
   omega
  rw [if_neg (fun q=>hg q.2)]
  have:(Cj g cs r).2.1=[]:=A94 (by
   unfold M8 at hg;rw [hk1]
   simpa using hg)
  rw [this]
  show 0+1≤_
  omega
 ·have n2:=hF.n2
  rw [←o] at n2;refine ⟨fun q hq=>?_,?_⟩
  ·obtain ⟨hqe,hqc⟩:=Ry hq
   obtain ⟨m1,m2,m3,m4,m5,_⟩:=Jx hqe;have ha:=hF.ha;have hqc:=hqc.resolve_left Ad;obtain ⟨c1,c2⟩:=A5e n2.1 hqc Ad Ad;have m5:=m5 Ad
   have hq1:q.op=3∨q.op=4:=by
    rcases n2.2.2 with e|e<;>rw [e] at m1<;>simp at m1<;>omega
   refine ⟨x,hx,t,j,by omega,by omega,ht,?_⟩
   rcases hq1 with q1|q1
   ·exact .inr (.inr (.inl ⟨q1,by omega,by omega,by omega⟩))
   exact .inr (.inr (.inr ⟨q1,by omega,by omega,by omega⟩))
  rw [if_neg Ad]
  have:((Ac g r.op).outs.map fun k=>qw k+1).sum≤10:=by
   rcases n2.2.2 with e|e<;>rw [e]
   ·exact Nat.le_trans (Nat.le_of_eq (Sd 3 _)) B5
   exact Nat.le_trans (Nat.le_of_eq (X4 3 4 _)) B5
  have:qw r.op=11:=by rw [o];rfl
  omega
 ·have n3:=hF.n3
  rw [←o] at n3;refine ⟨fun q hq=>?_,?_⟩
  ·obtain ⟨hqe,hqc⟩:=Ry hq
   obtain ⟨m1,m2,m3,m4,m5,_⟩:=Jx hqe;have m5:=m5 Ad;rw [n3.2] at m1;have hq1:q.op=4:=by simpa using m1
   have hb:=hF.hb
   rcases n3.1 with ⟨k2,ab⟩|k3
   ·have hqc:=hqc.resolve_left Ad
    obtain ⟨c1,c2⟩:=A7r k2 hqc Ad;refine ⟨x,hx,t,j+1,by omega,by omega,ht,.inr (.inr (.inr ⟨hq1,by omega,?_,by omega⟩))⟩
    show _=x.val+b * ((j:Int)+1)
    omega
   obtain ⟨c1,c2⟩:=Pe (k:=r.key) (v:=r.val) (x:=Ac g r.op) Ad Ad;exact ⟨x,hx,t,j,by omega,by omega,ht,.inr (.inr (.inr ⟨hq1,by omega,by omega,by omega⟩))⟩
  rw [if_neg Ad]
  have:((Ac g r.op).outs.map fun k=>qw k+1).sum≤4:=by
   rw [n3.2];exact Nat.le_trans (Nat.le_of_eq (Sd 4 _)) B5
  have:qw r.op=5:=by rw [o];rfl
  omega
 ·have n4:=hF.n4
  rw [←o] at n4;refine ⟨fun q hq=>?_,?_⟩
  ·obtain ⟨m1,m2,m3,m4,_,m6⟩:=Jx (Nd hq)
   rcases n4 with ⟨k7,e⟩|⟨k8,e⟩
   ·obtain ⟨c1,c2⟩:=Pe (k:=r.key) (v:=r.val) (x:=Ac g r.op) Ad Ad
    obtain ⟨m6,m7⟩:=m6 k7;rw [e] at m1;have hq1:q.op=1:=by simpa using m1
    refine ⟨x,hx,t+1,j,by omega,by omega,by omega,.inr (.inl ⟨.inl hq1,?_,by omega,by omega⟩)⟩
    show _=x.key+a * ((t:Int)+1)
    omega
   rw [e] at m1
   cases m1
  rw [if_neg Ad]
  have:((Ac g r.op).outs.map fun k=>qw k+1).sum≤2:=by
   rcases n4 with ⟨_,e⟩|⟨_,e⟩<;>rw [e]
   ·exact Nat.le_trans (Nat.le_of_eq (Sd 1 _)) B5
   decide
  have:qw r.op=3:=by rw [o];rfl
  omega
 ·have n5:=hF.n5
  rw [←o] at n5;refine ⟨fun q hq=>?_,?_⟩
  ·obtain ⟨m1,_⟩:=Jx (Nd hq)
   rw [n5.2] at m1
   cases m1
  rw [if_neg Ad];rw [n5.2] at E
  have:qw r.op=1:=by rw [o];rfl
  have E:U3 (Hj g r)≤0:=E;omega
 have n6:=hF.n6 (by have:=hF.len;omega);rw [←o] at n6;refine ⟨fun q hq=>?_,?_⟩
 ·obtain ⟨m1,_⟩:=Jx (Nd hq)
  rw [n6.2] at m1
  cases m1
 rw [if_neg Ad];rw [n6.2] at E
 have:qw r.op=1:=by rw [o];rfl
 have E:U3 (Hj g r)≤0:=E;omega
theorem B48 {a b:Int}{ins:List Aa}{r:Aa}(h:Uh a b ins r)(ho:r.op=1):Co r∈Gh a b ins:=by
 obtain ⟨x,hx,t,j,he,htn,ht,hc⟩:=h;have hc:r.key=x.key+a * t∧r.val=x.val+b * j∧j≤t:=by omega
 refine List.mem_flatMap.2 ⟨x,hx,List.mem_flatMap.2 ⟨t,List.mem_range.2 Ad,List.mem_map.2 ⟨j,List.mem_range.2 Ad,?_⟩⟩⟩;unfold Co;rw [ho,he,hc.1,hc.2.1]
structure Lq (g:Ah) (a b:Int) (ins:List Aa) (c:A3):Prop where
 gr:c.graph=g
 q:∀i,i<c.workers.length→∀r∈(wk c i).queue,Uh a b ins r∧Bn r.key g.workers=i
 s:∀i,i<c.workers.length→∀r∈(wk c i).staged,Uh a b ins r
 n:∀i,i<c.workers.length→∀r∈(wk c i).inputs,Uh a b ins r∧Bn r.key g.workers=i
 l:∀j,j<c.links.length→∀r∈(c.links.getD j default).queue,Uh a b ins r∧Bn r.key g.workers=(j:Int).tmod g.workers
def Kl (w:Ab):Nat:=pw1 w.queue+U3 w.staged+U3 w.inputs
def Q4 (l:Ca):Nat:=pw1 l.queue
def A0a (c:A3) (x:Ae):Bool:=M8 (Ac c.graph 1).kind (wk c (Bn x.key c.graph.workers).toNat).cells x
def Mg (c:A3) (S:List Ae):Nat:=(S.filter fun x=>!A0a c x).length
def pot (S:List Ae) (c:A3):Nat:=(c.workers.map Kl).sum+(c.links.map Q4).sum+14 * Mg c S
theorem Lq.set {g:Ah}{a b:Int}{ins:List Aa}{c:A3}{w:Int}{v:Ab}(h:Lq g a b ins c)(hq:∀r∈v.queue,Uh a b ins r∧Bn r.key g.workers=w.toNat)(hs:∀r∈v.staged,Uh a b ins r)
  (hn:∀r∈v.inputs,Uh a b ins r∧Bn r.key g.workers=w.toNat):Lq g a b ins (Av c w v):=by
 have hws:∀i,i<(Av c w v).workers.length→(wk (Av c w v) i=wk c i∧i<c.workers.length)∨(i=w.toNat∧wk (Av c w v) i=v):=fun i hi=>by
  simp only [Av,List.length_set] at hi;unfold wk Av
  simp only
  rw [Ep]
  split
  ·rename_i e;exact .inr ⟨e.1,rfl⟩
  exact .inl ⟨rfl,hi⟩
 refine ⟨h.gr,fun i hi r hr=>?_,fun i hi r hr=>?_,fun i hi r hr=>?_,h.l⟩
 ·rcases hws i hi with ⟨e,hi'⟩|⟨e0,e⟩
  ·rw [e] at hr;exact h.q i hi' r hr
  rw [e] at hr;rw [e0];exact hq r hr
 ·rcases hws i hi with ⟨e,hi'⟩|⟨e0,e⟩
  ·rw [e] at hr;exact h.s i hi' r hr
  rw [e] at hr;exact hs r hr
 rcases hws i hi with ⟨e,hi'⟩|⟨e0,e⟩
 ·rw [e] at hr;exact h.n i hi' r hr
 rw [e] at hr;rw [e0];exact hn r hr
theorem Lq.lnk {g:Ah}{a b:Int}{ins:List Aa}{c:A3}{k:Int}{l:Ca}(h:Lq g a b ins c)(hl:∀r∈l.queue,Uh a b ins r∧Bn r.key g.workers=(k.toNat:Int).tmod g.workers):Lq g a b ins (Bi c k l):=by
 refine ⟨h.gr,h.q,h.s,h.n,fun j hj r hr=>?_⟩;simp only [Bi,List.length_set] at hj;unfold Bi at hr
 simp only at hr
 rw [Ep] at hr
 split at hr
 ·rename_i e;rw [e.1];exact hl r hr
 exact h.l j hj r hr
theorem Lq.same {g:Ah}{a b:Int}{ins:List Aa}{c c':A3}(h:Lq g a b ins c)(hg:c'.graph=c.graph)(hl:c'.links=c.links)(hn:c'.workers.length=c.workers.length)(hw:∀i,(wk c' i).queue=(wk c i).queue∧(wk c' i).staged=(wk c i).staged∧(wk c' i).inputs=(wk c i).inputs):Lq g a b ins c':=by
 refine ⟨by rw [hg];exact h.gr,fun i hi r hr=>?_,fun i hi r hr=>?_,fun i hi r hr=>?_,fun j hj r hr=>?_⟩
 ·rw [(hw i).1] at hr;exact h.q i Ad r hr
 ·rw [(hw i).2.1] at hr;exact h.s i Ad r hr
 ·rw [(hw i).2.2] at hr;exact h.n i Ad r hr
 rw [hl] at hr hj;exact h.l j hj r hr
def Mt (c c':A3):Prop:=c'.graph=c.graph∧c'.links=c.links∧c'.workers.length=c.workers.length∧∀i,(wk c' i).queue=(wk c i).queue∧(wk c' i).staged=(wk c i).staged∧(wk c' i).inputs=(wk c i).inputs∧(wk c' i).cells=(wk c i).cells
theorem Mt.refl (c:A3):Mt c c:=⟨rfl,rfl,rfl,fun _=>⟨rfl,rfl,rfl,rfl⟩⟩
theorem Mt.set {c:A3}{w:Int}{v:Ab}(h:v.queue=(A8 c w).queue∧v.staged=(A8 c w).staged∧v.inputs=(A8 c w).inputs∧v.cells=(A8 c w).cells):Mt c (Av c w v):=by
 refine ⟨rfl,rfl,by simp only [Av,List.length_set],fun i=>?_⟩;unfold wk Av
 simp only
 rw [Ep]
 split
 ·rename_i e
  unfold A8 at h;rw [←e.1] at h;exact h
 exact ⟨rfl,rfl,rfl,rfl⟩
theorem U7 (c:A3)(e:Int):Mt c (Ci c e).1:=by
 unfold Ci
 dsimp only
 split
 ·split
  ·exact Mt.set (c:=De c _ _) ⟨rfl,rfl,rfl,rfl⟩
  split
  ·split
   ·exact Mt.set (c:=De c _ _) ⟨rfl,rfl,rfl,rfl⟩
   exact Mt.refl c
  rename_i hT _ hA
  unfold Gw
  split
  ·have h0:(A9 c e).at_.toNat=(0:Int).toNat:=by
    have:¬ (A9 c e).at_>0:=hA
    have h00:(0:Int).toNat=0:=rfl;omega
   have hw:A8 (De c e ⟨false,(A9 c e).at_,(A9 c e).sum,(A9 c e).black,(A9 c e).capped⟩) 0=A8 c (A9 c e).at_:=by
    unfold A8;rw [h0];rfl
   exact Mt.set (c:=De c _ _) (by rw [hw];exact ⟨rfl,rfl,rfl,rfl⟩)
  exact Mt.refl c
 exact Mt.refl c
theorem Xb (c:A3)(w:Int):Mt c (Dj c w).1:=by
 unfold Dj
 split
 ·split
  ·exact Mt.refl c
  exact Mt.set (c:=Jd c _) ⟨rfl,rfl,rfl,rfl⟩
 exact Mt.refl c
theorem B8y {α:Type} [Inhabited α] (f:α→Nat){l l':List α}(hl:l'.length=l.length)(h:∀i,i<l.length→f (l'.getD i default)=f (l.getD i default)):l'.map f=l.map f:=by
 refine List.ext_getElem (by simpa using hl) fun i h1 h2=>?_;simp only [List.length_map] at h1 h2
 have:=h i h2
 simp only [List.getD,List.getElem?_eq_getElem h1,List.getElem?_eq_getElem h2,Option.getD_some] at this
 simpa using this
theorem Mt.potS {c c':A3}(h:Mt c c')(S:List Ae):pot S c'=pot S c:=by
 obtain ⟨h1,h2,h3,h4⟩:=h
 have e1:c'.workers.map Kl=c.workers.map Kl:=B8y Kl h3 fun i _=>by
  obtain ⟨a1,a2,a3,_⟩:=h4 i
  show Kl (wk c' i)=Kl (wk c i)
  unfold Kl;rw [a1,a2,a3]
 have e2:Mg c' S=Mg c S:=by
  unfold Mg
  congr 1
  refine List.filter_congr fun x _=>?_;unfold A0a;rw [h1,(h4 _).2.2.2]
 unfold pot;rw [e1,e2,h2]
theorem Mt.der {g:Ah}{a b:Int}{ins:List Aa}{c c':A3}(h:Mt c c')(hD:Lq g a b ins c):Lq g a b ins c':=hD.same h.1 h.2.1 h.2.2.1 fun i=>⟨(h.2.2.2 i).1,(h.2.2.2 i).2.1,(h.2.2.2 i).2.2.1⟩
theorem A0b {c:A3}{w:Int}{v:Ab}(x:Ae):A0a (Av c w v) x=if (Bn x.key c.graph.workers).toNat=w.toNat∧w.toNat<c.workers.length then M8 (Ac c.graph 1).kind v.cells x else A0a c x:=by
 unfold A0a
 show M8 _ (wk (Av c w v) (Bn x.key c.graph.workers).toNat).cells x=_
 unfold wk Av
 simp only
 rw [Ep]
 split<;>rfl
theorem P1 {c:A3}{w:Int}{v:Ab}{S:List Ae}(h:∀x∈S,M8 (Ac c.graph 1).kind (A8 c w).cells x=true→M8 (Ac c.graph 1).kind v.cells x=true):Mg (Av c w v) S≤Mg c S:=by
 unfold Mg;refine Tp _ _ _ fun x hx hq=>?_;rw [A0b] at hq
 split at hq
 ·rename_i e
  cases hc:A0a c x with
  |false=>rfl
  |true=>
   unfold A0a at hc;rw [e.1] at hc;rw [h x hx hc] at hq
   cases hq
 exact hq
theorem B2h {c:A3}{w:Int}{v:Ab}{S:List Ae}{y:Ae}(h:∀x∈S,M8 (Ac c.graph 1).kind (A8 c w).cells x=true→M8 (Ac c.graph 1).kind v.cells x=true)(hy:y∈S)(hw:(Bn y.key c.graph.workers).toNat=w.toNat∧w.toNat<c.workers.length)
  (h1:M8 (Ac c.graph 1).kind (A8 c w).cells y=false)(h2:M8 (Ac c.graph 1).kind v.cells y=true):Mg (Av c w v) S+1≤Mg c S:=by
 unfold Mg;refine Tq _ _ _ (fun x hx hq=>?_) ⟨y,hy,?_,?_⟩
 ·rw [A0b] at hq
  split at hq
  ·rename_i e
   cases hc:A0a c x with
   |false=>rfl
   |true=>
    unfold A0a at hc;rw [e.1] at hc;rw [h x hx hc] at hq
    cases hq
  exact hq
 ·have:A0a c y=false:=by
   unfold A0a;rw [hw.1];exact h1
  rw [this];rfl
 rw [A0b,if_pos hw,h2];rfl
theorem Rj {c:A3}{w:Int}{v:Ab}{S:List Ae}(h:0≤w∧w<c.workers.length):pot S (Av c w v)+Kl (A8 c w)+14 * Mg c S=pot S c+Kl v+14 * Mg (Av c w v) S:=by
 have:=Sm Kl c.workers w.toNat v Ad
 have e:Kl (A8 c w)=Kl (c.workers.getD w.toNat default):=rfl;have e1:pot S (Av c w v)=((c.workers.set w.toNat v).map Kl).sum+(c.links.map Q4).sum+14 * Mg (Av c w v) S:=rfl;have e2:pot S c=(c.workers.map Kl).sum+(c.links.map Q4).sum+14 * Mg c S:=rfl;omega
theorem A1w {c:A3}{k:Int}{l:Ca}{S:List Ae}(h:0≤k∧k<c.links.length):pot S (Bi c k l)+Q4 (Ba c k)=pot S c+Q4 l:=by
 have:=Sm Q4 c.links k.toNat l Ad
 have e:Q4 (Ba c k)=Q4 (c.links.getD k.toNat default):=rfl;have e1:pot S (Bi c k l)=(c.workers.map Kl).sum+((c.links.set k.toNat l).map Q4).sum+14 * Mg c S:=rfl;have e2:pot S c=(c.workers.map Kl).sum+(c.links.map Q4).sum+14 * Mg c S:=rfl;omega
theorem Ks {g:Ah}{cs:List Ae}{r:Aa}:(Cj g cs r).1=cs∨(Cj g cs r).1=(Bs (Ac g r.op).kind cs (Co r)).1:=by
 unfold Cj
 (repeat' split)<;>first|exact .inl rfl|exact .inr rfl
theorem A93 {g:Ah}{cs:List Ae}{r:Aa}(h:Kb g r)(hk:(Ac g r.op).kind=5∨(Ac g r.op).kind=6):(Cj g cs r).1=(Bs (Ac g r.op).kind cs (Co r)).1:=by
 have hc:(B9 (Ac g r.op) r.key r.val).2.2=true:=by
  unfold B9;rw [if_pos ⟨(K1 h.1 h.2.1.1.1 h.2.2).1,h.2.1.2.2.2⟩,if_neg Ad,if_neg Ad,if_neg Ad];simp only [bne_iff_ne,ne_eq];omega
 unfold Cj;rw [if_pos h,if_neg (by rw [hc];exact fun q=>Bool.noConfusion q.1)]
 split<;>rfl
theorem B79 {a b:Int}{ins:List Aa}{x:Ae}(h:x∈Gh a b ins):x.op=1:=by
 simp only [Gh,List.mem_flatMap,List.mem_map] at h;obtain ⟨_,_,_,_,_,_,rfl⟩:=h;rfl
theorem B5u {w:Ab}(h:0<w.queue.length):pw1 (w.queue.drop 1)+qw (w.queue.getD 0 default).op=pw1 w.queue:=A88 h
theorem B9p {g:Ah}{a b:Int}{ins:List Aa}{c:A3}{p:D7}(hF:GrF g a b)(hI:Ui ins)(hC:B7 c)(hD:Lq g a b ins c):
  Lq g a b ins (Aq c p).1∧pot (Gh a b ins) (Aq c p).1≤pot (Gh a b ins) c∧((p.kind=1∨p.kind=2∨p.kind=3)→(Aq c p).2=true→pot (Gh a b ins) (Aq c p).1+1≤pot (Gh a b ins) c):=by
 have hg:=hD.gr
 have idle:∀{d:A3×Bool},d=(c,false)→Lq g a b ins d.1∧pot (Gh a b ins) d.1≤pot (Gh a b ins) c∧((p.kind=1∨p.kind=2∨p.kind=3)→d.2=true→pot (Gh a b ins) d.1+1≤pot (Gh a b ins) c):=fun e=>by
  rw [e];exact ⟨hD,Nat.le_refl _,fun _ q=>Bool.noConfusion q⟩
 have strict:∀{d:A3×Bool},Lq g a b ins d.1→pot (Gh a b ins) d.1+1≤pot (Gh a b ins) c→Lq g a b ins d.1∧pot (Gh a b ins) d.1≤pot (Gh a b ins) c∧((p.kind=1∨p.kind=2∨p.kind=3)→d.2=true→pot (Gh a b ins) d.1+1≤pot (Gh a b ins) c):=fun h1 h2=>⟨h1,by omega,fun _ _=>h2⟩
 by_cases k1:p.kind=1
 ·have e0:Aq c p=Dk c p.a:=by unfold Aq;rw [if_pos k1]
  rw [e0];unfold Dk
  split
  ·rename_i hW
   unfold Fi
   split
   ·rename_i hP
    have hi:p.a.toNat<c.workers.length:=by have:=hW.2;omega
    obtain ⟨_,hwp,hst,hql⟩:=hP;have hrq:=hD.q p.a.toNat hi _ (At (d:=default) hql);have hro:=hwp.1.1 _ (At (d:=default) hql);generalize hr:(A8 c p.a).queue.getD 0 default=r at *;have hr':(wk c p.a.toNat).queue.getD 0 default=r:=hr;rw [hr'] at hrq;have hO:=C6b (cs:=(A8 c p.a).cells) hF hI hrq.1 (by rw [←hg];exact hro.2);have hSP:Kb g r:=⟨by rw [←hg];exact hC.1.1,hro.1,by rw [←hg];exact hro.2⟩
    have hwk:F9 c.graph (A8 c p.a)=⟨(A8 c p.a).queue.drop 1,(Cj g (A8 c p.a).cells r).2.1,(A8 c p.a).inputs,(Cj g (A8 c p.a).cells r).1,(A8 c p.a).sums,(A8 c p.a).black,if capped g r=true then (A8 c p.a).caps.set r.stamp.epoch.toNat true else (A8 c p.a).caps,(A8 c p.a).dones⟩:=by
     unfold F9;rw [hr,hg]
    refine strict ?_ ?_
    ·rw [hwk]
     exact hD.set (fun q hq=>hD.q _ hi q (J1 hq)) (fun q hq=>hO.der q hq) (fun q hq=>hD.n _ hi q hq)
    have hk1:(Ac g 1).kind=5∨(Ac g 1).kind=6:=hF.n1.1
    have hmono:∀x∈Gh a b ins,M8 (Ac c.graph 1).kind (A8 c p.a).cells x=true→M8 (Ac c.graph 1).kind (F9 c.graph (A8 c p.a)).cells x=true:=fun x hx hc=>by
     rw [hwk,hg] at *
     simp only
     rcases Ks (g:=g) (cs:=(A8 c p.a).cells) (r:=r) with e|e
     ·rw [e];exact hc
     rw [e]
     exact B1q hk1 hc fun q=>by
      have:r.op=1:=by rw [←B79 hx];exact q
      rw [this]
    have hps:=Rj (S:=Gh a b ins) (v:=F9 c.graph (A8 c p.a)) hW.2;have hpv:Kl (F9 c.graph (A8 c p.a))=pw1 ((A8 c p.a).queue.drop 1)+U3 (Cj g (A8 c p.a).cells r).2.1+U3 (A8 c p.a).inputs:=by rw [hwk];rfl
    have hpo:Kl (A8 c p.a)=pw1 (A8 c p.a).queue+0+U3 (A8 c p.a).inputs:=by
     have:(A8 c p.a).staged=[]:=List.eq_nil_of_length_eq_zero hst
     unfold Kl;rw [this];rfl
    have hdq:=B5u hql;rw [hr] at hdq;have hOp:=hO.pot;have hpo2:1≤qw r.op:=(B9t hrq.1).1
    by_cases hgt:r.op=1∧M8 (Ac g 1).kind (A8 c p.a).cells (Co r)=false
    ·rw [if_pos hgt] at hOp
     have hun:=B2h (v:=F9 c.graph (A8 c p.a)) (S:=Gh a b ins) (y:=Co r) hmono (B48 hrq.1 hgt.1) ⟨by
      have:(Co r).key=r.key:=rfl
      rw [this,hg,hrq.2]
      rfl,hi⟩ (by rw [hg];exact hgt.2) (by
      rw [hwk,hg]
      simp only
      rw [A93 hSP (by rw [hgt.1];exact hk1),hgt.1]
      exact A9a hk1)
     simp only
     omega
    rw [if_neg hgt] at hOp;have hun:=P1 (v:=F9 c.graph (A8 c p.a)) (S:=Gh a b ins) hmono
    simp only
    omega
   exact idle (Prod.ext (K4 c p.a) rfl)
  exact idle rfl
 by_cases k2:p.kind=2
 ·have e0:Aq c p=D9 c p.a:=by unfold Aq;rw [if_neg k1,if_pos k2]
  rw [e0];unfold D9
  split
  ·rename_i hW
   unfold Df
   split
   ·rename_i hP
    have hi:p.a.toNat<c.workers.length:=by have:=hW.2;omega
    obtain ⟨_,hwp,hst,hql,hil⟩:=hP;have hrn:=hD.n p.a.toNat hi _ (At (d:=default) hil);refine strict ?_ ?_
    ·refine hD.set (fun q hq=>?_) (fun q hq=>hD.s _ hi q hq) (fun q hq=>hD.n _ hi q (J1 hq))
     rcases List.mem_append.1 hq with hq|hq
     ·exact hD.q _ hi q hq
     rw [List.mem_singleton.1 hq];exact hrn
    have hps:=Rj (S:=Gh a b ins) (v:=I7 (A8 c p.a)) hW.2;have hun:=P1 (c:=c) (w:=p.a) (v:=I7 (A8 c p.a)) (S:=Gh a b ins) fun x _ hc=>hc
    have hpv:Kl (I7 (A8 c p.a))=pw1 ((A8 c p.a).queue++[(A8 c p.a).inputs.getD 0 default])+U3 (A8 c p.a).staged+U3 ((A8 c p.a).inputs.drop 1):=rfl;have hpo:Kl (A8 c p.a)=pw1 (A8 c p.a).queue+U3 (A8 c p.a).staged+U3 (A8 c p.a).inputs:=rfl;rw [Vm] at hpv
    have:=A89 hil
    simp only
    omega
   exact idle (Prod.ext (K4 c p.a) rfl)
  exact idle rfl
 by_cases k3:p.kind=3
 ·have e0:Aq c p=C7 c p.a:=by unfold Aq;rw [if_neg k1,if_neg k2,if_pos k3]
  rw [e0];unfold C7
  split
  ·rename_i hM
   obtain ⟨hW,hs⟩:=hM;have hi:p.a.toNat<c.workers.length:=by have:=hW.2;omega
   have hfs:Uh a b ins (B1 c p.a):=hD.s p.a.toNat hi _ (At (d:=default) hs);have hfr:=N1 hW hs;have hown:=Q1 hfr.1.2.2.2.1.1 hC.1.1.2.1.1;have hdr:=A89 hs;have hfe:(A8 c p.a).staged.getD 0 default=B1 c p.a:=rfl;rw [hfe] at hdr
   split
   ·rename_i hself
    have hself':Bn (B1 c p.a).key c.graph.workers=p.a:=hself;refine strict ?_ ?_
    ·refine hD.set (fun q hq=>?_) (fun q hq=>hD.s _ hi q (J1 hq)) (fun q hq=>hD.n _ hi q hq)
     rcases List.mem_append.1 hq with hq|hq
     ·exact hD.q _ hi q hq
     rw [List.mem_singleton.1 hq];exact ⟨hfs,by rw [←hg];omega⟩
    have hps:=Rj (S:=Gh a b ins) (v:=kept (Cd (A8 c p.a)) (B1 c p.a)) hW.2;have hun:=P1 (c:=c) (w:=p.a) (v:=kept (Cd (A8 c p.a)) (B1 c p.a)) (S:=Gh a b ins) fun x _ hc=>hc
    have hpv:Kl (kept (Cd (A8 c p.a)) (B1 c p.a))=pw1 ((A8 c p.a).queue++[B1 c p.a])+U3 ((A8 c p.a).staged.drop 1)+U3 (A8 c p.a).inputs:=rfl;have hpo:Kl (A8 c p.a)=pw1 (A8 c p.a).queue+U3 (A8 c p.a).staged+U3 (A8 c p.a).inputs:=rfl;rw [Vm] at hpv
    simp only
    omega
   rename_i hne
   split
   ·rename_i hsend
    have hb:0≤p.a∧p.a<c.graph.workers:=by have:=hC.1.2.1;exact ⟨hW.2.1,by have:=hW.2.2;omega⟩
    obtain ⟨hk,_,hkt⟩:=Ge hC hb (Ox hW hs)
    have hq:(Cf (Ba c (Ao c p.a (B8 c p.a))) (B1 c p.a)).1.queue=(Ba c (Ao c p.a (B8 c p.a))).queue++[B1 c p.a]:=by
     unfold Cf at hsend ⊢
     split at hsend
     ·rename_i hp;rw [if_pos hp]
     cases hsend
    have hsa:(E5 (Cd (A8 c p.a)) (B1 c p.a).stamp.epoch).queue=(A8 c p.a).queue∧(E5 (Cd (A8 c p.a)) (B1 c p.a).stamp.epoch).staged=(A8 c p.a).staged.drop 1∧(E5 (Cd (A8 c p.a)) (B1 c p.a).stamp.epoch).inputs=(A8 c p.a).inputs∧(E5 (Cd (A8 c p.a)) (B1 c p.a).stamp.epoch).cells=(A8 c p.a).cells:=by
     unfold E5
     split<;>exact ⟨rfl,rfl,rfl,rfl⟩
    refine strict ?_ ?_
    ·have hl:=hD.lnk (k:=Ao c p.a (B8 c p.a)) (l:=(Cf (Ba c (Ao c p.a (B8 c p.a))) (B1 c p.a)).1) (fun q hq'=>by
      rw [hq] at hq'
      rcases List.mem_append.1 hq' with hq'|hq'
      ·exact hD.l _ Ad q hq'
      rw [List.mem_singleton.1 hq',←hg,hkt]
      exact ⟨hfs,rfl⟩)
     refine hl.set (fun q hq'=>?_) (fun q hq'=>?_) (fun q hq'=>?_)
     ·rw [hsa.1] at hq';exact hD.q _ hi q hq'
     ·rw [hsa.2.1] at hq';exact hD.s _ hi q (J1 hq')
     rw [hsa.2.2.1] at hq';exact hD.n _ hi q hq'
    have hpl:=A1w (S:=Gh a b ins) (l:=(Cf (Ba c (Ao c p.a (B8 c p.a))) (B1 c p.a)).1) hk;have hps:=Rj (c:=Bi c (Ao c p.a (B8 c p.a)) (Cf (Ba c (Ao c p.a (B8 c p.a))) (B1 c p.a)).1) (S:=Gh a b ins) (v:=E5 (Cd (A8 c p.a)) (B1 c p.a).stamp.epoch) hW.2;have hun:=P1 (c:=Bi c (Ao c p.a (B8 c p.a)) (Cf (Ba c (Ao c p.a (B8 c p.a))) (B1 c p.a)).1) (w:=p.a) (v:=E5 (Cd (A8 c p.a)) (B1 c p.a).stamp.epoch) (S:=Gh a b ins) fun x _ hc=>by rw [hsa.2.2.2];exact hc
    have hpv:Kl (E5 (Cd (A8 c p.a)) (B1 c p.a).stamp.epoch)=pw1 (A8 c p.a).queue+U3 ((A8 c p.a).staged.drop 1)+U3 (A8 c p.a).inputs:=by
     unfold Kl;rw [hsa.1,hsa.2.1,hsa.2.2.1]
    have hpo:Kl (A8 (Bi c (Ao c p.a (B8 c p.a)) (Cf (Ba c (Ao c p.a (B8 c p.a))) (B1 c p.a)).1) p.a)=pw1 (A8 c p.a).queue+U3 (A8 c p.a).staged+U3 (A8 c p.a).inputs:=rfl
    have hpq:Q4 (Cf (Ba c (Ao c p.a (B8 c p.a))) (B1 c p.a)).1=Q4 (Ba c (Ao c p.a (B8 c p.a)))+qw (B1 c p.a).op:=by
     unfold Q4;rw [hq,Vm]
    simp only
    omega
   exact idle rfl
  exact idle rfl
 by_cases k4:p.kind=4
 ·have e0:Aq c p=Ct c p.a p.b:=by unfold Aq;rw [if_neg k1,if_neg k2,if_neg k3,if_pos k4]
  rw [e0];unfold Ct
  split
  ·rename_i hm
   obtain ⟨hL,htk⟩:=hm;obtain ⟨hkb,_,hkt⟩:=Ge hC hL.2.2.1 hL.2.2.2;have ht:0≤p.b∧p.b<c.workers.length:=by have:=hC.1.2.1;have:=hL.2.2.2;omega
   have hi:p.b.toNat<c.workers.length:=by omega
   have hq:(Bc (Ba c (Ao c p.a p.b))).1.queue=(Ba c (Ao c p.a p.b)).queue.drop 1∧(Bc (Ba c (Ao c p.a p.b))).2.1=(Ba c (Ao c p.a p.b)).queue.getD 0 default∧0<(Ba c (Ao c p.a p.b)).queue.length:=by
    unfold Bc at htk ⊢
    split at htk
    ·rename_i hp;rw [if_pos hp];exact ⟨rfl,rfl,hp.2⟩
    cases htk
   have hrl:=hD.l (Ao c p.a p.b).toNat Ad _ (At (d:=default) hq.2.2);have hre:(Bc (Ba c (Ao c p.a p.b))).2.1=(c.links.getD (Ao c p.a p.b).toNat default).queue.getD 0 default:=hq.2.1
   have hrc:(D0 (A8 c p.b) (Bc (Ba c (Ao c p.a p.b))).2.1).queue=(A8 c p.b).queue++[(Bc (Ba c (Ao c p.a p.b))).2.1]∧(D0 (A8 c p.b) (Bc (Ba c (Ao c p.a p.b))).2.1).staged=(A8 c p.b).staged∧(D0 (A8 c p.b) (Bc (Ba c (Ao c p.a p.b))).2.1).inputs=(A8 c p.b).inputs∧(D0 (A8 c p.b) (Bc (Ba c (Ao c p.a p.b))).2.1).cells=(A8 c p.b).cells:=by
    unfold D0
    split<;>exact ⟨rfl,rfl,rfl,rfl⟩
   refine ⟨?_,?_,fun hk _=>by omega⟩
   ·have hl:=hD.lnk (k:=Ao c p.a p.b) (l:=(Bc (Ba c (Ao c p.a p.b))).1) (fun q hq'=>by
     rw [hq.1] at hq'
     exact hD.l _ Ad q (J1 hq'))
    refine hl.set (fun q hq'=>?_) (fun q hq'=>?_) (fun q hq'=>?_)
    ·rw [hrc.1] at hq'
     rcases List.mem_append.1 hq' with hq'|hq'
     ·exact hD.q _ hi q hq'
     rw [List.mem_singleton.1 hq',hre];refine ⟨hrl.1,?_⟩;rw [hrl.2,←hg,hkt];omega
    ·rw [hrc.2.1] at hq';exact hD.s _ hi q hq'
    rw [hrc.2.2.1] at hq';exact hD.n _ hi q hq'
   have hpl:=A1w (S:=Gh a b ins) (l:=(Bc (Ba c (Ao c p.a p.b))).1) hkb;have hps:=Rj (c:=Bi c (Ao c p.a p.b) (Bc (Ba c (Ao c p.a p.b))).1) (S:=Gh a b ins) (v:=D0 (A8 c p.b) (Bc (Ba c (Ao c p.a p.b))).2.1) ht;have hun:=P1 (c:=Bi c (Ao c p.a p.b) (Bc (Ba c (Ao c p.a p.b))).1) (w:=p.b) (v:=D0 (A8 c p.b) (Bc (Ba c (Ao c p.a p.b))).2.1) (S:=Gh a b ins) fun x _ hc=>by rw [hrc.2.2.2];exact hc
   have hpv:Kl (D0 (A8 c p.b) (Bc (Ba c (Ao c p.a p.b))).2.1)=pw1 (A8 c p.b).queue+qw (Bc (Ba c (Ao c p.a p.b))).2.1.op+U3 (A8 c p.b).staged+U3 (A8 c p.b).inputs:=by
    unfold Kl;rw [hrc.1,hrc.2.1,hrc.2.2.1,Vm]
   have hpo:Kl (A8 (Bi c (Ao c p.a p.b) (Bc (Ba c (Ao c p.a p.b))).1) p.b)=pw1 (A8 c p.b).queue+U3 (A8 c p.b).staged+U3 (A8 c p.b).inputs:=rfl
   have hpq:Q4 (Bc (Ba c (Ao c p.a p.b))).1+qw (Bc (Ba c (Ao c p.a p.b))).2.1.op=Q4 (Ba c (Ao c p.a p.b)):=by
    unfold Q4;rw [hq.1,hq.2.1];exact A88 hq.2.2
   simp only
   omega
  exact idle rfl
 by_cases k5:p.kind=5
 ·have e0:Aq c p=D4 c p.a p.b:=by unfold Aq;rw [if_neg k1,if_neg k2,if_neg k3,if_neg k4,if_pos k5]
  rw [e0];unfold D4
  split
  ·rename_i hL
   have hkb:=(Ge hC hL.2.2.1 hL.2.2.2).1
   have hq:(Ce (Ba c (Ao c p.a p.b))).1.queue=(Ba c (Ao c p.a p.b)).queue:=by
    unfold Ce
    split<;>rfl
   refine ⟨hD.lnk fun q hq'=>by rw [hq] at hq';exact hD.l _ Ad q hq',?_,fun hk _=>by omega⟩
   have hpl:=A1w (S:=Gh a b ins) (l:=(Ce (Ba c (Ao c p.a p.b))).1) hkb
   have:Q4 (Ce (Ba c (Ao c p.a p.b))).1=Q4 (Ba c (Ao c p.a p.b)):=by unfold Q4;rw [hq]
   simp only
   omega
  exact idle rfl
 have rest:Mt c (Aq c p).1:=by
  unfold Aq;rw [if_neg k1,if_neg k2,if_neg k3,if_neg k4,if_neg k5]
  split
  ·exact U7 c p.a
  split
  ·exact Xb c p.a
  exact Mt.refl c
 exact ⟨rest.der hD,Nat.le_of_eq (rest.potS _),fun hk _=>by omega⟩
structure C5q (c:A3):Prop where
 ov:∀e:Int,0≤e→e≤3→C52 c e
 dn:∀e:Int,0≤e→e≤3→∀i,i<c.workers.length→Cv (wk c i) e=true
 bk:∀f t:Int,L0 c f t→(Ba c (Ao c f t)).back=0
theorem Vd {s:Fo}(h:I2 s=false):Ch s=(s,false):=by
 unfold Ch;rw [if_neg (fun p=>by rw [p.1] at h;cases h)]
theorem Ve {s:Fo}(h:¬ s.turn<6):Ch s=(s,false):=by
 unfold Ch;rw [if_neg (fun p=>h p.2)]
theorem Vf {s:Fo}(h1:I2 s=true)(h2:s.turn<6):Ch s=(⟨s.epoch,s.turn+1⟩,true):=by
 unfold Ch;rw [if_pos ⟨h1,h2⟩]
theorem A90 {s:Fo}(h:I2 s=true):(0≤s.epoch∧s.epoch≤3)∧0≤s.turn∧s.turn≤6:=of_decide_eq_true h
theorem Vx (s:Fo):B3 Tryz.prog 212 [.agg s.c] [.agg (Ch s).1.c,.one (vb (Ch s).2)]:=by
 refine Aw A0 false Tryz.func212 rfl B5 fun W=>?_;conv=>whnf
 refine As (Ye s) rfl (A7 ?_);refine ⟨fun h1=>?_,fun h1=>?_⟩<;>conv=>whnf
 ·have h1:I2 s=false:=by simpa using h1
  repeat refine B2 ?_
  rw [Vd h1];refine Am A0 rfl rfl ?_;exact B0
 have h1:I2 s=true:=by simpa using h1
 have hb:=A90 h1
 repeat refine B2 ?_
 refine ⟨fun h2=>?_,fun h2=>?_⟩<;>conv=>whnf
 ·have h2:s.turn≥6:=of_decide_eq_true h2
  repeat refine B2 ?_
  rw [Ve Ad];refine Am A0 rfl rfl ?_;exact B0
 have h2:¬ s.turn≥6:=of_decide_eq_false h2
 repeat refine B2 ?_
 rw [Vf h1 Ad];refine Am A0 rfl rfl ?_;exact B0
theorem Pw (s:Fo):B3 Tryz.prog 256 [.agg s.c] [.agg (Ch s).1.c,.one (vb (Ch s).2)]:=by
 refine Aw A0 false Tryz.func256 rfl B5 fun W=>?_;conv=>whnf
 refine As (Xv s) rfl (A7 ?_);refine ⟨fun h1=>?_,fun h1=>?_⟩<;>conv=>whnf
 ·have h1:I2 s=false:=by simpa using h1
  repeat refine B2 ?_
  rw [Vd h1];refine Am A0 rfl rfl ?_;exact B0
 have h1:I2 s=true:=by simpa using h1
 have hb:=A90 h1
 repeat refine B2 ?_
 refine ⟨fun h2=>have h2:=eq_of_beq h2;?_,fun h2=>have h2:=beq_eq_false_iff_ne.1 h2;?_⟩<;>conv=>whnf
 ·repeat refine B2 ?_
  rw [Ve Ad];refine Am A0 rfl rfl ?_;exact B0
 repeat refine B2 ?_
 rw [Vf h1 Ad];refine Am A0 rfl rfl ?_;exact B0
theorem B98 (a b:Int):B3 Tryz.prog 168 [.one (vi a),.one (vi b)] [.one (vi (if b<a then b else a))]:=by
 refine Aw A0 false Tryz.func168 rfl B5 fun W=>?_;conv=>whnf
 refine Eo (fun h=>?_) fun h=>?_<;>conv=>whnf
 ·rw [if_pos h]
  refine Am A0 rfl rfl ?_;exact B0
 rw [if_neg h];refine Am A0 rfl rfl ?_;exact B0
theorem Tc (k:Int):B3 Tryz.prog 211 [.one (vi k)] [.one (vb (decide (k=5∨k=6∨k=8)))]:=by
 refine Aw A0 false Tryz.func211 rfl B5 fun W=>?_;conv=>whnf
 refine ⟨fun h5=>have h5:=eq_of_beq h5;?_,fun h5=>have h5:=beq_eq_false_iff_ne.1 h5;?_⟩<;>conv=>whnf
 ·repeat refine B2 ?_
  exact Am A0 rfl rfl ⟨congrArg vb (by simp [h5]),trivial⟩
 repeat refine B2 ?_
 refine ⟨fun h6=>have h6:=eq_of_beq h6;?_,fun h6=>have h6:=beq_eq_false_iff_ne.1 h6;?_⟩<;>conv=>whnf
 ·repeat refine B2 ?_
  exact Am A0 rfl rfl ⟨congrArg vb (by simp [h6]),trivial⟩
 repeat refine B2 ?_
 exact Am A0 rfl rfl ⟨congrArg vb (by simp [h5,h6];rfl),trivial⟩
theorem Mx {x:Bw}{k v:Int}(h:¬ (Jv x∧Ky k v)):B9 x k v=(k,v,false):=if_neg h
theorem B4r {x:Bw}{k v:Int}(h:Jv x∧Ky k v)(h2:x.kind=2):B9 x k v=(k,if 999<v+x.a then 999 else v+x.a,true):=by
 rw [B9,if_pos h,if_pos h2]
 congr 2
 by_cases h3:999<v+x.a
 ·rw [if_pos h3,if_neg Ad]
 rw [if_neg h3]
 split<;>omega
theorem B0p {x:Bw}{k v:Int}(h:Jv x∧Ky k v)(h2:x.kind=2):B9 x k v=(k,if v+x.a<999 then v+x.a else 999,true):=by
 rw [B9,if_pos h,if_pos h2]
theorem A3s {x:Bw}{k v:Int}(h:Jv x∧Ky k v)(h2:x.kind=4):B9 x k v=((k+x.a).tmod 100,v,true):=by
 rw [B9,if_pos h,if_neg Ad,if_pos h2]
theorem A3r {x:Bw}{k v:Int}(h:Jv x∧Ky k v)(h2:x.kind=3):B9 x k v=(k,v,k.tmod x.a==x.b):=by
 rw [B9,if_pos h,if_neg Ad,if_neg Ad,if_pos h2]
theorem A3t {x:Bw}{k v:Int}(h:Jv x∧Ky k v)(h2:x.kind≠2)(h4:x.kind≠4)(h3:x.kind≠3):B9 x k v=(k,v,x.kind !=8):=by
 rw [B9,if_pos h,if_neg h2,if_neg h4,if_neg h3]
theorem Y9 (x:Bw)(k v:Int)(hx:x.w≤16777216):B3 Tryz.prog 131 [.agg x.c,.one (vi k),.one (vi v)] [.one (vi (B9 x k v).1),.one (vi (B9 x k v).2.1),.one (vb (B9 x k v).2.2)]:=by
 refine Aw A0 false Tryz.func131 rfl B5 fun W=>?_;conv=>whnf
 refine As (A2i x hx) rfl (A7 ?_);refine ⟨fun h1=>?_,fun h1=>?_⟩<;>conv=>whnf
 ·have h1:Ma x=false:=by simpa using h1
  repeat refine B2 ?_
  rw [Mx (fun p=>absurd p.1 (of_decide_eq_false h1))];refine Am A0 rfl rfl ?_;exact B0
 have h1:Ma x=true:=by simpa using h1
 repeat refine B2 ?_
 refine As (G9 k 0 99) rfl (A7 ?_)
 repeat refine B2 ?_
 refine ⟨fun h2=>?_,fun h2=>?_⟩<;>conv=>whnf
 ·have h2:E6 k 0 99=false:=by simpa using h2
  repeat refine B2 ?_
  rw [Mx (fun p=>Go.Sx.B4.1 h2 p.2.1)];refine Am A0 rfl rfl ?_;exact B0
 have h2:E6 k 0 99=true:=by simpa using h2
 repeat refine B2 ?_
 refine As (G9 v 0 999) rfl (A7 ?_)
 repeat refine B2 ?_
 refine ⟨fun h3=>?_,fun h3=>?_⟩<;>conv=>whnf
 ·have h3:E6 v 0 999=false:=by simpa using h3
  repeat refine B2 ?_
  rw [Mx (fun p=>Go.Sx.B4.1 h3 p.2.2)];refine Am A0 rfl rfl ?_;exact B0
 have h3:E6 v 0 999=true:=by simpa using h3
 have hI:Ky k v:=⟨Go.Sx.Al.1 h2,Go.Sx.Al.1 h3⟩;have hN:Jv x:=of_decide_eq_true h1;have hk:=hI.1;have hv:=hI.2
 repeat refine B2 ?_
 refine ⟨fun k2=>have k2:=eq_of_beq k2;?_,fun k2=>have k2:=beq_eq_false_iff_ne.1 k2;?_⟩<;>conv=>whnf
 ·have ha:=hN.2.1 k2
  repeat refine B2 ?_
  refine As (B98 (v+x.a) 999) rfl (A7 ?_);rw [B4r ⟨hN,hI⟩ k2];refine Am A0 rfl rfl ?_;exact B0
 repeat refine B2 ?_
 refine ⟨fun k4=>have k4:=eq_of_beq k4;?_,fun k4=>have k4:=beq_eq_false_iff_ne.1 k4;?_⟩<;>conv=>whnf
 ·have ha:=hN.2.2.2.1 k4
  repeat refine B2 ?_
  rw [A3s ⟨hN,hI⟩ k4];refine Am A0 rfl rfl ?_;exact B0
 repeat refine B2 ?_
 refine ⟨fun k3=>have k3:=eq_of_beq k3;?_,fun k3=>have k3:=beq_eq_false_iff_ne.1 k3;?_⟩<;>conv=>whnf
 ·have ha:=hN.2.2.1 k3
  repeat refine B2 ?_
  first|(refine Ax 9 rfl [0,1,2,3,4,5,6,7,8,9,10,11] A6 (A7 ?_))|(refine Ax 10 rfl [0,1,2,3,4,5,6,7] A6 (A7 ?_))
  (repeat refine Ap ?_);rw [A3r ⟨hN,hI⟩ k3];refine Am A0 rfl rfl ?_;exact B0
 repeat refine B2 ?_
 first|(refine Ax 9 rfl [0,1,2,3,4,5,6,7,8,9,10,11] A6 (A7 ?_))|(refine Ax 10 rfl [0,1,2,3,4,5,6,7] A6 (A7 ?_))
 rw [A3t ⟨hN,hI⟩ k2 k4 k3];refine Am A0 rfl rfl ?_;exact B0
theorem A8d (x:Bw)(k v:Int)(hx:x.w≤16777216):B3 Tryz.prog 254 [.agg x.c,.one (vi k),.one (vi v)] [.one (vi (B9 x k v).1),.one (vi (B9 x k v).2.1),.one (vb (B9 x k v).2.2)]:=by
 refine Aw A0 false Tryz.func254 rfl B5 fun W=>?_;conv=>whnf
 refine As (A06 x hx) rfl (A7 ?_);refine ⟨fun h1=>?_,fun h1=>?_⟩<;>conv=>whnf
 ·have h1:Ma x=false:=by simpa using h1
  repeat refine B2 ?_
  rw [Mx (fun p=>absurd p.1 (of_decide_eq_false h1))];refine Am A0 rfl rfl ?_;exact B0
 have h1:Ma x=true:=by simpa using h1
 repeat refine B2 ?_
 refine As (A04 k v) rfl (A7 ?_)
 repeat refine B2 ?_
 refine ⟨fun h2=>?_,fun h2=>?_⟩<;>conv=>whnf
 ·have h2:decide ((0≤k∧k≤99)∧(0≤v∧v≤999))=false:=(Bool.not_eq_true' _).mp h2
  repeat refine B2 ?_
  rw [Mx (fun p=>absurd p.2 (of_decide_eq_false h2))];refine Am A0 rfl rfl ?_;exact B0
 have hI:Ky k v:=of_decide_eq_true (show decide ((0≤k∧k≤99)∧(0≤v∧v≤999))=true from (Bool.not_eq_false' _).mp h2)
 have hN:Jv x:=of_decide_eq_true h1;have hk:=hI.1;have hv:=hI.2
 repeat refine B2 ?_
 refine ⟨fun k2=>have k2:=eq_of_beq k2;?_,fun k2=>have k2:=beq_eq_false_iff_ne.1 k2;?_⟩<;>conv=>whnf
 ·have ha:=hN.2.1 k2
  repeat refine B2 ?_
  first|(refine Ax 5 rfl [0,1,2,3,4,5,6,7,8] A6 (A7 ?_))|(refine Ax 9 rfl [0,1,2,3,4,5,6,7,8,9,10,11] A6 (A7 ?_))|(refine Ax 10 rfl [0,1,2,3,4,5,6,7] A6 (A7 ?_))
  (repeat refine Ap ?_);rw [B0p ⟨hN,hI⟩ k2];refine Am A0 rfl rfl ?_;exact B0
 repeat refine B2 ?_
 refine ⟨fun k4=>have k4:=eq_of_beq k4;?_,fun k4=>have k4:=beq_eq_false_iff_ne.1 k4;?_⟩<;>conv=>whnf
 ·have ha:=hN.2.2.2.1 k4
  repeat refine B2 ?_
  rw [A3s ⟨hN,hI⟩ k4];refine Am A0 rfl rfl ?_;exact B0
 repeat refine B2 ?_
 refine ⟨fun k3=>have k3:=eq_of_beq k3;?_,fun k3=>have k3:=beq_eq_false_iff_ne.1 k3;?_⟩<;>conv=>whnf
 ·have ha:=hN.2.2.1 k3
  repeat refine B2 ?_
  first|(refine Ax 5 rfl [0,1,2,3,4,5,6,7,8] A6 (A7 ?_))|(refine Ax 9 rfl [0,1,2,3,4,5,6,7,8,9,10,11] A6 (A7 ?_))|(refine Ax 10 rfl [0,1,2,3,4,5,6,7] A6 (A7 ?_))
  (repeat refine Ap ?_);rw [A3r ⟨hN,hI⟩ k3];refine Am A0 rfl rfl ?_;exact B0
 repeat refine B2 ?_
 first|(refine Ax 5 rfl [0,1,2,3,4,5,6,7,8] A6 (A7 ?_))|(refine Ax 9 rfl [0,1,2,3,4,5,6,7,8,9,10,11] A6 (A7 ?_))|(refine Ax 10 rfl [0,1,2,3,4,5,6,7] A6 (A7 ?_))
 rw [A3t ⟨hN,hI⟩ k2 k4 k3];refine Am A0 rfl rfl ?_;exact B0
end Go.Proofs.YtdendlkeiaccpaaGreat
