/- Part 7 of the proof that each of the laws FnTotals returns true for every input. No conditions. -/
import Derived.Test.YtdendlkeiaccpaaGreatP5
import Derived.Test.YtdendlkeiaccpaaGreatP6

set_option linter.unusedSimpArgs false
set_option linter.unusedVariables false
set_option maxRecDepth 100000
namespace Go.Proofs.YtdendlkeiaccpaaGreat
open Go.Sx
def Fu (x y:Int):Int:=if x<y then-1 else if x>y then 1 else 0
def De (a b:Bs):Int:=if Fu a.epoch b.epoch≠0 then Fu a.epoch b.epoch else Fu a.turn b.turn
def G2 (a b:A9):Int:=if De a.stamp b.stamp≠0 then De a.stamp b.stamp else if Fu a.op b.op≠0 then Fu a.op b.op else if Fu a.key b.key≠0 then Fu a.key b.key else Fu a.val b.val
def Ia (a b:A9):Bool:=decide (G2 a b<0)
def H5 (a b:A9):Bool:=!Ia b a
theorem Ys (x y:Int):(x<y∧Fu x y= -1)∨(x=y∧Fu x y=0)∨(y<x∧Fu x y=1):=by
 unfold Fu
 by_cases h:x<y
 ·exact .inl ⟨h,if_pos h⟩
 rw [if_neg h]
 by_cases g:x>y
 ·exact .inr (.inr ⟨g,if_pos g⟩)
 exact .inr (.inl ⟨by omega,if_neg g⟩)
theorem Uh {x y n:Int}:((if Fu x y≠0 then Fu x y else n)<0↔x<y∨x=y∧n<0):=by
 rcases Ys x y with ⟨h,e⟩|⟨h,e⟩|⟨h,e⟩<;>rw [e]
 ·rw [if_pos Aw];omega
 ·rw [if_neg Aw];omega
 rw [if_pos Aw];omega
theorem A04 {x y:Int}:Fu x y<0↔x<y:=by
 rcases Ys x y with ⟨h,e⟩|⟨h,e⟩|⟨h,e⟩<;>rw [e]<;>omega
theorem Hl {a b:Bs}:De a b=0↔a.epoch=b.epoch∧a.turn=b.turn:=by
 unfold De
 rcases Ys a.epoch b.epoch with ⟨h,e⟩|⟨h,e⟩|⟨h,e⟩<;>rw [e]
 ·rw [if_pos Aw];omega
 ·rw [if_neg Aw]
  rcases Ys a.turn b.turn with ⟨g,k⟩|⟨g,k⟩|⟨g,k⟩<;>rw [k]<;>omega
 rw [if_pos Aw];omega
theorem Im {a b:Bs}:De a b<0↔a.epoch<b.epoch∨a.epoch=b.epoch∧a.turn<b.turn:=by
 unfold De
 rw [Uh,A04]
theorem Lc (a b:A9):Ia a b=true↔a.stamp.epoch<b.stamp.epoch∨a.stamp.epoch=b.stamp.epoch∧(a.stamp.turn<b.stamp.turn∨a.stamp.turn=b.stamp.turn∧(a.op<b.op∨a.op=b.op∧(a.key<b.key∨a.key=b.key∧a.val<b.val))):=by
 unfold Ia G2
 rw [decide_eq_true_eq]
 by_cases h:De a.stamp b.stamp=0
 ·rw [if_neg Ab,Uh,Uh,A04]
  have:=Hl.1 h
  omega
 rw [if_pos h,Im]
 have:=mt Hl.2 h
 omega
theorem Ik (a b:A9):H5 a b=true↔a.stamp.epoch<b.stamp.epoch∨a.stamp.epoch=b.stamp.epoch∧(a.stamp.turn<b.stamp.turn∨a.stamp.turn=b.stamp.turn∧(a.op<b.op∨a.op=b.op∧(a.key<b.key∨a.key=b.key∧a.val≤b.val))):=by
 unfold H5
 rw [Bool.not_eq_true',←Bool.not_eq_true,Lc]
 omega
theorem S2 (a b c:A9)(h:H5 a b=true)(g:H5 b c=true):H5 a c=true:=by
 rw [Ik] at *
 omega
theorem A1b (a b:A9):(H5 a b||H5 b a)=true:=by
 rw [Bool.or_eq_true,Ik,Ik]
 omega
theorem Uu (a b:A9)(h:H5 a b=true)(g:H5 b a=true):a=b:=by
 rw [Ik] at *
 obtain ⟨o,⟨e,t⟩,k,v⟩:=a
 obtain ⟨o',⟨e',t'⟩,k',v'⟩:=b
 simp only [A9.mk.injEq,Bs.mk.injEq] at *
 omega
def Cv (xs:List A9):List A9:=xs.mergeSort H5
theorem K3 (xs:List A9):(Cv xs).Perm xs:=List.mergeSort_perm xs H5
theorem J4 (xs:List A9):(Cv xs).Pairwise (fun a b=>H5 a b=true):=List.pairwise_mergeSort S2 A1b xs
theorem Gc (xs:List A9):(Cv xs).length=xs.length:=(K3 xs).length_eq
theorem Rj:∀{a b:List A9},a.Perm b→a.Pairwise (fun x y=>H5 x y=true)→b.Pairwise (fun x y=>H5 x y=true)→a=b
 | [],b,h,_,_=>by rw [List.nil_perm.1 h]
 |x::a,[],h,_,_=>by cases List.perm_nil.1 h
 |x::a,y::b,h,ha,hb=>by
  obtain ⟨a1,a2⟩:=List.pairwise_cons.1 ha
  obtain ⟨b1,b2⟩:=List.pairwise_cons.1 hb
  have e:x=y:=by
   rcases List.mem_cons.1 (h.mem_iff.1 (List.mem_cons_self ..)) with e|hx
   ·exact e
   rcases List.mem_cons.1 (h.mem_iff.2 (List.mem_cons_self ..)) with e|hy
   ·exact e.symm
   exact Uu x y (a1 y hy) (b1 x hx)
  subst e
  rw [Rj (List.Perm.cons_inv h) a2 b2]
theorem Pc {a xs:List A9}(h:a.Perm xs)(hs:a.Pairwise (fun x y=>H5 x y=true)):a=Cv xs:=Rj (h.trans (K3 xs).symm) hs (J4 xs)
theorem B01 {s:List A9}{xs:List A9}{x:A9}{k:Nat}(hs:s=Cv xs)(hk:k≤s.length)(h1:k=0∨Ia x (s.getD (k-1) default)=false)(h2:∀y∈s.drop k,Ia x y=true):
  s.take k++x::s.drop k=Cv (xs++[x]):=by
 refine Pc ?_ ?_
 ·have e:(s.take k++x::s.drop k).Perm (x::(s.take k++s.drop k)):=List.perm_middle
  rw [List.take_append_drop] at e
  refine e.trans (List.Perm.trans ?_ (List.perm_append_comm (l₁:=[x])))
  rw [hs]
  exact (K3 xs).cons x
 have hp:s.Pairwise (fun x y=>H5 x y=true):=by rw [hs];exact J4 xs
 have hp2:=hp
 rw [←List.take_append_drop k s] at hp2
 obtain ⟨p1,p2,p3⟩:=List.pairwise_append.1 hp2
 refine List.pairwise_append.2 ⟨p1,List.pairwise_cons.2 ⟨fun y hy=>?_,p2⟩,fun y hy z hz=>?_⟩
 ·have:=h2 y hy
  rw [Lc] at this
  rw [Ik]
  omega
 rcases List.mem_cons.1 hz with rfl|hz
 ·rcases h1 with rfl|h1
  ·cases hy
  have hkl:k≠0:=by rintro rfl;cases hy
  have hyl:H5 y (s.getD (k-1) default)=true:=by
   obtain ⟨i,hi,rfl⟩:=List.getElem_of_mem hy
   rw [List.length_take] at hi
   rw [List.getElem_take,List.getD,List.getElem?_eq_getElem Ab,Option.getD_some]
   by_cases e:i=k-1
   ·subst e
    rw [Ik]
    omega
   exact List.pairwise_iff_getElem.1 hp i (k-1) Ab Ab Ab
  have hxl:H5 (s.getD (k-1) default) z=true:=by unfold H5;rw [h1];rfl
  exact S2 _ _ _ hyl hxl
 exact p3 y hy z hz
def I4 (c:A6):List A9:=c.workers.flatMap (fun w=>w.queue++w.staged)++c.links.flatMap (fun l=>l.queue)
def Dc (c:A6):List A9:=Cv (I4 c)
theorem N4 {α:Type}(f:α→List A9):∀l:List α,(l.flatMap f).length=(l.map fun x=>(f x).length).sum
 | []=>rfl
 |x::l=>by rw [List.flatMap_cons,List.length_append,N4 f l,List.map_cons,List.sum_cons]
def L8 (t:List Bq) (s:Bs):Prop:=0<t.length∧(t.getD (t.length-1) default).stamp=s
instance (t:List Bq) (s:Bs):Decidable (L8 t s):=by unfold L8;infer_instance
def J7 (t:List Bq) (s:Bs):List Bq:=
 if Dp s=true then
  (if L8 t s then t.set (t.length-1) ⟨s,(t.getD (t.length-1) default).n+1⟩ else t++[⟨s,1⟩])
 else t
def Ef (xs:List A9):List Bq:=xs.foldl (fun t r=>J7 t r.stamp) []
theorem Lq {xs:List A9}{k:Nat}(h:k<xs.length):Ef (xs.take (k+1))=J7 (Ef (xs.take k)) (xs.getD k default).stamp:=by
 unfold Ef
 rw [List.take_add_one,List.foldl_append]
 simp [List.getD,List.getElem?_eq_getElem h]
theorem A76 (t:List Bq)(s:Bs):(J7 t s).length≤t.length+1:=by
 unfold J7
 (repeat' split)<;>simp
theorem Vj (a:Bs):De a a=0:=Hl.2 ⟨rfl,rfl⟩
theorem Vi {a b:Bs}(h:De a b=0):a=b:=by
 obtain ⟨e,t⟩:=a
 obtain ⟨e',t'⟩:=b
 have:=Hl.1 h
 simp only at this
 rw [this.1,this.2]
theorem A3s {a b:Bs}(h:De a b<0):0<De b a:=by
 have h1:=Im.1 h
 have h2:=mt Im.1 (show ¬ (b.epoch<a.epoch∨b.epoch=a.epoch∧b.turn<a.turn) by omega)
 have h3:=mt Hl.1 (show ¬ (b.epoch=a.epoch∧b.turn=a.turn) by omega)
 omega
theorem Nm {a b c:Bs}(h:De a b<0)(g:De b c≤0):De a c<0:=by
 rw [Im] at *
 by_cases e:De b c=0
 ·have:=Hl.1 e
  omega
 have:=Im.1 (show De b c<0 by omega)
 omega
structure Sl (m:Nat) (t:List Bq):Prop where
 ok:∀c∈t,Dp c.stamp=true∧1≤c.n∧c.n≤m
 pw:∀i,i+1<t.length→De (t.getD i default).stamp (t.getD (i+1) default).stamp<0
theorem B11 {m:Nat}{t:List Bq}(h:Sl m t){i j:Nat}(hij:i<j)(hj:j<t.length):De (t.getD i default).stamp (t.getD j default).stamp<0:=by
 induction j with
 |zero=>omega
 |succ j ih=>
  by_cases e:i=j
  ·subst e;exact h.pw i hj
  exact Nm (ih Ab Ab) (Int.le_of_lt (h.pw j hj))
theorem A8k {m:Nat}{t:List Bq}{s:Bs}(h:Sl m t)(hs:∀c∈t,De c.stamp s≤0):Sl (m+1) (J7 t s):=by
 unfold J7
 split
 ·rename_i hok
  split
  ·rename_i hh
   obtain ⟨h0,h1⟩:=hh
   have hm:=B9 (d:=(default:Bq)) (show t.length-1<t.length by omega)
   have hl:=h.ok _ hm
   refine ⟨fun c hc=>?_,fun i hi=>?_⟩
   ·rcases List.mem_or_eq_of_mem_set hc with hc|rfl
    ·have:=h.ok c hc;exact ⟨this.1,this.2.1,by omega⟩
    exact ⟨hok,by show 1≤(t.getD (t.length-1) default).n+1;omega,by show (t.getD (t.length-1) default).n+1≤_;omega⟩
   rw [List.length_set] at hi
   have hst:∀i,((t.set (t.length-1) ⟨s,(t.getD (t.length-1) default).n+1⟩).getD i default).stamp=(t.getD i default).stamp:=fun i=>by
    by_cases e:i=t.length-1
    ·subst e
     rw [Go.Sx.getD_set_self _ _ _ _ Ab]
     exact h1.symm
    rw [Go.Sx.getD_set_ne _ _ _ _ _ e]
   rw [hst,hst]
   exact h.pw i hi
  rename_i hh
  refine ⟨fun c hc=>?_,fun i hi=>?_⟩
  ·rcases List.mem_append.1 hc with hc|hc
   ·have:=h.ok c hc;exact ⟨this.1,this.2.1,by omega⟩
   rw [List.mem_singleton.1 hc]
   exact ⟨hok,by show (1:Int)≤1;omega,by show (1:Int)≤(m+1:Nat);omega⟩
  rw [List.length_append,List.length_singleton] at hi
  have hg:∀j,j<t.length→(t++[(⟨s,1⟩:Bq)]).getD j default=t.getD j default:=fun j hj=>by simp only [List.getD,List.getElem?_append_left hj]
  rw [hg i Ab]
  by_cases e:i+1<t.length
  ·rw [hg _ e];exact h.pw i e
  obtain rfl:i=t.length-1:=by omega
  have h0:0<t.length:=by omega
  have e2:(t++[(⟨s,1⟩:Bq)]).getD (t.length-1+1) default=⟨s,1⟩:=by
   rw [show t.length-1+1=t.length by omega]
   simp [List.getD]
  rw [e2]
  have hm:=B9 (d:=(default:Bq)) (show t.length-1<t.length by omega)
  have hle:=hs _ hm
  by_cases hz:De (t.getD (t.length-1) default).stamp s=0
  ·exact absurd ⟨h0,Vi hz⟩ hh
  show De _ s<0
  omega
 exact ⟨fun c hc=>by have:=h.ok c hc;exact ⟨this.1,this.2.1,by omega⟩,h.pw⟩
theorem B1v {t:List Bq}{s s2:Bs}(hs:∀c∈t,De c.stamp s≤0)(h:De s s2≤0):∀c∈J7 t s,De c.stamp s2≤0:=by
 have key:∀a:Bs,De a s≤0→De a s2≤0:=fun a ha=>by
  by_cases e:De a s=0
  ·rw [Vi e];exact h
  have:=Nm (show De a s<0 by omega) h
  omega
 intro c hc
 unfold J7 at hc
 split at hc
 ·split at hc
  ·rcases List.mem_or_eq_of_mem_set hc with hc|rfl
   ·exact key _ (hs c hc)
   exact h
  rcases List.mem_append.1 hc with hc|hc
  ·exact key _ (hs c hc)
  rw [List.mem_singleton.1 hc];exact h
 exact key _ (hs c hc)
theorem B0t {a b:A9}(h:H5 a b=true):De a.stamp b.stamp≤0:=by
 rw [Ik] at h
 have h2:=mt Im.1 (show ¬ (b.stamp.epoch<a.stamp.epoch∨b.stamp.epoch=a.stamp.epoch∧b.stamp.turn<a.stamp.turn) by omega)
 by_cases hn:De a.stamp b.stamp<0
 ·omega
 have h3:=mt Im.2 hn
 have:De a.stamp b.stamp=0:=Hl.2 Ab
 omega
theorem Lp {xs:List A9}(hs:xs.Pairwise (fun a b=>H5 a b=true)):∀k,k≤xs.length→Sl k (Ef (xs.take k))∧∀j,k≤j→j<xs.length→∀c∈Ef (xs.take k),De c.stamp (xs.getD j default).stamp≤0
 | 0,_=>⟨⟨fun c hc=>(by cases hc),fun i hi=>absurd hi (Nat.not_lt_zero _)⟩,fun j _ _ c hc=>(by cases hc)⟩
 |k+1,hk=>by
  obtain ⟨i1,i2⟩:=Lp hs k Ab
  rw [Lq Ab]
  have hle:=i2 k (Nat.le_refl _) Ab
  refine ⟨A8k i1 hle,fun j hkj hj=>B1v hle ?_⟩
  have:=List.pairwise_iff_getElem.1 hs k j Ab hj Ab
  have e1:xs.getD k default=xs[k]:=by simp [List.getD,List.getElem?_eq_getElem (show k<xs.length by omega)]
  have e2:xs.getD j default=xs[j]:=by simp [List.getD,List.getElem?_eq_getElem hj]
  rw [e1,e2]
  exact B0t this
theorem N2 (xs:List A9):(Ef xs).length≤xs.length:=by
 have:∀(xs:List A9) (t:List Bq),(xs.foldl (fun t r=>J7 t r.stamp) t).length≤t.length+xs.length:=by
  intro xs
  induction xs with
  |nil=>intro t;exact Nat.le_refl _
  |cons x xs ih=>
   intro t
   have:=A76 t x.stamp
   have:=ih (J7 t x.stamp)
   simp only [List.foldl_cons,List.length_cons]
   omega
 have:=this xs []
 simpa [Ef] using this
def Lb (S R:List A9) (k:Nat) (y:A9):List A9:=S.take k++y::(S.drop k++R)
theorem B0g {S R:List A9}{k:Nat}{y:A9}(h:k≤S.length):(Lb S R k y).length=S.length+R.length+1:=by
 simp only [Lb,List.length_append,List.length_take,List.length_cons,List.length_drop]
 omega
theorem B0f {S R:List A9}{k:Nat}{y:A9}(h:0<k)(hk:k≤S.length):(Lb S R k y).getD (k-1) default=S.getD (k-1) default:=by
 have h1:k-1<(S.take k).length:=by rw [List.length_take];omega
 unfold Lb
 rw [List.getD,List.getElem?_append_left h1,List.getElem?_take_of_lt Ab]
 rfl
theorem Uk {S R:List A9}{k:Nat}{y v:A9}(hk:k≤S.length):(Lb S R k y).set k v=Lb S R k v:=by
 have h1:(S.take k).length=k:=by rw [List.length_take];omega
 unfold Lb
 rw [List.set_append_right _ _ Ab,h1,Nat.sub_self]
 rfl
theorem A63 {S R:List A9}{k:Nat}(h:0<k)(hk:k≤S.length):Lb S R k (S.getD (k-1) default)=Lb S R (k-1) (S.getD (k-1) default):=by
 obtain ⟨m,rfl⟩:∃m,k=m+1:=⟨k-1,by omega⟩
 have hm:m<S.length:=by omega
 rw [Nat.add_sub_cancel]
 have e:S.getD m default=S[m]:=by simp [List.getD,List.getElem?_eq_getElem hm]
 rw [e]
 unfold Lb
 rw [List.drop_eq_getElem_cons hm,List.take_add_one,List.getElem?_eq_getElem hm,Option.toList_some,List.append_assoc]
 rfl
theorem Ul {xs:List A9}{i:Nat}(hi:i<xs.length):Cv (xs.take i)++xs.drop i=Lb (Cv (xs.take i)) (xs.drop (i+1)) i (xs.getD i default):=by
 have hl:(Cv (xs.take i)).length=i:=by rw [Gc,List.length_take];omega
 have e:xs.getD i default=xs[i]:=by simp [List.getD,List.getElem?_eq_getElem hi]
 rw [e,List.drop_eq_getElem_cons hi]
 generalize Cv (xs.take i)=S at *
 unfold Lb
 rw [List.take_of_length_le Ab,List.drop_of_length_le (l:=S) Ab]
 rfl
theorem B0e {xs:List A9}{i k:Nat}(hi:i<xs.length)(hk:k≤i)(h1:k=0∨Ia (xs.getD i default) ((Cv (xs.take i)).getD (k-1) default)=false)(h2:∀y∈(Cv (xs.take i)).drop k,Ia (xs.getD i default) y=true):
  Lb (Cv (xs.take i)) (xs.drop (i+1)) k (xs.getD i default)=Cv (xs.take (i+1))++xs.drop (i+1):=by
 have hl:(Cv (xs.take i)).length=i:=by rw [Gc,List.length_take];omega
 have:=B01 (s:=Cv (xs.take i)) (xs:=xs.take i) (x:=xs.getD i default) rfl Ab h1 h2
 rw [show xs.take (i+1)=xs.take i++[xs.getD i default] by rw [List.take_add_one,List.getElem?_eq_getElem hi];simp [List.getD,List.getElem?_eq_getElem hi],←this]
 simp [Lb]
theorem A3h (xs:List A9):xs=Cv (xs.take 1)++xs.drop 1:=by
 have e:Cv (xs.take 1)=xs.take 1:=(Rj (K3 _) (J4 _) (by cases xs with|nil=>exact List.Pairwise.nil|cons x l=>simp))
 rw [e,List.take_append_drop]
theorem A6a {S:List A9}{k:Nat}{x:A9}(h0:0<k)(hk:k≤S.length)(h:∀z∈S.drop k,Ia x z=true)(h1:Ia x (S.getD (k-1) default)=true):∀z∈S.drop (k-1),Ia x z=true:=by
 obtain ⟨m,rfl⟩:∃m,k=m+1:=⟨k-1,by omega⟩
 have hm:m<S.length:=by omega
 rw [Nat.add_sub_cancel] at *
 intro z hz
 rw [List.drop_eq_getElem_cons hm] at hz
 rcases List.mem_cons.1 hz with rfl|hz
 ·simpa [List.getD,List.getElem?_eq_getElem hm] using h1
 exact h z hz
def Kc (w:Ac):List A9:=w.queue++w.staged
theorem I5 (c:A6):I4 c=c.workers.flatMap Kc++c.links.flatMap (fun l=>l.queue):=rfl
theorem Jp {α:Type} [Inhabited α] (f:α→List A9)(l:List α)(k:Nat)(h:k<l.length):(l.take (k+1)).flatMap f=(l.take k).flatMap f++f (l.getD k default):=by
 rw [List.take_add_one,List.flatMap_append,List.getElem?_eq_getElem h]
 simp [List.getD,List.getElem?_eq_getElem h]
theorem Q3 {α:Type}(f:α→List A9)(l:List α)(k:Nat):((l.take k).flatMap f).length≤(l.flatMap f).length:=by
 have e:l.flatMap f=(l.take k).flatMap f++(l.drop k).flatMap f:=by rw [←List.flatMap_append,List.take_append_drop]
 rw [e,List.length_append]
 exact Nat.le_add_right _ _
theorem Yd {α:Type}(f:α→List A9)(g:α→Nat)(hf:∀x,(f x).length≤g x):∀l:List α,(l.flatMap f).length≤(l.map g).sum
 | []=>Nat.le_refl _
 |x::l=>by
  rw [List.flatMap_cons,List.length_append,List.map_cons,List.sum_cons]
  have:=hf x
  have:=Yd f g hf l
  omega
theorem Na (c:A6):(c.workers.flatMap Kc).length+(c.links.flatMap (fun l=>l.queue)).length≤c.w:=by
 have h1:=Yd Kc Ac.w (fun w=>by simp only [Kc,List.length_append,Ac.w];omega) c.workers
 have h2:=Yd (fun l:B8=>l.queue) B8.w (fun l=>Nat.le_refl _) c.links
 simp only [A6.w,wS]
 omega
def stB (a b:Bs):Bool:=a.epoch==b.epoch&&(a.turn==b.turn&&true)
theorem Mc {a b:Bs}:stB a b=true↔a=b:=by
 obtain ⟨e,t⟩:=a
 obtain ⟨e',t'⟩:=b
 simp [stB]
def N1 (t:List Bq) (s:Bs):Int:=if t.any (fun c=>stB c.stamp s)=true then (t.getD (Gs (fun c:Bq=>stB c.stamp s) t) default).n else 0
theorem Wt {t:List Bq}{s:Bs}{k:Nat}(h:(t.take k).any (fun c=>stB c.stamp s)=false)(hk:k<t.length)(hp:stB (t.getD k default).stamp s=true):N1 t s=(t.getD k default).n:=by
 unfold N1
 rw [if_pos (List.any_eq_true.2 ⟨_,B9 hk,hp⟩),A84 (fun c:Bq=>stB c.stamp s) t k h hk hp]
theorem Tk {t:List Bq}{s:Bs}(h:t.any (fun c=>stB c.stamp s)=false):N1 t s=0:=if_neg (by rw [h];decide)
theorem A38 {t:List Bq}{s:Bs}(h:Dp s=false):J7 t s=t:=by unfold J7;rw [if_neg (by rw [h];decide)]
theorem Zu {t:List Bq}{s:Bs}(h:Dp s=true)(hh:L8 t s):J7 t s=t.take (t.length-1)++[⟨s,(t.getD (t.length-1) default).n+1⟩]:=by
 have h0:=hh.1
 unfold J7
 rw [if_pos h,if_pos hh,List.set_eq_take_append_cons_drop,if_pos Ab,List.drop_of_length_le Ab]
theorem Pm {t:List Bq}{s:Bs}(h:Dp s=true)(hh:¬ L8 t s):J7 t s=t++[⟨s,1⟩]:=by
 unfold J7
 rw [if_pos h,if_neg hh]
theorem U2 {m:Nat}{t:List Bq}{s:Bs}(h:Sl m t)(hs:∀c∈t,De c.stamp s≤0){i:Nat}(hi:i<t.length)(he:(t.getD i default).stamp=s):L8 t s∧i=t.length-1:=by
 have e:i=t.length-1:=by
  by_cases e:i=t.length-1
  ·exact e
  have h1:=B11 h (show i<t.length-1 by omega) Ab
  have h2:=hs _ (B9 (d:=(default:Bq)) (show t.length-1<t.length by omega))
  have h3:=Nm h1 h2
  rw [he,Vj] at h3
  omega
 subst e
 exact ⟨⟨by omega,he⟩,rfl⟩
theorem B2q {t:List Bq}{s:Bs}(hs:∀c∈t,De c.stamp s≤0){i:Nat}(hi:i<t.length)(he:(t.getD i default).stamp≠s):0<De s (t.getD i default).stamp:=by
 have h1:=hs _ (B9 (d:=(default:Bq)) hi)
 by_cases hz:De (t.getD i default).stamp s=0
 ·exact absurd (Vi hz) he
 exact A3s Ab
theorem A2i {m:Nat}{t:List Bq}{s:Bs}(h:Sl m t)(hs:∀c∈t,De c.stamp s≤0)(hh:L8 t s):N1 t s=(t.getD (t.length-1) default).n:=by
 obtain ⟨h0,h1⟩:=hh
 refine Wt ?_ Ab (Mc.2 h1)
 rw [List.any_eq_false]
 intro c hc hb
 obtain ⟨i,hi,rfl⟩:=List.getElem_of_mem hc
 rw [List.length_take] at hi
 have e:(t.getD i default).stamp=s:=by
  have:=Mc.1 hb
  rw [List.getElem_take] at this
  rw [←this]
  simp [List.getD,List.getElem?_eq_getElem (show i<t.length by omega)]
 have:=(U2 h hs Ab e).2
 omega
theorem A2j {m:Nat}{t:List Bq}{s:Bs}(h:Sl m t)(hs:∀c∈t,De c.stamp s≤0)(hh:¬ L8 t s):N1 t s=0:=by
 refine Tk ?_
 rw [List.any_eq_false]
 intro c hc hb
 obtain ⟨i,hi,rfl⟩:=List.getElem_of_mem hc
 have e:(t.getD i default).stamp=s:=by
  rw [←Mc.1 hb]
  simp [List.getD,List.getElem?_eq_getElem hi]
 exact hh (U2 h hs hi e).1
end Go.Proofs.YtdendlkeiaccpaaGreat
