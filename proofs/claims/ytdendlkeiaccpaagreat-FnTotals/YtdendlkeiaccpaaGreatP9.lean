/- Part 9 of the proof that each of the laws FnTotals returns true for every input. No conditions. -/
import Derived.Test.YtdendlkeiaccpaaGreatP8
import Derived.Test.YtdendlkeiaccpaaGreatP6

set_option linter.unusedSimpArgs false
set_option linter.unusedVariables false
set_option maxRecDepth 100000
namespace Go.Proofs.YtdendlkeiaccpaaGreat
open Go.Sx
theorem A8j {xs ys:List Bq}(h:xs=ys):Ge (Cw xs) (Cw ys):=by
 subst h
 exact Pr (fun i _=>Fh.rfl' _)
theorem Z5 (m:Nat)(hm:m≤1000000)(t:List Bq)(h:Sl m t)(hl:t.length≤1000000):Bi Tryz.prog 135 [.one (Cw t)] [.one (vb true)]:=by
 refine Bd A0 false Tryz.func135 rfl Aw fun W=>?_
 conv=>whnf
 refine Bv A0 false [] (fun k:Nat=>[(3,.c (vi k))]) (fun k=>[]) (fun k=>[])
  (fun k=>k≤t.length) (fun k=>t.length-k) 0 (Nat.zero_le _) ⟨F3,trivial⟩ trivial trivial Cj A7 (fun k hk=>?_)
 conv=>whnf
 refine Es (fun hlt=>?_) fun hlt=>?_<;>conv=>whnf
 ·have hlt:k<t.length:=by omega
  obtain ⟨h1,h2,h3⟩:=h.ok _ (B9 (d:=(default:Bq)) hlt)
  have hin:Eb (t.getD k default).n (-1000000) 1000000=true:=Go.Sx.Au.2 ⟨by omega,by omega⟩
  have h0:((t.getD (k:Int).toNat default).n==0)=false:=by rw [Int.toNat_natCast,beq_eq_false_iff_ne];omega
  first|(refine B5 4 rfl [0,1,2,3,4,5,6,7,8,9,10,11,12,13,14,15,16,17,18,19,20,21,22,23,24,25,26,27,28,29,30,31,32,33,34,35,36,37,38,39,40,41,42] A7 (A8 ?_))
  (repeat refine Am ?_)
  refine Az (Kv (t.getD k default).stamp) rfl (A8 ?_)
  rw [h1]
  repeat refine B7 ?_
  refine Az (Ep (t.getD k default).n (-1000000) 1000000) rfl (A8 ?_)
  rw [hin]
  repeat refine B7 ?_
  refine ⟨fun hk0=>?_,fun hk0=>?_⟩<;>conv=>whnf
  ·have hk0:0<k:=by have:=of_decide_eq_true hk0;omega
   have hp:=h.pw (k-1) Ab
   rw [show k-1+1=k by omega] at hp
   have ek:((k:Int)-1).toNat=k-1:=by omega
   repeat refine B7 ?_
   rw [ek]
   refine Az (K5 (t.getD (k-1) default).stamp (t.getD k default).stamp) rfl (A8 ?_)
   repeat refine B7 ?_
   refine Ru (decide_eq_false (show ¬ (De (t.getD (k-1) default).stamp (t.getD k default).stamp≥0) by omega)) ?_
   conv=>whnf
   (repeat refine Am ?_)
   refine B6 [] (k+1) Ab Ab ⟨rfl,trivial⟩ trivial trivial A7 Cj A7
  repeat refine B7 ?_
  (repeat refine Am ?_)
  refine B6 [] (k+1) Ab Ab ⟨rfl,trivial⟩ trivial trivial A7 Cj A7
 repeat refine B7 ?_
 refine B2 A0 rfl rfl ?_
 exact At
theorem A1q (t:List Bq)(s:Bs)(hl:t.length≤1000000):Bi Tryz.prog 136 [.one (Cw t),.agg s.c] [.one (vi (N1 t s))]:=by
 refine Bd A0 false Tryz.func136 rfl Aw fun W=>?_
 conv=>whnf
 refine Bv A0 false [] (fun k:Nat=>[(5,.c (vi k))]) (fun k=>[⟨0,[.c (vi s.epoch),.c (vi s.turn)]⟩]) (fun k=>[])
  (fun k=>k≤t.length∧(t.take k).any (fun c=>stB c.stamp s)=false) (fun k=>t.length-k) 0 ⟨Nat.zero_le _,by first|rfl|assumption|simp⟩ ⟨F3,trivial⟩ Cf trivial Cj A7 (fun k hk=>?_)
 obtain ⟨hk,he⟩:=hk
 conv=>whnf
 refine Es (fun hlt=>?_) fun hlt=>?_<;>conv=>whnf
 ·have hlt:k<t.length:=by omega
  first|(refine B5 4 rfl [0,1,2,3,4,5,6] A7 (A8 ?_))
  (repeat refine Am ?_)
  refine ⟨fun hc=>?_,fun hc=>?_⟩<;>conv=>whnf
  ·have hc:stB (t.getD k default).stamp s=true:=hc
   repeat refine B7 ?_
   (repeat refine Am ?_)
   rw [Wt he hlt hc]
   refine B2 A0 rfl rfl ?_
   exact At
  have hc:stB (t.getD k default).stamp s=false:=hc
  repeat refine B7 ?_
  (repeat refine Am ?_)
  refine B6 [] (k+1) ⟨by omega,Hz he hlt hc⟩ Ab ⟨rfl,trivial⟩ trivial Cf A7 Cj A7
 rw [E6 t k Ab] at he
 rw [Tk he]
 repeat refine B7 ?_
 refine B2 A0 rfl rfl ?_
 exact At
def K9 (t:List Bq) (s:Bs) (k:Nat):List Bq:=if L8 t s∧k=t.length then J7 t s else t.take k
theorem B28 {t:List Bq}{s:Bs}{k:Nat}(h:k<t.length):K9 t s k=t.take k:=if_neg (fun p=>by omega)
set_option maxHeartbeats 2000000 in
theorem A3j (m:Nat)(hm:m<1000000)(t:List Bq)(s:Bs)(h:Sl m t)(hs:∀c∈t,De c.stamp s≤0)(hl:t.length≤1000000):Bi Tryz.prog 101 [.one (Cw t),.agg s.c,.one (vi 1)] [.one (Cw (J7 t s)),.one (vb (Dp s))]:=by
 refine Bd A0 false Tryz.func101 rfl Aw fun W=>?_
 conv=>whnf
 refine Av A0 rfl rfl rfl rfl rfl rfl rfl rfl rfl rfl rfl (Cw t) (Cc) (fun _=>A0m _) Ab (A8 ?_)
 refine Az (Z5 m Ab t h hl) rfl (A8 ?_)
 repeat refine B7 ?_
 refine Az (Kv s) rfl (A8 ?_)
 repeat refine B7 ?_
 refine ⟨fun h1=>?_,fun h1=>?_⟩<;>conv=>whnf
 ·have h1:Dp s=false:=by simpa using h1
  rw [A38 h1,h1]
  repeat refine B7 ?_
  refine B2 A0 rfl rfl ?_
  exact At
 have h1:Dp s=true:=by simpa using h1
 repeat refine B7 ?_
 refine Az (Ep 1 (-2000000) 2000000) rfl (A8 ?_)
 rw [show Eb 1 (-2000000) 2000000=true by decide]
 repeat refine B7 ?_
 refine Az (A1q t s hl) rfl (A8 ?_)
 have hA:(0≤N1 t s∧N1 t s≤m)∧(L8 t s→J7 t s=t.take (t.length-1)++[⟨s,N1 t s+1⟩])∧(¬ L8 t s→J7 t s=t++[⟨s,N1 t s+1⟩]):=by
  by_cases hh:L8 t s
  ·have hm:=h.ok _ (B9 (d:=(default:Bq)) (show t.length-1<t.length by have:=hh.1;omega))
   rw [A2i h hs hh]
   exact ⟨⟨by omega,hm.2.2⟩,fun _=>Zu h1 hh,fun n=>absurd hh n⟩
  rw [A2j h hs hh]
  exact ⟨⟨Int.le_refl _,Int.natCast_nonneg _⟩,fun n=>absurd n hh,fun _=>Pm h1 hh⟩
 obtain ⟨⟨ha0,ham⟩,hy,hn⟩:=hA
 generalize N1 t s=a at *
 (repeat refine Am ?_)
 refine Az (Ep (a+1) (-1000000) 1000000) rfl (A8 ?_)
 rw [show Eb (a+1) (-1000000) 1000000=true from Go.Sx.Au.2 ⟨by omega,by omega⟩]
 repeat refine B7 ?_
 have e0:(a+1==0)=decide (L8 t s∧0=t.length):=by
  rw [beq_eq_false_iff_ne.2 (show a+1≠0 by omega),decide_eq_false (fun p=>by have:=p.1.1;omega)]
 have e1:([]:List Bq)=K9 t s 0:=by unfold K9;rw [if_neg (fun p=>by have:=p.1.1;omega)];rfl
 refine Dv 3 (Cw []) rfl (Ba rfl Cf) ?_
 refine Dv 3 (Cw (K9 t s 0)) rfl (A8j e1) ?_
 rw [e0]
 refine Bv A0 false [39] (fun k:Nat=>[(12,.c (vi k)),(11,.c (vb (decide (L8 t s∧k=t.length))))]) (fun k=>[⟨0,[.c (vi s.epoch),.c (vi s.turn)]⟩]) (fun k=>[⟨2,Cw t⟩,⟨3,Cw (K9 t s k)⟩])
  (fun k=>k≤t.length) (fun k=>t.length-k) 0 (Nat.zero_le _) ⟨F3,F3,trivial⟩ Cf ⟨F2,F2,trivial⟩ Cj A7 (fun k hk=>?_)
 conv=>whnf
 conv=>whnf
 refine Es (fun hlt=>?_) fun hlt=>?_<;>conv=>whnf
 ·have hlt:k<t.length:=by omega
  have ed:decide (L8 t s∧k=t.length)=false:=decide_eq_false (fun p=>by omega)
  have hol:(t.take k).length≤1000000:=by rw [List.length_take];omega
  rw [ed,B28 hlt]
  first|(refine B5 12 rfl [0,1,2,3,4,5,6,7,8,9,10,11] A7 (A8 ?_))|(refine B5 15 rfl [0,1,2,3,4,5,6] A7 (A8 ?_))
  repeat refine B7 ?_
  (repeat refine Am ?_)
  refine Az (K5 s (t.getD k default).stamp) rfl (A8 ?_)
  repeat refine B7 ?_
  by_cases heq:(t.getD k default).stamp=s
  ·obtain ⟨hh,hkl⟩:=U2 h hs hlt heq
   have hz:De s (t.getD k default).stamp=0:=by rw [heq];exact Vj s
   have hb:stB (t.getD k default).stamp s=true:=Mc.2 heq
   refine X4 (decide_eq_true (show De s (t.getD k default).stamp≤0 by omega)) ?_
   conv=>whnf
   refine Av A0 rfl rfl rfl rfl rfl rfl rfl rfl rfl rfl rfl (Cw (t.take k++[⟨s,a+1⟩])) (Ad rfl) Bj Ab (A8 ?_)
   first|(refine B5 12 rfl [0,1,2,3,4,5,6,7,8,9,10,11] A7 (A8 ?_))|(refine B5 15 rfl [0,1,2,3,4,5,6] A7 (A8 ?_))
   (repeat refine Am ?_)
   refine Ru (show (!stB (t.getD k default).stamp s)=false by rw [hb];rfl) ?_
   conv=>whnf
   (repeat refine Am ?_)
   have e3:K9 t s (k+1)=t.take k++[⟨s,a+1⟩]:=by unfold K9;rw [if_pos ⟨hh,by omega⟩,hy hh,hkl]
   refine B6 [(3,5)] (k+1) Ab Ab ⟨rfl,congrArg (fun b=>AV.c (vb b)) (decide_eq_true ⟨hh,by omega⟩).symm,trivial⟩ ⟨rfl,congrArg Cw e3.symm,trivial⟩ Cf A7 Cj A7
  have hg:=B2q hs hlt heq
  have hb:stB (t.getD k default).stamp s=false:=by rw [←Bool.not_eq_true,Mc];exact heq
  refine Ru (decide_eq_false (show ¬ De s (t.getD k default).stamp≤0 by omega)) ?_
  conv=>whnf
  first|(refine B5 12 rfl [0,1,2,3,4,5,6,7,8,9,10,11] A7 (A8 ?_))|(refine B5 15 rfl [0,1,2,3,4,5,6] A7 (A8 ?_))
  (repeat refine Am ?_)
  refine X4 (show (!stB (t.getD k default).stamp s)=true by rw [hb];rfl) ?_
  conv=>whnf
  (repeat refine Am ?_)
  refine Av A0 rfl rfl rfl rfl rfl rfl rfl rfl rfl rfl rfl (Cw (t.take k++[t.getD k default])) (Ad rfl) Bj Ab (A8 ?_)
  (repeat refine Am ?_)
  have hno:¬ (L8 t s∧k+1=t.length):=fun p=>heq (by have:=p.1.2;rw [show t.length-1=k by omega] at this;exact this)
  have e3:K9 t s (k+1)=t.take k++[t.getD k default]:=by
   unfold K9
   rw [if_neg hno,List.take_add_one,List.getElem?_eq_getElem hlt]
   simp [List.getD,List.getElem?_eq_getElem hlt]
  refine B6 [(3,5)] (k+1) Ab Ab ⟨rfl,congrArg (fun b=>AV.c (vb b)) (decide_eq_false hno).symm,trivial⟩ ⟨rfl,congrArg Cw e3.symm,trivial⟩ Cf A7 Cj A7
 obtain rfl:k=t.length:=by omega
 by_cases hh:L8 t s
 ·have e4:K9 t s t.length=J7 t s:=by unfold K9;rw [if_pos ⟨hh,rfl⟩]
  rw [e4,decide_eq_true (show L8 t s∧t.length=t.length from ⟨hh,rfl⟩),h1]
  repeat refine B7 ?_
  refine B2 A0 rfl rfl ?_
  exact At
 have e4:K9 t s t.length=t:=by unfold K9;rw [if_neg (fun p=>hh p.1),List.take_length]
 rw [e4,decide_eq_false (show ¬ (L8 t s∧t.length=t.length) from fun p=>hh p.1),h1,hn hh]
 repeat refine B7 ?_
 refine Av A0 rfl rfl rfl rfl rfl rfl rfl rfl rfl rfl rfl (Cw (t++[⟨s,a+1⟩])) (Ad rfl) Bj Ab (A8 ?_)
 refine B2 A0 rfl rfl ?_
 exact At
set_option maxHeartbeats 1000000 in
theorem O1 (xs:List A9)(hx:xs.length≤100000)(hp:xs.Pairwise (fun a b=>H5 a b=true)):Bi Tryz.prog 71 [.one (Aa xs)] [.one (Cw (Ef xs))]:=by
 refine Bd A0 false Tryz.func71 rfl Aw fun W=>?_
 conv=>whnf
 refine Dv 0 (Cw []) rfl (Ba rfl Cf) ?_
 refine Bv A0 false [5] (fun k:Nat=>[(4,.c (vi k))]) (fun k=>[]) (fun k=>[⟨0,Cw (Ef (xs.take k))⟩])
  (fun k=>k≤xs.length) (fun k=>xs.length-k) 0 (Nat.zero_le _) ⟨F3,trivial⟩ trivial ⟨F2,trivial⟩ Cj A7 (fun k hk=>?_)
 conv=>whnf
 refine Es (fun hlt=>?_) fun hlt=>?_<;>conv=>whnf
 ·have hlt:k<xs.length:=by omega
  obtain ⟨h1,h2⟩:=Lp hp k Ab
  have hl:=N2 (xs.take k)
  have ht:(xs.take k).length=k:=by rw [List.length_take];omega
  (repeat refine Am ?_)
  refine Cx (A3j k Ab (Ef (xs.take k)) (xs.getD k default).stamp h1 (h2 k (Nat.le_refl _) hlt) Ab) rfl (A8 ?_)
  (repeat refine Am ?_)
  refine B6 [(0,1)] (k+1) Ab Ab ⟨rfl,trivial⟩ ⟨congrArg Cw (Lq hlt).symm,trivial⟩ trivial A7 Cj A7
 obtain rfl:k=xs.length:=by omega
 rw [List.take_length]
 refine B2 A0 rfl rfl ?_
 exact At
theorem Z4 (x:A6)(h:x.w≤100000):Bi Tryz.prog 39 [.agg x.c] [.one (Cw (Ef (Dc x)))]:=by
 have hpw:=Na x
 have hpl:(Dc x).length≤x.w:=by
  rw [show Dc x=Cv (I4 x) from rfl,Gc,I5,List.length_append]
  exact hpw
 refine Bd A0 false Tryz.func39 rfl Aw fun W=>?_
 conv=>whnf
 refine Cx (K4 x Ab) rfl (A8 ?_)
 refine Cx (O1 (Dc x) Ab (J4 _)) rfl (A8 ?_)
 refine B2 A0 rfl rfl ?_
 exact At
def Kb (t:List Bq):Int:=(t.map fun c=>c.n).sum
theorem Nz {t:List Bq}{k:Nat}(h:k<t.length):Kb (t.take (k+1))=Kb (t.take k)+(t.getD k default).n:=by
 unfold Kb
 rw [List.take_add_one,List.getElem?_eq_getElem h,List.map_append,List.sum_append]
 simp [List.getD,List.getElem?_eq_getElem h]
theorem A5j {m:Nat}{t:List Bq}(h:Sl m t)(k:Nat)(hk:k≤t.length):0≤Kb (t.take k)∧Kb (t.take k)≤k * m:=by
 induction k with
 |zero=>exact ⟨Int.le_refl _,by simp [Kb]⟩
 |succ k ih=>
  obtain ⟨i1,i2⟩:=ih Ab
  obtain ⟨_,c1,c2⟩:=h.ok _ (B9 (d:=(default:Bq)) (show k<t.length by omega))
  rw [Nz Ab]
  refine ⟨by omega,?_⟩
  rw [Int.natCast_add,Int.add_mul,Int.natCast_one,Int.one_mul]
  omega
theorem Vh (m:Nat)(hm:m≤100000)(t:List Bq)(h:Sl m t)(hl:t.length≤100000):Bi Tryz.prog 43 [.one (Cw t)] [.one (vi (Kb t))]:=by
 refine Bd A0 false Tryz.func43 rfl Aw fun W=>?_
 conv=>whnf
 refine Bv A0 false [] (fun k:Nat=>[(3,.c (vi (Kb (t.take k)))),(4,.c (vi k))]) (fun k=>[]) (fun k=>[])
  (fun k=>k≤t.length) (fun k=>t.length-k) 0 (Nat.zero_le _) ⟨F3,F3,trivial⟩ trivial trivial Cj A7 (fun k hk=>?_)
 conv=>whnf
 refine Es (fun hlt=>?_) fun hlt=>?_<;>conv=>whnf
 ·have hlt:k<t.length:=by omega
  have h1:=A5j h (k+1) hlt
  have h2:(k+1) * m≤100000 * 100000:=Nat.mul_le_mul Ab hm
  have h3:(((k+1:Nat):Int)) * (m:Int)=(((k+1) * m:Nat):Int):=by rw [Int.natCast_mul]
  rw [Nz hlt,h3] at h1
  have h4:=A5j h k Ab
  have h5:(t.getD (k:Int).toNat default).n=(t.getD k default).n:=by rw [Int.toNat_natCast]
  (repeat refine Am ?_)
  refine B6 [] (k+1) Ab Ab ⟨congrArg (fun n=>AV.c (vi n)) (Nz hlt).symm,rfl,trivial⟩ trivial trivial A7 Cj A7
 rw [E6 t k Ab]
 repeat refine B7 ?_
 refine B2 A0 rfl rfl ?_
 exact At
def J0 (a b:Int):Int:=if a<b then-1 else if a>b then 1 else 0
def Ja:List Int→List Int→Int
 |a::x,b::y=>if J0 a b=0 then Ja x y else J0 a b
 |_,_=>0
theorem A6q {a b:List Int}{k:Nat}(h:k<a.length)(hl:a.length=b.length):Ja (a.drop k) (b.drop k)=if J0 (a.getD k default) (b.getD k default)=0 then Ja (a.drop (k+1)) (b.drop (k+1)) else J0 (a.getD k default) (b.getD k default):=by
 have h2:k<b.length:=by omega
 rw [List.drop_eq_getElem_cons h,List.drop_eq_getElem_cons h2,Ja,List.getD,List.getD,List.getElem?_eq_getElem h,List.getElem?_eq_getElem h2]
 rfl
theorem A9t {a b:List Int}{k:Nat}(h:¬ k<a.length):Ja (a.drop k) (b.drop k)=0:=by
 rw [List.drop_of_length_le Ab]
 rfl
theorem A4q (n:Int):Bi Tryz.prog 243 [.one (vi n)] [.one (vb false)]:=by
 refine Bd A0 false Tryz.func243 rfl Aw fun W=>?_
 conv=>whnf
 exact B2 A0 rfl rfl ⟨congrArg vb Cg,trivial⟩
theorem A2t (a b:Int):Bi Tryz.prog 220 [.one (vi a),.one (vi b)] [.one (vi (J0 a b))]:=by
 refine Bd A0 false Tryz.func220 rfl Aw fun W=>?_
 conv=>whnf
 refine Az (A4q a) rfl (A8 ?_)
 refine Az (A4q b) rfl (A8 ?_)
 refine Ru (by first|with_reducible rfl|assumption|(simp only [decide_eq_false_iff_not];omega)|simp) ?_
 conv=>whnf
 refine Ru (by first|with_reducible rfl|assumption|(simp only [decide_eq_false_iff_not];omega)|simp) ?_
 conv=>whnf
 refine Es (fun h=>?_) fun h=>?_<;>conv=>whnf
 ·exact B2 A0 rfl rfl ⟨congrArg vi (by rw [J0,if_pos h]),trivial⟩
 refine Es (fun h2=>?_) fun h2=>?_<;>conv=>whnf
 ·exact B2 A0 rfl rfl ⟨congrArg vi (by rw [J0,if_neg h,if_pos h2]),trivial⟩
 exact B2 A0 rfl rfl ⟨congrArg vi (by rw [J0,if_neg h,if_neg h2]),trivial⟩
theorem A7f (a b:Int):Bi Tryz.prog 138 [.one (vi a),.one (vi b)] [.one (vi (J0 a b))]:=by
 refine Bd A0 false Tryz.func138 rfl Aw fun W=>?_
 conv=>whnf
 refine Es (fun h=>?_) fun h=>?_<;>conv=>whnf
 ·exact B2 A0 rfl rfl ⟨congrArg vi (by rw [J0,if_pos h]),trivial⟩
 refine Es (fun h2=>?_) fun h2=>?_<;>conv=>whnf
 ·exact B2 A0 rfl rfl ⟨congrArg vi (by rw [J0,if_neg h,if_pos h2]),trivial⟩
 exact B2 A0 rfl rfl ⟨congrArg vi (by rw [J0,if_neg h,if_neg h2]),trivial⟩
theorem A0q (a b:List Int)(hl:a.length=b.length)(ha:a.length≤16777216):Bi Tryz.prog 200 [.one (Ap a),.one (Ap b)] [.one (vi (Ja a b))]:=by
 refine Bd A0 false Tryz.func200 rfl Aw fun W=>?_
 conv=>whnf
 refine Bv A0 false [] (fun k:Nat=>[(11,.c (vi k))]) (fun k=>[]) (fun k=>[])
  (fun k=>k≤a.length∧Ja (a.drop k) (b.drop k)=Ja a b) (fun k=>a.length-k) 0 ⟨Nat.zero_le _,by first|rfl|assumption|simp⟩ ⟨F3,trivial⟩ trivial trivial Cj A7 (fun k hk=>?_)
 obtain ⟨hk,he⟩:=hk
 conv=>whnf
 refine Es (fun h=>?_) fun h=>?_<;>conv=>whnf
 ·have h:k<a.length:=by omega
  rw [A6q h hl] at he
  (repeat refine Am ?_)
  refine Es (fun h2=>?_) fun h2=>?_<;>conv=>whnf
  ·omega
  (repeat refine Am ?_)
  refine Az (A2t (a.getD k default) (b.getD k default)) rfl (A8 ?_)
  refine ⟨fun h3=>have h3:=bne_iff_ne.1 h3;?_,fun h3=>have h3:=bne_eq_false_iff_eq.1 h3;?_⟩<;>conv=>whnf
  ·rw [if_neg h3] at he
   exact B2 A0 rfl rfl ⟨congrArg vi he.symm,trivial⟩
  rw [if_pos h3] at he
  (repeat refine Am ?_)
  refine B6 [] (k+1) ⟨by omega,he⟩ Ab ⟨rfl,trivial⟩ trivial trivial A7 Cj A7
 rw [A9t Ab] at he
 refine Es (fun h4=>?_) fun h4=>?_<;>conv=>whnf
 ·omega
 exact B2 A0 rfl rfl ⟨congrArg vi he.symm,trivial⟩
theorem Rs (a b:List Int)(hl:a.length=b.length)(ha:a.length≤16777216):Bi Tryz.prog 172 [.one (Ap a),.one (Ap b)] [.one (vi (Ja a b))]:=by
 refine Bd A0 false Tryz.func172 rfl Aw fun W=>?_
 conv=>whnf
 refine Az (A0q a b hl ha) rfl (A8 ?_)
 exact B2 A0 rfl rfl ⟨rfl,trivial⟩
def Ps (x:Be):List Int:=[x.epoch,x.op,x.key,x.val]
def Jh (a b:Be):Int:=Ja (Ps a) (Ps b)
def A53 (a b:Be):List Int:=[J0 a.epoch b.epoch,J0 a.op b.op,J0 a.key b.key,J0 a.val b.val]
theorem U8:∀(l m:List Int) (k:Nat),(∀i,i<k→J0 (l.getD i default) (m.getD i default)=0)→l.length=m.length→k<l.length→J0 (l.getD k default) (m.getD k default)≠0→Ja l m=J0 (l.getD k default) (m.getD k default)
 | [],_,_,_,_,h,_=>by simp at h
 |_::_,[],_,_,h,_,_=>by simp at h
 |a::x,b::y,0,_,_,_,h=>by rw [Ja,if_neg (show ¬ J0 a b=0 from h)];rfl
 |a::x,b::y,k+1,h0,hl,hk,h=>by
  have:=h0 0 Ab
  rw [Ja,if_pos (show J0 a b=0 from this)]
  exact U8 x y k (fun i hi=>h0 (i+1) Ab) (by simpa using hl) (by simpa using hk) h
theorem X5:∀(l m:List Int),(∀i,i<l.length→J0 (l.getD i default) (m.getD i default)=0)→l.length=m.length→Ja l m=0
 | [],_,_,_=>by rw [Ja];simp
 |_::_,[],_,h=>by simp at h
 |a::x,b::y,h0,hl=>by
  have:=h0 0 Cg
  rw [Ja,if_pos (show J0 a b=0 from this)]
  exact X5 x y (fun i hi=>h0 (i+1) (by simpa using hi)) (by simpa using hl)
theorem Od (a b:Be):Bi Tryz.prog 139 [.agg a.c,.agg b.c] [.one (vi (Jh a b))]:=by
 refine Bd A0 false Tryz.func139 rfl Aw fun W=>?_
 conv=>whnf
 repeat' (first|(refine Oo ?_;conv=>whnf)|(refine Oq ?_;conv=>whnf)|(refine ⟨fun h=>?_,fun h=>?_⟩<;>conv=>whnf)|(refine Az (A7f _ _) rfl (A8 ?_))|(refine I8 ?_;conv=>whnf)|(refine B5 1 rfl [0,1,2,3,5,6,7,8,10,11,12,13,15,16,17,18,4,9,14,19,20,21] A7 (A8 ?_))|fail)
 refine Dv 2 (Ap (A53 a b)) rfl (Ba rfl Cf) ?_
 refine Bv A0 false [] (fun k:Nat=>[(6,.c (vi k))]) (fun k=>[]) (fun k=>[⟨2,Ap (A53 a b)⟩])
  (fun k=>k≤4∧∀i,i<k→(A53 a b).getD i default=0) (fun k=>4-k) 0 ⟨Nat.zero_le _,by first|rfl|assumption|simp⟩ ⟨F3,trivial⟩ trivial ⟨F2,trivial⟩ Cj A7 (fun k hk=>?_)
 obtain ⟨hk,he⟩:=hk
 conv=>whnf
 refine Es (fun h=>?_) fun h=>?_<;>conv=>whnf
 ·have h:k<4:=by omega
  have hk:(A53 a b).length=4:=rfl
  have hq:∀i,i<4→(A53 a b).getD i default=J0 ((Ps a).getD i default) ((Ps b).getD i default):=fun i hi=>by
   match i,hi with
   | 0,_=>rfl
   | 1,_=>rfl
   | 2,_=>rfl
   | 3,_=>rfl
  (repeat refine Am ?_)
  refine ⟨fun h3=>have h3:=bne_iff_ne.1 h3;?_,fun h3=>have h3:=bne_eq_false_iff_eq.1 h3;?_⟩<;>conv=>whnf
  ·(repeat refine Am ?_)
   exact B2 A0 rfl rfl ⟨congrArg vi ((U8 _ _ k (fun i hi=>(hq i Ab).symm.trans (he i hi)) rfl h (by rw [←hq k h];exact h3)).trans (hq k h).symm),trivial⟩
  (repeat refine Am ?_)
  refine B6 [] (k+1) ⟨by omega,fun i hi=>(Nat.lt_succ_iff_lt_or_eq.1 hi).elim (fun h4=>he i h4) (fun h4=>h4▸h3)⟩ Ab ⟨rfl,trivial⟩ ⟨rfl,trivial⟩ trivial A7 Cj A7
 have hq:∀i,i<4→(A53 a b).getD i default=J0 ((Ps a).getD i default) ((Ps b).getD i default):=fun i hi=>by
  match i,hi with
  | 0,_=>rfl
  | 1,_=>rfl
  | 2,_=>rfl
  | 3,_=>rfl
 exact B2 A0 rfl rfl ⟨congrArg vi (X5 (Ps a) (Ps b) (fun i hi=>(hq i hi).symm.trans (he i (by have:i<4:=hi;omega))) rfl),trivial⟩
def Jd (x:An):Prop:=(1≤x.kind∧x.kind≤8)∧(x.kind=2→0≤x.a∧x.a≤999∧x.b=0)∧(x.kind=3→1≤x.a∧x.a≤10∧0≤x.b∧x.b≤x.a-1)∧(x.kind=4→0≤x.a∧x.a≤99∧x.b=0)∧
 (x.kind≠2→x.kind≠3→x.kind≠4→x.a=0∧x.b=0)∧x.outs.length≤2∧(x.kind=8→x.outs.length=0)∧(x.outs.length=2→x.outs.getD 0 default≠x.outs.getD 1 default)∧(∀n∈x.outs,0≤n∧n≤7)
instance (x:An):Decidable (Jd x):=by unfold Jd;infer_instance
def Ra (x:An):Bool:=decide (Jd x)
def Zq (l:List Int) (k:Nat):Prop:=∀i,i<k→0≤l.getD i default∧l.getD i default≤7
theorem A23 {l:List Int}{k:Nat}(h:Zq l k)(h1:0≤l.getD k default)(h2:l.getD k default≤7):Zq l (k+1):=fun i hi=>by
 by_cases e:i=k
 ·subst e;exact ⟨h1,h2⟩
 exact h i Ab
theorem A64 {l:List Int}(h:Zq l l.length):∀n∈l,0≤n∧n≤7:=fun n hn=>by
 obtain ⟨i,hi,e⟩:=List.getElem_of_mem hn
 have:=h i hi
 rw [List.getD,List.getElem?_eq_getElem hi] at this
 rw [←e];exact this
def A34 (x:An):Prop:=(1≤x.kind∧x.kind≤8)∧(x.kind=2→0≤x.a∧x.a≤999∧x.b=0)∧(x.kind=3→1≤x.a∧x.a≤10∧0≤x.b∧x.b≤x.a-1)∧(x.kind=4→0≤x.a∧x.a≤99∧x.b=0)∧
 (x.kind≠2→x.kind≠3→x.kind≠4→x.a=0∧x.b=0)
theorem Jd.pars {x:An}(h:Jd x):A34 x:=⟨h.1,h.2.1,h.2.2.1,h.2.2.2.1,h.2.2.2.2.1⟩
end Go.Proofs.YtdendlkeiaccpaaGreat
