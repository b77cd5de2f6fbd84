/- Part 18 of the proof that each of the laws FnTotals returns true for every input. No conditions. -/
import Derived.Test.YtdendlkeiaccpaaGreatP5
import Derived.Test.YtdendlkeiaccpaaGreatP17
import Derived.Test.YtdendlkeiaccpaaGreatP14
import Derived.Test.YtdendlkeiaccpaaGreatP11
import Derived.Test.YtdendlkeiaccpaaGreatP13

set_option linter.unusedSimpArgs false
set_option linter.unusedVariables false
set_option maxRecDepth 100000
namespace Go.Proofs.YtdendlkeiaccpaaGreat
open Go.Sx
theorem A5a {l:List Be}{x:Be}:Do 6 l x=(Fp l x,!Kp l x):=by
 unfold Do
 rw [if_neg Aw,if_pos rfl]
 cases h:Kp l x with
 |true=>rw [if_pos rfl,Fp,if_pos h];rfl
 |false=>rw [if_neg Aw];rfl
theorem Xg {k:Int}{l:List Be}{x:Be}(h5:k≠5)(h8:k≠8)(h6:k≠6):Do k l x=(l,true):=by
 unfold Do
 rw [if_neg Ab,if_neg h6]
theorem M5 {a b:Be}(h:b.op≠a.op):(!Bt a b)=true:=by simp only [Bt,Bool.not_eq_true',decide_eq_false_iff_not];omega
theorem M6 {a b:Be}(h:b.epoch≠a.epoch):(!Bt a b)=true:=by simp only [Bt,Bool.not_eq_true',decide_eq_false_iff_not];omega
theorem M7 {a b:Be}(h:b.key≠a.key):(!Bt a b)=true:=by simp only [Bt,Bool.not_eq_true',decide_eq_false_iff_not];omega
theorem Qi {a b:Be}(h1:b.op=a.op)(h2:b.epoch=a.epoch)(h3:b.key=a.key):(!Bt a b)=false:=by simp only [Bt,Bool.not_eq_false',decide_eq_true_eq];omega
set_option maxHeartbeats 4000000 in
theorem Ve (kind:Int)(l:List Be)(x:Be)(hl:l.length≤16000000):Bi Tryz.prog 130 [.one (vi kind),.one (Bg l),.agg x.c] [.one (Bg (Do kind l x).1),.one (vb (Do kind l x).2)]:=by
 refine Bd A0 false Tryz.func130 rfl Aw fun W=>?_
 conv=>whnf
 refine Av A0 rfl rfl rfl rfl rfl rfl rfl rfl rfl rfl rfl (Bg l) (Cc) (fun _=>Ej l) Ab (A8 ?_)
 refine ⟨fun h6=>have h6:=eq_of_beq h6;?_,fun h6=>have h6:=beq_eq_false_iff_ne.1 h6;?_⟩<;>conv=>whnf
 ·refine Az (Sb l x Ab) rfl (A8 ?_)
  refine ⟨fun hc=>?_,fun hc=>?_⟩<;>conv=>whnf
  ·rw [h6,A5a,Fp,if_pos hc,hc]
   refine B2 A0 rfl rfl ?_
   exact At
  refine Cx (J6 l x Ab) rfl (A8 ?_)
  rw [h6,A5a,hc]
  refine B2 A0 rfl rfl ?_
  exact At
 refine ⟨fun h5=>have h5:=eq_of_beq h5;?_,fun h5=>have h5:=beq_eq_false_iff_ne.1 h5;?_⟩<;>conv=>whnf
 ·repeat refine B7 ?_
  refine Az (Sc l x.op x.epoch x.key Ab) rfl (A8 ?_)
  refine ⟨fun h1=>?_,fun h1=>?_⟩<;>conv=>whnf
  ·repeat refine B7 ?_
   refine ⟨fun h2=>?_,fun h2=>?_⟩<;>conv=>whnf
   ·repeat refine B7 ?_
    rw [Do,if_pos Ab,J8,if_pos ⟨h1,of_decide_eq_true h2⟩]
    refine B2 A0 rfl rfl ?_
    exact At
   repeat refine B7 ?_
   refine Dv 3 (Bg []) rfl Ds ?_
   refine Bv A0 false [48] (fun k:Nat=>[(12,.c (vi k))]) (fun k=>[⟨0,[.c (vi x.op),.c (vi x.epoch),.c (vi x.key),.c (vi x.val)]⟩]) (fun k=>[⟨3,Bg ((l.take k).filter (fun y=>!Bt x y))⟩])
    (fun k=>k≤l.length) (fun k=>l.length-k) 0 (Nat.zero_le _) ⟨F3,trivial⟩ Cf ⟨F2,trivial⟩ Cj A7 (fun k hk=>?_)
   conv=>whnf
   refine Es (fun h=>?_) fun h=>?_<;>conv=>whnf
   ·have h:k<l.length:=by omega
    have hs:=Hm (fun y=>!Bt x y) l k h
    have hb:=Fe (fun y=>!Bt x y) l k
    first|(refine B5 16 rfl [0,1,2,3,4,5,6,7,8,9,10,11,12,13,14,15,16,17,18,19,20,21,22,23,24,25,26,27] A7 (A8 ?_))
    (repeat refine Am ?_)
    refine ⟨fun n1=>have n1:=bne_iff_ne.1 n1;?_,fun n1=>have n1:=bne_eq_false_iff_eq.1 n1;?_⟩<;>conv=>whnf
    ·rw [Int.toNat_natCast] at n1
     repeat refine B7 ?_
     (repeat refine Am ?_)
     refine Av A0 rfl rfl rfl rfl rfl rfl rfl rfl rfl rfl rfl (Bg ((l.take k).filter (fun y=>!Bt x y)++[l.getD k default])) (Ad rfl) Bj Ab (A8 ?_)
     (repeat refine Am ?_)
     refine B6 [(3,5)] (k+1) Ab Ab ⟨rfl,trivial⟩ ⟨congrArg Bg (by rw [hs,if_pos (M5 n1)]),trivial⟩ Cf A7 Cj A7
    rw [Int.toNat_natCast] at n1
    repeat refine B7 ?_
    (repeat refine Am ?_)
    refine ⟨fun n2=>have n2:=bne_iff_ne.1 n2;?_,fun n2=>have n2:=bne_eq_false_iff_eq.1 n2;?_⟩<;>conv=>whnf
    ·rw [Int.toNat_natCast] at n2
     repeat refine B7 ?_
     (repeat refine Am ?_)
     refine Av A0 rfl rfl rfl rfl rfl rfl rfl rfl rfl rfl rfl (Bg ((l.take k).filter (fun y=>!Bt x y)++[l.getD k default])) (Ad rfl) Bj Ab (A8 ?_)
     (repeat refine Am ?_)
     refine B6 [(3,5)] (k+1) Ab Ab ⟨rfl,trivial⟩ ⟨congrArg Bg (by rw [hs,if_pos (M6 n2)]),trivial⟩ Cf A7 Cj A7
    rw [Int.toNat_natCast] at n2
    repeat refine B7 ?_
    (repeat refine Am ?_)
    refine ⟨fun n3=>have n3:=bne_iff_ne.1 n3;?_,fun n3=>have n3:=bne_eq_false_iff_eq.1 n3;?_⟩<;>conv=>whnf
    ·rw [Int.toNat_natCast] at n3
     repeat refine B7 ?_
     (repeat refine Am ?_)
     refine Av A0 rfl rfl rfl rfl rfl rfl rfl rfl rfl rfl rfl (Bg ((l.take k).filter (fun y=>!Bt x y)++[l.getD k default])) (Ad rfl) Bj Ab (A8 ?_)
     (repeat refine Am ?_)
     refine B6 [(3,5)] (k+1) Ab Ab ⟨rfl,trivial⟩ ⟨congrArg Bg (by rw [hs,if_pos (M7 n3)]),trivial⟩ Cf A7 Cj A7
    rw [Int.toNat_natCast] at n3
    repeat refine B7 ?_
    (repeat refine Am ?_)
    refine B6 [] (k+1) Ab Ab ⟨rfl,trivial⟩ ⟨congrArg Bg (by rw [hs,if_neg (by rw [Qi n1 n2 n3];decide),List.append_nil]),trivial⟩ Cf A7 Cj A7
   repeat refine B7 ?_
   obtain rfl:k=l.length:=by omega
   refine Cx (J6 ((l.take l.length).filter fun y=>!Bt x y) x (by have:=List.length_filter_le (fun y=>!Bt x y) (l.take l.length);rw [List.take_length] at *;omega)) rfl (A8 ?_)
   rw [Do,if_pos Ab,J8,if_neg (fun p=>absurd p.2 (of_decide_eq_false h2))]
   refine B2 A0 rfl rfl ?_
   rw [List.take_length]
   exact At
  repeat refine B7 ?_
  refine Dv 3 (Bg []) rfl Ds ?_
  refine Bv A0 false [48] (fun k:Nat=>[(12,.c (vi k))]) (fun k=>[⟨0,[.c (vi x.op),.c (vi x.epoch),.c (vi x.key),.c (vi x.val)]⟩]) (fun k=>[⟨3,Bg ((l.take k).filter (fun y=>!Bt x y))⟩])
   (fun k=>k≤l.length) (fun k=>l.length-k) 0 (Nat.zero_le _) ⟨F3,trivial⟩ Cf ⟨F2,trivial⟩ Cj A7 (fun k hk=>?_)
  conv=>whnf
  refine Es (fun h=>?_) fun h=>?_<;>conv=>whnf
  ·have h:k<l.length:=by omega
   have hs:=Hm (fun y=>!Bt x y) l k h
   have hb:=Fe (fun y=>!Bt x y) l k
   first|(refine B5 16 rfl [0,1,2,3,4,5,6,7,8,9,10,11,12,13,14,15,16,17,18,19,20,21,22,23,24,25,26,27] A7 (A8 ?_))
   (repeat refine Am ?_)
   refine ⟨fun n1=>have n1:=bne_iff_ne.1 n1;?_,fun n1=>have n1:=bne_eq_false_iff_eq.1 n1;?_⟩<;>conv=>whnf
   ·rw [Int.toNat_natCast] at n1
    repeat refine B7 ?_
    (repeat refine Am ?_)
    refine Av A0 rfl rfl rfl rfl rfl rfl rfl rfl rfl rfl rfl (Bg ((l.take k).filter (fun y=>!Bt x y)++[l.getD k default])) (Ad rfl) Bj Ab (A8 ?_)
    (repeat refine Am ?_)
    refine B6 [(3,5)] (k+1) Ab Ab ⟨rfl,trivial⟩ ⟨congrArg Bg (by rw [hs,if_pos (M5 n1)]),trivial⟩ Cf A7 Cj A7
   rw [Int.toNat_natCast] at n1
   repeat refine B7 ?_
   (repeat refine Am ?_)
   refine ⟨fun n2=>have n2:=bne_iff_ne.1 n2;?_,fun n2=>have n2:=bne_eq_false_iff_eq.1 n2;?_⟩<;>conv=>whnf
   ·rw [Int.toNat_natCast] at n2
    repeat refine B7 ?_
    (repeat refine Am ?_)
    refine Av A0 rfl rfl rfl rfl rfl rfl rfl rfl rfl rfl rfl (Bg ((l.take k).filter (fun y=>!Bt x y)++[l.getD k default])) (Ad rfl) Bj Ab (A8 ?_)
    (repeat refine Am ?_)
    refine B6 [(3,5)] (k+1) Ab Ab ⟨rfl,trivial⟩ ⟨congrArg Bg (by rw [hs,if_pos (M6 n2)]),trivial⟩ Cf A7 Cj A7
   rw [Int.toNat_natCast] at n2
   repeat refine B7 ?_
   (repeat refine Am ?_)
   refine ⟨fun n3=>have n3:=bne_iff_ne.1 n3;?_,fun n3=>have n3:=bne_eq_false_iff_eq.1 n3;?_⟩<;>conv=>whnf
   ·rw [Int.toNat_natCast] at n3
    repeat refine B7 ?_
    (repeat refine Am ?_)
    refine Av A0 rfl rfl rfl rfl rfl rfl rfl rfl rfl rfl rfl (Bg ((l.take k).filter (fun y=>!Bt x y)++[l.getD k default])) (Ad rfl) Bj Ab (A8 ?_)
    (repeat refine Am ?_)
    refine B6 [(3,5)] (k+1) Ab Ab ⟨rfl,trivial⟩ ⟨congrArg Bg (by rw [hs,if_pos (M7 n3)]),trivial⟩ Cf A7 Cj A7
   rw [Int.toNat_natCast] at n3
   repeat refine B7 ?_
   (repeat refine Am ?_)
   refine B6 [] (k+1) Ab Ab ⟨rfl,trivial⟩ ⟨congrArg Bg (by rw [hs,if_neg (by rw [Qi n1 n2 n3];decide),List.append_nil]),trivial⟩ Cf A7 Cj A7
  repeat refine B7 ?_
  obtain rfl:k=l.length:=by omega
  refine Cx (J6 ((l.take l.length).filter fun y=>!Bt x y) x (by have:=List.length_filter_le (fun y=>!Bt x y) (l.take l.length);rw [List.take_length] at *;omega)) rfl (A8 ?_)
  rw [Do,if_pos Ab,J8,if_neg (fun p=>by rw [p.1] at h1;cases h1)]
  refine B2 A0 rfl rfl ?_
  rw [List.take_length]
  exact At
 refine ⟨fun h8=>have h8:=eq_of_beq h8;?_,fun h8=>have h8:=beq_eq_false_iff_ne.1 h8;?_⟩<;>conv=>whnf
 ·repeat refine B7 ?_
  refine Az (Sc l x.op x.epoch x.key Ab) rfl (A8 ?_)
  refine ⟨fun h1=>?_,fun h1=>?_⟩<;>conv=>whnf
  ·repeat refine B7 ?_
   refine ⟨fun h2=>?_,fun h2=>?_⟩<;>conv=>whnf
   ·repeat refine B7 ?_
    rw [Do,if_pos Ab,J8,if_pos ⟨h1,of_decide_eq_true h2⟩]
    refine B2 A0 rfl rfl ?_
    exact At
   repeat refine B7 ?_
   refine Dv 3 (Bg []) rfl Ds ?_
   refine Bv A0 false [48] (fun k:Nat=>[(12,.c (vi k))]) (fun k=>[⟨0,[.c (vi x.op),.c (vi x.epoch),.c (vi x.key),.c (vi x.val)]⟩]) (fun k=>[⟨3,Bg ((l.take k).filter (fun y=>!Bt x y))⟩])
    (fun k=>k≤l.length) (fun k=>l.length-k) 0 (Nat.zero_le _) ⟨F3,trivial⟩ Cf ⟨F2,trivial⟩ Cj A7 (fun k hk=>?_)
   conv=>whnf
   refine Es (fun h=>?_) fun h=>?_<;>conv=>whnf
   ·have h:k<l.length:=by omega
    have hs:=Hm (fun y=>!Bt x y) l k h
    have hb:=Fe (fun y=>!Bt x y) l k
    first|(refine B5 16 rfl [0,1,2,3,4,5,6,7,8,9,10,11,12,13,14,15,16,17,18,19,20,21,22,23,24,25,26,27] A7 (A8 ?_))
    (repeat refine Am ?_)
    refine ⟨fun n1=>have n1:=bne_iff_ne.1 n1;?_,fun n1=>have n1:=bne_eq_false_iff_eq.1 n1;?_⟩<;>conv=>whnf
    ·rw [Int.toNat_natCast] at n1
     repeat refine B7 ?_
     (repeat refine Am ?_)
     refine Av A0 rfl rfl rfl rfl rfl rfl rfl rfl rfl rfl rfl (Bg ((l.take k).filter (fun y=>!Bt x y)++[l.getD k default])) (Ad rfl) Bj Ab (A8 ?_)
     (repeat refine Am ?_)
     refine B6 [(3,5)] (k+1) Ab Ab ⟨rfl,trivial⟩ ⟨congrArg Bg (by rw [hs,if_pos (M5 n1)]),trivial⟩ Cf A7 Cj A7
    rw [Int.toNat_natCast] at n1
    repeat refine B7 ?_
    (repeat refine Am ?_)
    refine ⟨fun n2=>have n2:=bne_iff_ne.1 n2;?_,fun n2=>have n2:=bne_eq_false_iff_eq.1 n2;?_⟩<;>conv=>whnf
    ·rw [Int.toNat_natCast] at n2
     repeat refine B7 ?_
     (repeat refine Am ?_)
     refine Av A0 rfl rfl rfl rfl rfl rfl rfl rfl rfl rfl rfl (Bg ((l.take k).filter (fun y=>!Bt x y)++[l.getD k default])) (Ad rfl) Bj Ab (A8 ?_)
     (repeat refine Am ?_)
     refine B6 [(3,5)] (k+1) Ab Ab ⟨rfl,trivial⟩ ⟨congrArg Bg (by rw [hs,if_pos (M6 n2)]),trivial⟩ Cf A7 Cj A7
    rw [Int.toNat_natCast] at n2
    repeat refine B7 ?_
    (repeat refine Am ?_)
    refine ⟨fun n3=>have n3:=bne_iff_ne.1 n3;?_,fun n3=>have n3:=bne_eq_false_iff_eq.1 n3;?_⟩<;>conv=>whnf
    ·rw [Int.toNat_natCast] at n3
     repeat refine B7 ?_
     (repeat refine Am ?_)
     refine Av A0 rfl rfl rfl rfl rfl rfl rfl rfl rfl rfl rfl (Bg ((l.take k).filter (fun y=>!Bt x y)++[l.getD k default])) (Ad rfl) Bj Ab (A8 ?_)
     (repeat refine Am ?_)
     refine B6 [(3,5)] (k+1) Ab Ab ⟨rfl,trivial⟩ ⟨congrArg Bg (by rw [hs,if_pos (M7 n3)]),trivial⟩ Cf A7 Cj A7
    rw [Int.toNat_natCast] at n3
    repeat refine B7 ?_
    (repeat refine Am ?_)
    refine B6 [] (k+1) Ab Ab ⟨rfl,trivial⟩ ⟨congrArg Bg (by rw [hs,if_neg (by rw [Qi n1 n2 n3];decide),List.append_nil]),trivial⟩ Cf A7 Cj A7
   repeat refine B7 ?_
   obtain rfl:k=l.length:=by omega
   refine Cx (J6 ((l.take l.length).filter fun y=>!Bt x y) x (by have:=List.length_filter_le (fun y=>!Bt x y) (l.take l.length);rw [List.take_length] at *;omega)) rfl (A8 ?_)
   rw [Do,if_pos Ab,J8,if_neg (fun p=>absurd p.2 (of_decide_eq_false h2))]
   refine B2 A0 rfl rfl ?_
   rw [List.take_length]
   exact At
  repeat refine B7 ?_
  refine Dv 3 (Bg []) rfl Ds ?_
  refine Bv A0 false [48] (fun k:Nat=>[(12,.c (vi k))]) (fun k=>[⟨0,[.c (vi x.op),.c (vi x.epoch),.c (vi x.key),.c (vi x.val)]⟩]) (fun k=>[⟨3,Bg ((l.take k).filter (fun y=>!Bt x y))⟩])
   (fun k=>k≤l.length) (fun k=>l.length-k) 0 (Nat.zero_le _) ⟨F3,trivial⟩ Cf ⟨F2,trivial⟩ Cj A7 (fun k hk=>?_)
  conv=>whnf
  refine Es (fun h=>?_) fun h=>?_<;>conv=>whnf
  ·have h:k<l.length:=by omega
   have hs:=Hm (fun y=>!Bt x y) l k h
   have hb:=Fe (fun y=>!Bt x y) l k
   first|(refine B5 16 rfl [0,1,2,3,4,5,6,7,8,9,10,11,12,13,14,15,16,17,18,19,20,21,22,23,24,25,26,27] A7 (A8 ?_))
   (repeat refine Am ?_)
   refine ⟨fun n1=>have n1:=bne_iff_ne.1 n1;?_,fun n1=>have n1:=bne_eq_false_iff_eq.1 n1;?_⟩<;>conv=>whnf
   ·rw [Int.toNat_natCast] at n1
    repeat refine B7 ?_
    (repeat refine Am ?_)
    refine Av A0 rfl rfl rfl rfl rfl rfl rfl rfl rfl rfl rfl (Bg ((l.take k).filter (fun y=>!Bt x y)++[l.getD k default])) (Ad rfl) Bj Ab (A8 ?_)
    (repeat refine Am ?_)
    refine B6 [(3,5)] (k+1) Ab Ab ⟨rfl,trivial⟩ ⟨congrArg Bg (by rw [hs,if_pos (M5 n1)]),trivial⟩ Cf A7 Cj A7
   rw [Int.toNat_natCast] at n1
   repeat refine B7 ?_
   (repeat refine Am ?_)
   refine ⟨fun n2=>have n2:=bne_iff_ne.1 n2;?_,fun n2=>have n2:=bne_eq_false_iff_eq.1 n2;?_⟩<;>conv=>whnf
   ·rw [Int.toNat_natCast] at n2
    repeat refine B7 ?_
    (repeat refine Am ?_)
    refine Av A0 rfl rfl rfl rfl rfl rfl rfl rfl rfl rfl rfl (Bg ((l.take k).filter (fun y=>!Bt x y)++[l.getD k default])) (Ad rfl) Bj Ab (A8 ?_)
    (repeat refine Am ?_)
    refine B6 [(3,5)] (k+1) Ab Ab ⟨rfl,trivial⟩ ⟨congrArg Bg (by rw [hs,if_pos (M6 n2)]),trivial⟩ Cf A7 Cj A7
   rw [Int.toNat_natCast] at n2
   repeat refine B7 ?_
   (repeat refine Am ?_)
   refine ⟨fun n3=>have n3:=bne_iff_ne.1 n3;?_,fun n3=>have n3:=bne_eq_false_iff_eq.1 n3;?_⟩<;>conv=>whnf
   ·rw [Int.toNat_natCast] at n3
    repeat refine B7 ?_
    (repeat refine Am ?_)
    refine Av A0 rfl rfl rfl rfl rfl rfl rfl rfl rfl rfl rfl (Bg ((l.take k).filter (fun y=>!Bt x y)++[l.getD k default])) (Ad rfl) Bj Ab (A8 ?_)
    (repeat refine Am ?_)
    refine B6 [(3,5)] (k+1) Ab Ab ⟨rfl,trivial⟩ ⟨congrArg Bg (by rw [hs,if_pos (M7 n3)]),trivial⟩ Cf A7 Cj A7
   rw [Int.toNat_natCast] at n3
   repeat refine B7 ?_
   (repeat refine Am ?_)
   refine B6 [] (k+1) Ab Ab ⟨rfl,trivial⟩ ⟨congrArg Bg (by rw [hs,if_neg (by rw [Qi n1 n2 n3];decide),List.append_nil]),trivial⟩ Cf A7 Cj A7
  repeat refine B7 ?_
  obtain rfl:k=l.length:=by omega
  refine Cx (J6 ((l.take l.length).filter fun y=>!Bt x y) x (by have:=List.length_filter_le (fun y=>!Bt x y) (l.take l.length);rw [List.take_length] at *;omega)) rfl (A8 ?_)
  rw [Do,if_pos Ab,J8,if_neg (fun p=>by rw [p.1] at h1;cases h1)]
  refine B2 A0 rfl rfl ?_
  rw [List.take_length]
  exact At
 repeat refine B7 ?_
 rw [Xg h5 h8 h6]
 refine B2 A0 rfl rfl ?_
 exact At
theorem Z8 {g:Ao}{cs:List Be}{r:A9}(h:¬ Kg g r):Er g cs r=(cs,[],false):=if_neg h
theorem A7l {g:Ao}{cs:List Be}{r:A9}(h:Kg g r)(h1:(C8 (Ak g r.op) r.key r.val).2.2=false)(h2:(Ak g r.op).kind≠8):Er g cs r=(cs,[],true):=by
 unfold Er
 rw [if_pos h,if_pos ⟨h1,h2⟩]
theorem Vm {g:Ao}{cs:List Be}{r:A9}(h:Kg g r)(h1:¬ ((C8 (Ak g r.op) r.key r.val).2.2=false∧(Ak g r.op).kind≠8))(h2:(Do (Ak g r.op).kind cs (Fs r)).2=false):Er g cs r=((Do (Ak g r.op).kind cs (Fs r)).1,[],true):=by
 unfold Er
 rw [if_pos h,if_neg h1,if_pos h2]
theorem Qm {g:Ao}{cs:List Be}{r:A9}(h:Kg g r)(h1:¬ ((C8 (Ak g r.op) r.key r.val).2.2=false∧(Ak g r.op).kind≠8))(h2:(Do (Ak g r.op).kind cs (Fs r)).2=true):Er g cs r=((Do (Ak g r.op).kind cs (Fs r)).1,Mk g r,true):=by
 unfold Er
 rw [if_pos h,if_neg h1,if_neg (by rw [h2];decide)]
def Px (r:A9) (s:Bs) (k v:Int) (o:Int):A9:=⟨o,s,k,v⟩
theorem A8t {g:Ao}{r:A9}(h7:(Ak g r.op).kind=7)(h:(D8 r.stamp).2=false):Mk g r=[]:=by
 unfold Mk
 rw [if_pos ⟨h7,h⟩]
theorem B17 {g:Ao}{r:A9}(h7:(Ak g r.op).kind=7)(h:(D8 r.stamp).2=true):Mk g r=(Ak g r.op).outs.map (Px r (D8 r.stamp).1 (C8 (Ak g r.op) r.key r.val).1 (C8 (Ak g r.op) r.key r.val).2.1):=by
 unfold Mk
 rw [if_neg (fun p=>by rw [p.2] at h;cases h),if_pos h7]
 rfl
theorem Y7 {g:Ao}{r:A9}(h7:(Ak g r.op).kind≠7):Mk g r=(Ak g r.op).outs.map (Px r r.stamp (C8 (Ak g r.op) r.key r.val).1 (C8 (Ak g r.op) r.key r.val).2.1):=by
 unfold Mk
 rw [if_neg (fun p=>h7 p.1),if_neg h7]
 rfl
theorem W5 {α β:Type} [Inhabited α] (f:α→β){l:List α}{k:Nat}(hk:k<l.length):(l.take (k+1)).map f=(l.take k).map f++[f (l.getD k default)]:=by
 rw [List.take_succ_eq_append_getElem hk,List.map_append]
 simp [List.getD,hk]
theorem A40 {g:Ao}{op:Int}(hg:g.w≤16777216)(hk:op.toNat<g.nodes.length):(Ak g op).w≤16777216∧(Ak g op).outs.length≤16777216:=by
 have:=Gv An.w g.nodes op.toNat hk
 simp only [Ao.w,wS] at hg
 simp only [Ak]
 have e:(g.nodes.getD op.toNat default).w=(g.nodes.getD op.toNat default).outs.length:=rfl
 omega
abbrev emL (g:Ao) (r:A9) (s:Bs) (k:Nat):List A9:=((Ak g r.op).outs.take k).map (Px r s (C8 (Ak g r.op) r.key r.val).1 (C8 (Ak g r.op) r.key r.val).2.1)
theorem Sv {g:Ao}{r:A9}{s:Bs}{k:Nat}(h:k<(Ak g r.op).outs.length):emL g r s (k+1)=emL g r s k++[Px r s (C8 (Ak g r.op) r.key r.val).1 (C8 (Ak g r.op) r.key r.val).2.1 ((Ak g r.op).outs.getD k default)]:=W5 _ h
theorem Y6 {g:Ao}{r:A9}{s:Bs}{k:Nat}:(emL g r s k).length≤k:=by
 simp only [emL,List.length_map,List.length_take]
 omega
theorem Y5 {g:Ao}{r:A9}{s:Bs}{k:Nat}(h:(Ak g r.op).outs.length≤k):emL g r s k=(Ak g r.op).outs.map (Px r s (C8 (Ak g r.op) r.key r.val).1 (C8 (Ak g r.op) r.key r.val).2.1):=by
 rw [emL,List.take_of_length_le h]
theorem Ov {g:Ao}{r:A9}(h:¬ Kg g r):capped g r=false:=decide_eq_false fun p=>h p.1
theorem A5x {g:Ao}{r:A9}(h:Kg g r):capped g r=(((Ak g r.op).kind==7)&&(decide (((Ak g r.op).outs.length:Int)>0)&&!(D8 r.stamp).2)):=by
 unfold capped
 rw [Bool.eq_iff_iff]
 simp only [decide_eq_true_eq,Bool.and_eq_true,beq_iff_eq,Bool.not_eq_true',h,true_and]
 constructor
 ·intro ⟨a,b,c⟩;exact ⟨a,by omega,c⟩
 intro ⟨a,b,c⟩;exact ⟨a,by omega,c⟩
theorem T1 (x:Ac):x.queue.length≤x.w∧x.staged.length≤x.w∧x.inputs.length≤x.w∧x.cells.length≤x.w∧x.sums.length≤x.w∧x.black.length≤x.w∧x.caps.length≤x.w:=by simp only [Ac.w];omega
theorem Z2 {w:Ac}{e:Int}(h:0≤e∧e<w.sums.length):Hc w e=F4 w e 1:=if_pos h
theorem A1c {w:Ac}{r:A9}(h1:w.sums.length=4)(h2:w.black.length=4)(he:0≤r.stamp.epoch∧r.stamp.epoch≤3):Ea w r=I0 (F4 (kept w r) r.stamp.epoch (-1)) r.stamp.epoch:=by
 unfold Ea
 rw [if_pos ⟨by omega,by omega,by omega⟩]
theorem A9h {g:Ao}{w:Ac}(h:¬ Kw g w):Dd g w=(w,false):=if_neg h
theorem A6m {g:Ao}{w:Ac}(h:Kw g w):Dd g w=(Iw w,true):=if_pos h
theorem B3s {g:Ao}{w:Ac}(h:¬ O3 g w):Fc g w=(w,false):=if_neg h
theorem B1n {g:Ao}{w:Ac}(h:O3 g w):Fc g w=(I7 g w,true):=if_pos h
def Ho (w f t:Int):Int:=if 0≤min f t∧max f t<w then IntKind.wrap .i64 (IntKind.wrap .i64 (f * w)+t) else-1
theorem L4 (g:Ao)(f t:Int)(hg:Et .i64 g.workers):Bi Tryz.prog 184 [.agg g.c,.one (vi f),.one (vi t)] [.one (vi (Ho g.workers f t))]:=by
 have hw:g.workers≤9223372036854775807:=hg.2
 have hw1:1≤g.workers→IntKind.wrap .i64 (g.workers-1)=g.workers-1:=fun h=>Gw (by show _∧_;omega)
 refine Bd A0 true Tryz.func184 rfl Aw fun W=>?_
 conv=>whnf
 repeat' (first|(refine Oo ?_;conv=>whnf)|(refine Oq ?_;conv=>whnf)|(refine ⟨fun h=>?_,fun h=>?_⟩<;>conv=>whnf)|(refine Az (Ep _ _ _) rfl (go A0 true ?_);conv=>whnf)|(refine Gl ?_;conv=>whnf)|fail)
 all_goals (refine B2 A0 rfl rfl ⟨congrArg vi ?_,trivial⟩;simp only [Bool.not_eq_true',Bool.not_eq_false',Go.Sx.Au,Go.Sx.Bo,decide_eq_true_eq,decide_eq_false_iff_not] at *;unfold Ho)
 ·by_cases h1:1≤g.workers
  ·have h2:=hw1 h1;rw [if_neg Ab]
  rw [if_neg Ab]
 ·by_cases h1:1≤g.workers
  ·have h2:=hw1 h1;rw [if_neg Ab]
  rw [if_neg Ab]
 ·rw [if_neg Ab]
 have h2:=hw1 Ab;rw [if_pos Ab]
theorem Sf (key n:Int)(hn:n≤9223372036854775807):Bi Tryz.prog 60 [.one (vi key),.one (vi n)] [.one (vi (Eo key n))]:=by
 refine Bd A0 false Tryz.func60 rfl Aw fun W=>?_
 conv=>whnf
 refine Es (fun h=>?_) fun h=>?_<;>conv=>whnf
 ·exact B2 A0 rfl rfl ⟨congrArg vi (by rw [Eo,if_pos h]),trivial⟩
 have h1:=Int.tmod_lt_of_pos key (show 0<n by omega)
 have h2:=Int.lt_tmod_of_pos key (show 0<n by omega)
 (repeat refine Am ?_)
 refine Es (fun h'=>?_) fun h'=>?_<;>conv=>whnf
 ·(repeat refine Am ?_)
  exact B2 A0 rfl rfl ⟨congrArg vi (by rw [Eo,if_neg h,if_pos h']),trivial⟩
 exact B2 A0 rfl rfl ⟨congrArg vi (by rw [Eo,if_neg h,if_neg h']),trivial⟩
theorem O7 {w f t:Int}(hw:1≤w∧w≤4)(hf:0≤f∧f<w)(ht:0≤t∧t<w):Ho w f t=f * w+t:=by
 unfold Ho
 rw [if_pos Ab]
 have e:w=1∨w=2∨w=3∨w=4:=by omega
 rcases e with rfl|rfl|rfl|rfl<;>rw [Gw (k:= .i64) (n:=f * _) (by show _∧_;omega),Gw (by show _∧_;omega)]
theorem Yl {w f t:Int}(h:¬ ((0≤f∧f<w)∧(0≤t∧t<w))):Ho w f t= -1:=by
 unfold Ho
 rw [if_neg Ab]
theorem R5 {c:A6}{f t:Int}(h:B4 c)(hf:0≤f∧f<c.graph.workers)(ht:0≤t∧t<c.graph.workers):0≤Ay c f t∧Ay c f t<c.links.length:=by
 have hl:=h.1.2.2.1
 have hw:=h.1.1.2.1
 clear h
 unfold Ay
 generalize c.graph.workers=n at *
 have e:n=1∨n=2∨n=3∨n=4:=by omega
 rcases e with rfl|rfl|rfl|rfl<;>omega
theorem A08 {c:A6}{w:Int}(h:¬ Gp c w):E5 c w=(c,false):=if_neg h
theorem Qc {c:A6}{w:Int}(h:Gp c w):E5 c w=(Bc c w (Fc c.graph (Af c w)).1,(Fc c.graph (Af c w)).2):=if_pos h
theorem Yu {c:A6}{w:Int}(h:¬ Gp c w):Dn c w=(c,false):=if_neg h
theorem O8 {c:A6}{w:Int}(h:Gp c w):Dn c w=(Bc c w (Dd c.graph (Af c w)).1,(Dd c.graph (Af c w)).2):=if_pos h
theorem Rx {c:A6}{w:Int}(h:¬ (Gp c w∧0<(Af c w).staged.length)):Ce c w=(c,false):=if_neg h
theorem Yw {c:A6}{w:Int}(h:Gp c w∧0<(Af c w).staged.length)(h1:Bb c w=w):Ce c w=(Bc c w (kept (E7 (Af c w)) (Bf c w)),true):=by
 unfold Ce
 rw [if_pos h,if_pos h1]
theorem W7 {c:A6}{w:Int}(h:Gp c w∧0<(Af c w).staged.length)(h1:Bb c w≠w)(h2:(Cl (Bz c (Ay c w (Bb c w))) (Bf c w)).2=false):Ce c w=(c,false):=by
 unfold Ce
 rw [if_pos h,if_neg h1,if_neg (by rw [h2];decide)]
theorem W8 {c:A6}{w:Int}(h:Gp c w∧0<(Af c w).staged.length)(h1:Bb c w≠w)(h2:(Cl (Bz c (Ay c w (Bb c w))) (Bf c w)).2=true):Ce c w=(Bc (Cb c (Ay c w (Bb c w)) (Cl (Bz c (Ay c w (Bb c w))) (Bf c w)).1) w (Hc (E7 (Af c w)) (Bf c w).stamp.epoch),true):=by
 unfold Ce
 rw [if_pos h,if_neg h1,if_pos h2]
theorem B0h {k n:Int}(hk:0≤k)(hn:1≤n):0≤Eo k n∧Eo k n<n:=by
 have h1:=Int.tmod_lt_of_pos k (show 0<n by omega)
 have h2:=Int.tmod_nonneg n hk
 unfold Eo
 (repeat' split)<;>omega
theorem Ks {c:A6}{f t:Int}(h:¬ Lg c f t):D9 c f t=(c,false):=if_neg fun p=>h p.1
theorem W9 {c:A6}{f t:Int}(h:(C3 (Bz c (Ay c f t))).2.2=false):D9 c f t=(c,false):=if_neg fun p=>by rw [p.2] at h;cases h
theorem Yx {c:A6}{f t:Int}(h:Lg c f t)(h1:(C3 (Bz c (Ay c f t))).2.2=true):D9 c f t=(Bc (Cb c (Ay c f t) (C3 (Bz c (Ay c f t))).1) t (Ea (Af c t) (C3 (Bz c (Ay c f t))).2.1),true):=if_pos ⟨h,h1⟩
theorem It {c:A6}{f t:Int}(h:¬ Lg c f t):Dl c f t=(c,false):=if_neg h
theorem Uq {c:A6}{f t:Int}(h:Lg c f t):Dl c f t=(Cb c (Ay c f t) (D3 (Bz c (Ay c f t))).1,(D3 (Bz c (Ay c f t))).2):=if_pos h
def R4 (c:A6) (f t:Int):Int:=if Lg c f t then Ay c f t else-1
theorem A0v {c:A6}{f t:Int}(hC:B4 c)(hne:f≠t):Ho c.graph.workers f t=R4 c f t:=by
 unfold R4
 by_cases h:Lg c f t
 ·rw [if_pos h,O7 hC.1.1.2.1 h.2.2.1 h.2.2.2]
  rfl
 rw [if_neg h,Yl (fun p=>h ⟨hC,hne,p⟩)]
end Go.Proofs.YtdendlkeiaccpaaGreat
