/- Part 16 of the proof that each of the laws FnSpread returns true for every input. No conditions. -/
import Derived.Test.YtdendlkeiaccpaaGreatQ5
import Derived.Test.YtdendlkeiaccpaaGreatQ15
import Derived.Test.YtdendlkeiaccpaaGreatQ13
import Derived.Test.YtdendlkeiaccpaaGreatQ9
import Derived.Test.YtdendlkeiaccpaaGreatQ7
import Derived.Test.YtdendlkeiaccpaaGreatQ14

set_option linter.unusedSimpArgs false
set_option linter.unusedVariables false
set_option maxRecDepth 100000
namespace Go.Proofs.YtdendlkeiaccpaaGreat
open Go.Sx
theorem B2u (x y:Ae):B3 Tryz.prog 267 [.agg y.c,.ptr x.c] [.one (vb (Bq x y))]:=by
 refine Aw A0 false Tryz.func267 rfl B5 fun W=>?_;conv=>whnf
 refine As (V2 x y) rfl (A7 ?_);exact Am A0 rfl rfl ⟨rfl,trivial⟩
set_option maxHeartbeats 1000000 in
theorem A0x (l:List Ae)(x:Ae)(hl:l.length≤16000000):B3 Tryz.prog 262 [.one (Ak l),.agg x.c] [.one (Ak (Ei l x).1),.one (vb (Ei l x).2)]:=by
 refine Aw A0 false Tryz.func262 rfl B5 fun W=>?_;conv=>whnf
 refine As (A8h l x.op x.epoch x.key Ad) rfl (A7 ?_);refine ⟨fun h1=>?_,fun h1=>?_⟩<;>conv=>whnf
 ·repeat refine B2 ?_
  refine ⟨fun h2=>?_,fun h2=>?_⟩<;>conv=>whnf
  ·repeat refine B2 ?_
   refine Bd (Ff l Ad) rfl (A7 ?_);rw [Ei,if_pos ⟨h1,of_decide_eq_true h2⟩];refine Am A0 rfl rfl ?_;exact B0
  repeat refine B2 ?_
  refine Bd (Ff l Ad) rfl (A7 ?_);refine B7c [.own 1] (R6 l _ x.c (fun y=>Bq x y) Ad (B2u x)) (fun _ _=>trivial) (fun _ h=>by cases h) B0 rfl rfl rfl (fun i _=>go A0 false ?_);conv=>whnf
  refine Bd (Ny (l.filter fun y=>!Bq x y) x (by have:=List.length_filter_le (fun y=>!Bq x y) l;omega)) rfl (A7 ?_);rw [Ei,if_neg (fun p=>absurd p.2 (of_decide_eq_false h2))];refine Am A0 rfl rfl ?_;exact B0
 repeat refine B2 ?_
 refine Bd (Ff l Ad) rfl (A7 ?_);refine B7c [.own 1] (R6 l _ x.c (fun y=>Bq x y) Ad (B2u x)) (fun _ _=>trivial) (fun _ h=>by cases h) B0 rfl rfl rfl (fun i _=>go A0 false ?_);conv=>whnf
 refine Bd (Ny (l.filter fun y=>!Bq x y) x (by have:=List.length_filter_le (fun y=>!Bq x y) l;omega)) rfl (A7 ?_);rw [Ei,if_neg (fun p=>by rw [p.1] at h1;cases h1)];refine Am A0 rfl rfl ?_;exact B0
theorem A6k {l:List Ae}{x:Ae}:Bs 6 l x=(Do l x,!Jn l x):=by
 unfold Bs;rw [if_neg B5,if_pos rfl]
 cases h:Jn l x with
 |true=>rw [if_pos rfl,Do,if_pos h];rfl
 |false=>rw [if_neg B5];rfl
theorem X7 {k:Int}{l:List Ae}{x:Ae}(h5:k≠5)(h8:k≠8)(h6:k≠6):Bs k l x=(l,true):=by
 unfold Bs;rw [if_neg Ad,if_neg h6]
set_option maxHeartbeats 1000000 in
theorem A08 (kind:Int)(l:List Ae)(x:Ae)(hl:l.length≤16000000):B3 Tryz.prog 255 [.one (vi kind),.one (Ak l),.agg x.c] [.one (Ak (Bs kind l x).1),.one (vb (Bs kind l x).2)]:=by
 refine Aw A0 false Tryz.func255 rfl B5 fun W=>?_;conv=>whnf
 refine ⟨fun h5=>have h5:=eq_of_beq h5;?_,fun h5=>have h5:=beq_eq_false_iff_ne.1 h5;?_⟩<;>conv=>whnf
 ·repeat refine B2 ?_
  refine Bd (A0x l x hl) rfl (A7 ?_);rw [Bs,if_pos (.inl h5)];refine Am A0 rfl rfl ?_;exact B0
 refine ⟨fun h8=>have h8:=eq_of_beq h8;?_,fun h8=>have h8:=beq_eq_false_iff_ne.1 h8;?_⟩<;>conv=>whnf
 ·repeat refine B2 ?_
  refine Bd (A0x l x hl) rfl (A7 ?_);rw [Bs,if_pos (.inr h8)];refine Am A0 rfl rfl ?_;exact B0
 repeat refine B2 ?_
 refine ⟨fun h6=>have h6:=eq_of_beq h6;?_,fun h6=>have h6:=beq_eq_false_iff_ne.1 h6;?_⟩<;>conv=>whnf
 ·first|(refine Ax 6 rfl [0,1,3,4,2,5,6,7,8] A6 (A7 ?_))
  refine Bd (Ny l x Ad) rfl (A7 ?_);refine As (Xu l x Ad) rfl (A7 ?_);rw [h6,A6k];refine Am A0 rfl rfl ?_;exact B0
 refine Bd (Ff l Ad) rfl (A7 ?_);rw [X7 h5 h8 h6];refine Am A0 rfl rfl ?_;exact B0
theorem Q8 {a b:Ae}(h:b.op≠a.op):(!Bq a b)=true:=by simp only [Bq,Bool.not_eq_true',decide_eq_false_iff_not];omega
theorem Q9 {a b:Ae}(h:b.epoch≠a.epoch):(!Bq a b)=true:=by simp only [Bq,Bool.not_eq_true',decide_eq_false_iff_not];omega
theorem Qa {a b:Ae}(h:b.key≠a.key):(!Bq a b)=true:=by simp only [Bq,Bool.not_eq_true',decide_eq_false_iff_not];omega
theorem Vw {a b:Ae}(h1:b.op=a.op)(h2:b.epoch=a.epoch)(h3:b.key=a.key):(!Bq a b)=false:=by simp only [Bq,Bool.not_eq_false',decide_eq_true_eq];omega
set_option maxHeartbeats 4000000 in
theorem Ua (kind:Int)(l:List Ae)(x:Ae)(hl:l.length≤16000000):B3 Tryz.prog 130 [.one (vi kind),.one (Ak l),.agg x.c] [.one (Ak (Bs kind l x).1),.one (vb (Bs kind l x).2)]:=by
 refine Aw A0 false Tryz.func130 rfl B5 fun W=>?_;conv=>whnf
 refine Bj A0 rfl rfl rfl rfl rfl rfl rfl rfl rfl rfl rfl (Ak l) (C9) (fun _=>Ex l) Ad (A7 ?_);refine ⟨fun h6=>have h6:=eq_of_beq h6;?_,fun h6=>have h6:=beq_eq_false_iff_ne.1 h6;?_⟩<;>conv=>whnf
 ·refine As (Ya l x Ad) rfl (A7 ?_)
  refine ⟨fun hc=>?_,fun hc=>?_⟩<;>conv=>whnf
  ·rw [h6,A6k,Do,if_pos hc,hc]
   refine Am A0 rfl rfl ?_;exact B0
  refine Bd (K5 l x Ad) rfl (A7 ?_);rw [h6,A6k,hc];refine Am A0 rfl rfl ?_;exact B0
 refine ⟨fun h5=>have h5:=eq_of_beq h5;?_,fun h5=>have h5:=beq_eq_false_iff_ne.1 h5;?_⟩<;>conv=>whnf
 ·repeat refine B2 ?_
  refine As (Yb l x.op x.epoch x.key Ad) rfl (A7 ?_);refine ⟨fun h1=>?_,fun h1=>?_⟩<;>conv=>whnf
  ·repeat refine B2 ?_
   refine ⟨fun h2=>?_,fun h2=>?_⟩<;>conv=>whnf
   ·repeat refine B2 ?_
    rw [Bs,if_pos Ad,Ei,if_pos ⟨h1,of_decide_eq_true h2⟩];refine Am A0 rfl rfl ?_;exact B0
   repeat refine B2 ?_
   refine Es 3 (Ak []) rfl Cq ?_
   refine Bk A0 false [48] (fun k:Nat=>[(12,.c (vi k))]) (fun k=>[⟨0,[.c (vi x.op),.c (vi x.epoch),.c (vi x.key),.c (vi x.val)]⟩]) (fun k=>[⟨3,Ak ((l.take k).filter (fun y=>!Bq x y))⟩])
    (fun k=>k≤l.length) (fun k=>l.length-k) 0 (Nat.zero_le _) ⟨F0,trivial⟩ C2 ⟨Dm,trivial⟩ C1 A6 (fun k hk=>?_)
   conv=>whnf
   refine Eo (fun h=>?_) fun h=>?_<;>conv=>whnf
   ·have h:k<l.length:=by omega
    have hs:=E4 (fun y=>!Bq x y) l k h;have hb:=Dd (fun y=>!Bq x y) l k
    first|(refine Ax 16 rfl [0,1,2,3,4,5,6,7,8,9,10,11,12,13,14,15,16,17,18,19,20,21,22,23,24,25,26,27] A6 (A7 ?_))
    (repeat refine Ap ?_);refine ⟨fun n1=>have n1:=bne_iff_ne.1 n1;?_,fun n1=>have n1:=bne_eq_false_iff_eq.1 n1;?_⟩<;>conv=>whnf
    ·rw [Int.toNat_natCast] at n1
     repeat refine B2 ?_
     refine Bj A0 rfl rfl rfl rfl rfl rfl rfl rfl rfl rfl rfl (Ak ((l.take k).filter (fun y=>!Bq x y)++[l.getD k default])) (An rfl) C6 Ad (A7 ?_);(repeat refine Ap ?_);refine Az [(3,5)] (k+1) Ad Ad ⟨rfl,trivial⟩ ⟨congrArg Ak (by rw [hs,if_pos (Q8 n1)]),trivial⟩ C2 A6 C1 A6
    rw [Int.toNat_natCast] at n1
    repeat refine B2 ?_
    refine ⟨fun n2=>have n2:=bne_iff_ne.1 n2;?_,fun n2=>have n2:=bne_eq_false_iff_eq.1 n2;?_⟩<;>conv=>whnf
    ·rw [Int.toNat_natCast] at n2
     repeat refine B2 ?_
     refine Bj A0 rfl rfl rfl rfl rfl rfl rfl rfl rfl rfl rfl (Ak ((l.take k).filter (fun y=>!Bq x y)++[l.getD k default])) (An rfl) C6 Ad (A7 ?_);(repeat refine Ap ?_);refine Az [(3,5)] (k+1) Ad Ad ⟨rfl,trivial⟩ ⟨congrArg Ak (by rw [hs,if_pos (Q9 n2)]),trivial⟩ C2 A6 C1 A6
    rw [Int.toNat_natCast] at n2
    repeat refine B2 ?_
    refine ⟨fun n3=>have n3:=bne_iff_ne.1 n3;?_,fun n3=>have n3:=bne_eq_false_iff_eq.1 n3;?_⟩<;>conv=>whnf
    ·rw [Int.toNat_natCast] at n3
     repeat refine B2 ?_
     refine Bj A0 rfl rfl rfl rfl rfl rfl rfl rfl rfl rfl rfl (Ak ((l.take k).filter (fun y=>!Bq x y)++[l.getD k default])) (An rfl) C6 Ad (A7 ?_);(repeat refine Ap ?_);refine Az [(3,5)] (k+1) Ad Ad ⟨rfl,trivial⟩ ⟨congrArg Ak (by rw [hs,if_pos (Qa n3)]),trivial⟩ C2 A6 C1 A6
    rw [Int.toNat_natCast] at n3
    repeat refine B2 ?_
    refine Az [] (k+1) Ad Ad ⟨rfl,trivial⟩ ⟨congrArg Ak (by rw [hs,if_neg (by rw [Vw n1 n2 n3];decide),List.append_nil]),trivial⟩ C2 A6 C1 A6
   repeat refine B2 ?_
   obtain rfl:k=l.length:=by omega
   refine Bd (K5 ((l.take l.length).filter fun y=>!Bq x y) x (by have:=List.length_filter_le (fun y=>!Bq x y) (l.take l.length);rw [List.take_length] at *;omega)) rfl (A7 ?_);rw [Bs,if_pos Ad,Ei,if_neg (fun p=>absurd p.2 (of_decide_eq_false h2))];refine Am A0 rfl rfl ?_;rw [List.take_length];exact B0
  repeat refine B2 ?_
  refine Es 3 (Ak []) rfl Cq ?_
  refine Bk A0 false [48] (fun k:Nat=>[(12,.c (vi k))]) (fun k=>[⟨0,[.c (vi x.op),.c (vi x.epoch),.c (vi x.key),.c (vi x.val)]⟩]) (fun k=>[⟨3,Ak ((l.take k).filter (fun y=>!Bq x y))⟩])
   (fun k=>k≤l.length) (fun k=>l.length-k) 0 (Nat.zero_le _) ⟨F0,trivial⟩ C2 ⟨Dm,trivial⟩ C1 A6 (fun k hk=>?_)
  conv=>whnf
  refine Eo (fun h=>?_) fun h=>?_<;>conv=>whnf
  ·have h:k<l.length:=by omega
   have hs:=E4 (fun y=>!Bq x y) l k h;have hb:=Dd (fun y=>!Bq x y) l k
   first|(refine Ax 16 rfl [0,1,2,3,4,5,6,7,8,9,10,11,12,13,14,15,16,17,18,19,20,21,22,23,24,25,26,27] A6 (A7 ?_))
   (repeat refine Ap ?_);refine ⟨fun n1=>have n1:=bne_iff_ne.1 n1;?_,fun n1=>have n1:=bne_eq_false_iff_eq.1 n1;?_⟩<;>conv=>whnf
   ·rw [Int.toNat_natCast] at n1
    repeat refine B2 ?_
    refine Bj A0 rfl rfl rfl rfl rfl rfl rfl rfl rfl rfl rfl (Ak ((l.take k).filter (fun y=>!Bq x y)++[l.getD k default])) (An rfl) C6 Ad (A7 ?_);(repeat refine Ap ?_);refine Az [(3,5)] (k+1) Ad Ad ⟨rfl,trivial⟩ ⟨congrArg Ak (by rw [hs,if_pos (Q8 n1)]),trivial⟩ C2 A6 C1 A6
   rw [Int.toNat_natCast] at n1
   repeat refine B2 ?_
   refine ⟨fun n2=>have n2:=bne_iff_ne.1 n2;?_,fun n2=>have n2:=bne_eq_false_iff_eq.1 n2;?_⟩<;>conv=>whnf
   ·rw [Int.toNat_natCast] at n2
    repeat refine B2 ?_
    refine Bj A0 rfl rfl rfl rfl rfl rfl rfl rfl rfl rfl rfl (Ak ((l.take k).filter (fun y=>!Bq x y)++[l.getD k default])) (An rfl) C6 Ad (A7 ?_);(repeat refine Ap ?_);refine Az [(3,5)] (k+1) Ad Ad ⟨rfl,trivial⟩ ⟨congrArg Ak (by rw [hs,if_pos (Q9 n2)]),trivial⟩ C2 A6 C1 A6
   rw [Int.toNat_natCast] at n2
   repeat refine B2 ?_
   refine ⟨fun n3=>have n3:=bne_iff_ne.1 n3;?_,fun n3=>have n3:=bne_eq_false_iff_eq.1 n3;?_⟩<;>conv=>whnf
   ·rw [Int.toNat_natCast] at n3
    repeat refine B2 ?_
    refine Bj A0 rfl rfl rfl rfl rfl rfl rfl rfl rfl rfl rfl (Ak ((l.take k).filter (fun y=>!Bq x y)++[l.getD k default])) (An rfl) C6 Ad (A7 ?_);(repeat refine Ap ?_);refine Az [(3,5)] (k+1) Ad Ad ⟨rfl,trivial⟩ ⟨congrArg Ak (by rw [hs,if_pos (Qa n3)]),trivial⟩ C2 A6 C1 A6
   rw [Int.toNat_natCast] at n3
   repeat refine B2 ?_
   refine Az [] (k+1) Ad Ad ⟨rfl,trivial⟩ ⟨congrArg Ak (by rw [hs,if_neg (by rw [Vw n1 n2 n3];decide),List.append_nil]),trivial⟩ C2 A6 C1 A6
  repeat refine B2 ?_
  obtain rfl:k=l.length:=by omega
  refine Bd (K5 ((l.take l.length).filter fun y=>!Bq x y) x (by have:=List.length_filter_le (fun y=>!Bq x y) (l.take l.length);rw [List.take_length] at *;omega)) rfl (A7 ?_);rw [Bs,if_pos Ad,Ei,if_neg (fun p=>by rw [p.1] at h1;cases h1)];refine Am A0 rfl rfl ?_;rw [List.take_length];exact B0
 refine ⟨fun h8=>have h8:=eq_of_beq h8;?_,fun h8=>have h8:=beq_eq_false_iff_ne.1 h8;?_⟩<;>conv=>whnf
 ·repeat refine B2 ?_
  refine As (Yb l x.op x.epoch x.key Ad) rfl (A7 ?_);refine ⟨fun h1=>?_,fun h1=>?_⟩<;>conv=>whnf
  ·repeat refine B2 ?_
   refine ⟨fun h2=>?_,fun h2=>?_⟩<;>conv=>whnf
   ·repeat refine B2 ?_
    rw [Bs,if_pos Ad,Ei,if_pos ⟨h1,of_decide_eq_true h2⟩];refine Am A0 rfl rfl ?_;exact B0
   repeat refine B2 ?_
   refine Es 3 (Ak []) rfl Cq ?_
   refine Bk A0 false [48] (fun k:Nat=>[(12,.c (vi k))]) (fun k=>[⟨0,[.c (vi x.op),.c (vi x.epoch),.c (vi x.key),.c (vi x.val)]⟩]) (fun k=>[⟨3,Ak ((l.take k).filter (fun y=>!Bq x y))⟩])
    (fun k=>k≤l.length) (fun k=>l.length-k) 0 (Nat.zero_le _) ⟨F0,trivial⟩ C2 ⟨Dm,trivial⟩ C1 A6 (fun k hk=>?_)
   conv=>whnf
   refine Eo (fun h=>?_) fun h=>?_<;>conv=>whnf
   ·have h:k<l.length:=by omega
    have hs:=E4 (fun y=>!Bq x y) l k h;have hb:=Dd (fun y=>!Bq x y) l k
    first|(refine Ax 16 rfl [0,1,2,3,4,5,6,7,8,9,10,11,12,13,14,15,16,17,18,19,20,21,22,23,24,25,26,27] A6 (A7 ?_))
    (repeat refine Ap ?_);refine ⟨fun n1=>have n1:=bne_iff_ne.1 n1;?_,fun n1=>have n1:=bne_eq_false_iff_eq.1 n1;?_⟩<;>conv=>whnf
    ·rw [Int.toNat_natCast] at n1
     repeat refine B2 ?_
     refine Bj A0 rfl rfl rfl rfl rfl rfl rfl rfl rfl rfl rfl (Ak ((l.take k).filter (fun y=>!Bq x y)++[l.getD k default])) (An rfl) C6 Ad (A7 ?_);(repeat refine Ap ?_);refine Az [(3,5)] (k+1) Ad Ad ⟨rfl,trivial⟩ ⟨congrArg Ak (by rw [hs,if_pos (Q8 n1)]),trivial⟩ C2 A6 C1 A6
    rw [Int.toNat_natCast] at n1
    repeat refine B2 ?_
    refine ⟨fun n2=>have n2:=bne_iff_ne.1 n2;?_,fun n2=>have n2:=bne_eq_false_iff_eq.1 n2;?_⟩<;>conv=>whnf
    ·rw [Int.toNat_natCast] at n2
     repeat refine B2 ?_
     refine Bj A0 rfl rfl rfl rfl rfl rfl rfl rfl rfl rfl rfl (Ak ((l.take k).filter (fun y=>!Bq x y)++[l.getD k default])) (An rfl) C6 Ad (A7 ?_);(repeat refine Ap ?_);refine Az [(3,5)] (k+1) Ad Ad ⟨rfl,trivial⟩ ⟨congrArg Ak (by rw [hs,if_pos (Q9 n2)]),trivial⟩ C2 A6 C1 A6
    rw [Int.toNat_natCast] at n2
    repeat refine B2 ?_
    refine ⟨fun n3=>have n3:=bne_iff_ne.1 n3;?_,fun n3=>have n3:=bne_eq_false_iff_eq.1 n3;?_⟩<;>conv=>whnf
    ·rw [Int.toNat_natCast] at n3
     repeat refine B2 ?_
     refine Bj A0 rfl rfl rfl rfl rfl rfl rfl rfl rfl rfl rfl (Ak ((l.take k).filter (fun y=>!Bq x y)++[l.getD k default])) (An rfl) C6 Ad (A7 ?_);(repeat refine Ap ?_);refine Az [(3,5)] (k+1) Ad Ad ⟨rfl,trivial⟩ ⟨congrArg Ak (by rw [hs,if_pos (Qa n3)]),trivial⟩ C2 A6 C1 A6
    rw [Int.toNat_natCast] at n3
    repeat refine B2 ?_
    refine Az [] (k+1) Ad Ad ⟨rfl,trivial⟩ ⟨congrArg Ak (by rw [hs,if_neg (by rw [Vw n1 n2 n3];decide),List.append_nil]),trivial⟩ C2 A6 C1 A6
   repeat refine B2 ?_
   obtain rfl:k=l.length:=by omega
   refine Bd (K5 ((l.take l.length).filter fun y=>!Bq x y) x (by have:=List.length_filter_le (fun y=>!Bq x y) (l.take l.length);rw [List.take_length] at *;omega)) rfl (A7 ?_);rw [Bs,if_pos Ad,Ei,if_neg (fun p=>absurd p.2 (of_decide_eq_false h2))];refine Am A0 rfl rfl ?_;rw [List.take_length];exact B0
  repeat refine B2 ?_
  refine Es 3 (Ak []) rfl Cq ?_
  refine Bk A0 false [48] (fun k:Nat=>[(12,.c (vi k))]) (fun k=>[⟨0,[.c (vi x.op),.c (vi x.epoch),.c (vi x.key),.c (vi x.val)]⟩]) (fun k=>[⟨3,Ak ((l.take k).filter (fun y=>!Bq x y))⟩])
   (fun k=>k≤l.length) (fun k=>l.length-k) 0 (Nat.zero_le _) ⟨F0,trivial⟩ C2 ⟨Dm,trivial⟩ C1 A6 (fun k hk=>?_)
  conv=>whnf
  refine Eo (fun h=>?_) fun h=>?_<;>conv=>whnf
  ·have h:k<l.length:=by omega
   have hs:=E4 (fun y=>!Bq x y) l k h;have hb:=Dd (fun y=>!Bq x y) l k
   first|(refine Ax 16 rfl [0,1,2,3,4,5,6,7,8,9,10,11,12,13,14,15,16,17,18,19,20,21,22,23,24,25,26,27] A6 (A7 ?_))
   (repeat refine Ap ?_);refine ⟨fun n1=>have n1:=bne_iff_ne.1 n1;?_,fun n1=>have n1:=bne_eq_false_iff_eq.1 n1;?_⟩<;>conv=>whnf
   ·rw [Int.toNat_natCast] at n1
    repeat refine B2 ?_
    refine Bj A0 rfl rfl rfl rfl rfl rfl rfl rfl rfl rfl rfl (Ak ((l.take k).filter (fun y=>!Bq x y)++[l.getD k default])) (An rfl) C6 Ad (A7 ?_);(repeat refine Ap ?_);refine Az [(3,5)] (k+1) Ad Ad ⟨rfl,trivial⟩ ⟨congrArg Ak (by rw [hs,if_pos (Q8 n1)]),trivial⟩ C2 A6 C1 A6
   rw [Int.toNat_natCast] at n1
   repeat refine B2 ?_
   refine ⟨fun n2=>have n2:=bne_iff_ne.1 n2;?_,fun n2=>have n2:=bne_eq_false_iff_eq.1 n2;?_⟩<;>conv=>whnf
   ·rw [Int.toNat_natCast] at n2
    repeat refine B2 ?_
    refine Bj A0 rfl rfl rfl rfl rfl rfl rfl rfl rfl rfl rfl (Ak ((l.take k).filter (fun y=>!Bq x y)++[l.getD k default])) (An rfl) C6 Ad (A7 ?_);(repeat refine Ap ?_);refine Az [(3,5)] (k+1) Ad Ad ⟨rfl,trivial⟩ ⟨congrArg Ak (by rw [hs,if_pos (Q9 n2)]),trivial⟩ C2 A6 C1 A6
   rw [Int.toNat_natCast] at n2
   repeat refine B2 ?_
   refine ⟨fun n3=>have n3:=bne_iff_ne.1 n3;?_,fun n3=>have n3:=bne_eq_false_iff_eq.1 n3;?_⟩<;>conv=>whnf
   ·rw [Int.toNat_natCast] at n3
    repeat refine B2 ?_
    refine Bj A0 rfl rfl rfl rfl rfl rfl rfl rfl rfl rfl rfl (Ak ((l.take k).filter (fun y=>!Bq x y)++[l.getD k default])) (An rfl) C6 Ad (A7 ?_);(repeat refine Ap ?_);refine Az [(3,5)] (k+1) Ad Ad ⟨rfl,trivial⟩ ⟨congrArg Ak (by rw [hs,if_pos (Qa n3)]),trivial⟩ C2 A6 C1 A6
   rw [Int.toNat_natCast] at n3
   repeat refine B2 ?_
   refine Az [] (k+1) Ad Ad ⟨rfl,trivial⟩ ⟨congrArg Ak (by rw [hs,if_neg (by rw [Vw n1 n2 n3];decide),List.append_nil]),trivial⟩ C2 A6 C1 A6
  repeat refine B2 ?_
  obtain rfl:k=l.length:=by omega
  refine Bd (K5 ((l.take l.length).filter fun y=>!Bq x y) x (by have:=List.length_filter_le (fun y=>!Bq x y) (l.take l.length);rw [List.take_length] at *;omega)) rfl (A7 ?_);rw [Bs,if_pos Ad,Ei,if_neg (fun p=>by rw [p.1] at h1;cases h1)];refine Am A0 rfl rfl ?_;rw [List.take_length];exact B0
 repeat refine B2 ?_
 rw [X7 h5 h8 h6];refine Am A0 rfl rfl ?_;exact B0
theorem Sl {g:Ah}{cs:List Ae}{r:Aa}(h:¬ Kb g r):Cj g cs r=(cs,[],false):=if_neg h
theorem A4r {g:Ah}{cs:List Ae}{r:Aa}(h:Kb g r)(h1:(B9 (Ac g r.op) r.key r.val).2.2=false)(h2:(Ac g r.op).kind≠8):Cj g cs r=(cs,[],true):=by
 unfold Cj;rw [if_pos h,if_pos ⟨h1,h2⟩]
theorem Qe {g:Ah}{cs:List Ae}{r:Aa}(h:Kb g r)(h1:¬ ((B9 (Ac g r.op) r.key r.val).2.2=false∧(Ac g r.op).kind≠8))(h2:(Bs (Ac g r.op).kind cs (Co r)).2=false):Cj g cs r=((Bs (Ac g r.op).kind cs (Co r)).1,[],true):=by
 unfold Cj;rw [if_pos h,if_neg h1,if_pos h2]
theorem Kt {g:Ah}{cs:List Ae}{r:Aa}(h:Kb g r)(h1:¬ ((B9 (Ac g r.op) r.key r.val).2.2=false∧(Ac g r.op).kind≠8))(h2:(Bs (Ac g r.op).kind cs (Co r)).2=true):Cj g cs r=((Bs (Ac g r.op).kind cs (Co r)).1,Hj g r,true):=by
 unfold Cj;rw [if_pos h,if_neg h1,if_neg (by rw [h2];decide)]
def Om (r:Aa) (s:Fo) (k v:Int) (o:Int):Aa:=⟨o,s,k,v⟩
theorem A0f {g:Ah}{r:Aa}(h7:(Ac g r.op).kind=7)(h:(Ch r.stamp).2=false):Hj g r=[]:=by
 unfold Hj;rw [if_pos ⟨h7,h⟩]
theorem A5k {g:Ah}{r:Aa}(h7:(Ac g r.op).kind=7)(h:(Ch r.stamp).2=true):Hj g r=(Ac g r.op).outs.map (Om r (Ch r.stamp).1 (B9 (Ac g r.op) r.key r.val).1 (B9 (Ac g r.op) r.key r.val).2.1):=by
 unfold Hj;rw [if_neg (fun p=>by rw [p.2] at h;cases h),if_pos h7];rfl
theorem Us {g:Ah}{r:Aa}(h7:(Ac g r.op).kind≠7):Hj g r=(Ac g r.op).outs.map (Om r r.stamp (B9 (Ac g r.op) r.key r.val).1 (B9 (Ac g r.op) r.key r.val).2.1):=by
 unfold Hj;rw [if_neg (fun p=>h7 p.1),if_neg h7];rfl
theorem A26 {α β:Type} [Inhabited α] (f:α→β){l:List α}{k:Nat}(hk:k<l.length):(l.take (k+1)).map f=(l.take k).map f++[f (l.getD k default)]:=by
 rw [List.take_succ_eq_append_getElem hk,List.map_append]
 simp [List.getD,hk]
theorem Vg {g:Ah}{op:Int}(hg:g.w≤16777216)(hk:op.toNat<g.nodes.length):(Ac g op).w≤16777216∧(Ac g op).outs.length≤16777216:=by
 have:=I5 Bw.w g.nodes op.toNat hk
 simp only [Ah.w,wS] at hg;simp only [Ac];have e:(g.nodes.getD op.toNat default).w=(g.nodes.getD op.toNat default).outs.length:=rfl;omega
abbrev emL (g:Ah) (r:Aa) (s:Fo) (k:Nat):List Aa:=((Ac g r.op).outs.take k).map (Om r s (B9 (Ac g r.op) r.key r.val).1 (B9 (Ac g r.op) r.key r.val).2.1)
theorem Nq {g:Ah}{r:Aa}{s:Fo}{k:Nat}(h:k<(Ac g r.op).outs.length):emL g r s (k+1)=emL g r s k++[Om r s (B9 (Ac g r.op) r.key r.val).1 (B9 (Ac g r.op) r.key r.val).2.1 ((Ac g r.op).outs.getD k default)]:=A26 _ h
theorem R2 {g:Ah}{r:Aa}{s:Fo}{k:Nat}:(emL g r s k).length≤k:=by
 simp only [emL,List.length_map,List.length_take];omega
theorem R1 {g:Ah}{r:Aa}{s:Fo}{k:Nat}(h:(Ac g r.op).outs.length≤k):emL g r s k=(Ac g r.op).outs.map (Om r s (B9 (Ac g r.op) r.key r.val).1 (B9 (Ac g r.op) r.key r.val).2.1):=by
 rw [emL,List.take_of_length_le h]
set_option maxHeartbeats 4000000 in
theorem B08 (g:Ah)(cs:List Ae)(r:Aa)(hg:g.w≤16777216)(hl:cs.length≤16000000):B3 Tryz.prog 245 [.agg g.c,.one (Ak cs),.agg r.c] [.one (Ak (Cj g cs r).1),.one (Af (Cj g cs r).2.1),.one (vb (Cj g cs r).2.2)]:=by
 refine Aw A0 false Tryz.func245 rfl B5 fun W=>?_;conv=>whnf
 refine As (K0 g Ad) rfl (A7 ?_);refine ⟨fun h1=>?_,fun h1=>?_⟩<;>conv=>whnf
 ·have h1:F1 g=false:=by simpa using h1
  repeat refine B2 ?_
  refine Bd (Ff cs Ad) rfl (A7 ?_);rw [Sl (fun p=>absurd p.1 (of_decide_eq_false h1))];refine Am A0 rfl rfl ?_;exact B0
 have h1:Ea g:=of_decide_eq_true (show F1 g=true by simpa using h1)
 repeat refine B2 ?_
 refine As (J0 r) rfl (A7 ?_)
 repeat refine B2 ?_
 refine ⟨fun h2=>?_,fun h2=>?_⟩<;>conv=>whnf
 ·have h2:Ev r=false:=by simpa using h2
  repeat refine B2 ?_
  refine Bd (Ff cs Ad) rfl (A7 ?_);rw [Sl (fun p=>absurd p.2.1 (of_decide_eq_false h2))];refine Am A0 rfl rfl ?_;exact B0
 have h2:H2 r:=of_decide_eq_true (show Ev r=true by simpa using h2)
 repeat refine B2 ?_
 refine As (Pu g r.op hg) rfl (A7 ?_)
 repeat refine B2 ?_
 refine ⟨fun h3=>?_,fun h3=>?_⟩<;>conv=>whnf
 ·have h3:E6 r.op 0 (g.nodes.length-1)=false:=by simpa using h3
  have h4:=Go.Sx.B4.1 h3
  repeat refine B2 ?_
  refine Bd (Ff cs Ad) rfl (A7 ?_);rw [Sl (fun p=>h4 ⟨h2.1.1,by have:=p.2.2;omega⟩)];refine Am A0 rfl rfl ?_;exact B0
 have h3:E6 r.op 0 (g.nodes.length-1)=true:=by simpa using h3
 have h4:=Go.Sx.Al.1 h3;have hP:Kb g r:=⟨h1,h2,by omega⟩;have hk:r.op.toNat<g.nodes.length:=by omega
 obtain ⟨hnw,hol⟩:=Vg hg hk;have hoq:(g.nodes.getD r.op.toNat default).outs.length=(Ac g r.op).outs.length:=rfl
 repeat refine B2 ?_
 refine As (A8d (Ac g r.op) r.key r.val hnw) rfl (A7 ?_);refine ⟨fun h5=>?_,fun h5=>?_⟩<;>conv=>whnf
 ·have h5:(B9 (Ac g r.op) r.key r.val).2.2=false:=by simpa using h5
  repeat refine B2 ?_
  refine ⟨fun h8=>have h8:=bne_iff_ne.1 h8;?_,fun h8=>have h8:=bne_eq_false_iff_eq.1 h8;?_⟩<;>conv=>whnf
  ·have h8:(Ac g r.op).kind≠8:=h8
   repeat refine B2 ?_
   refine Bd (Ff cs Ad) rfl (A7 ?_);rw [A4r hP h5 h8];refine Am A0 rfl rfl ?_;exact B0
  have h8:(Ac g r.op).kind=8:=h8
  repeat refine B2 ?_
  have hnb:¬ ((B9 (Ac g r.op) r.key r.val).2.2=false∧(Ac g r.op).kind≠8):=(fun p=>p.2 h8);refine Bd (A08 (Ac g r.op).kind cs (Co r) hl) rfl (A7 ?_);refine ⟨fun h6=>?_,fun h6=>?_⟩<;>conv=>whnf
  ·have h6:(Bs (Ac g r.op).kind cs (Co r)).2=false:=by simpa using h6
   repeat refine B2 ?_
   rw [Qe hP hnb h6];refine Am A0 rfl rfl ?_;exact B0
  have h6:(Bs (Ac g r.op).kind cs (Co r)).2=true:=by simpa using h6
  repeat refine B2 ?_
  refine ⟨fun h7=>have h7:=eq_of_beq h7;?_,fun h7=>have h7:=beq_eq_false_iff_ne.1 h7;?_⟩<;>conv=>whnf
  ·have h7:(Ac g r.op).kind=7:=h7
   refine As (Pw r.stamp) rfl (A7 ?_)
   cases hnt:(Ch r.stamp).2
   ·refine Bk A0 false [] (fun k:Nat=>[(95,.c (vi k))]) (fun k=>[]) (fun k=>[⟨3,Ak (Bs (Ac g r.op).kind cs (Co r)).1⟩])
     (fun k=>k≤(Ac g r.op).outs.length) (fun k=>(Ac g r.op).outs.length-k) 0 (Nat.zero_le _) ⟨F0,trivial⟩ trivial ⟨Dm,trivial⟩ C1 A6 (fun k hk=>?_)
    conv=>whnf
    conv=>whnf
    refine Eo (fun h=>?_) fun h=>?_<;>conv=>whnf
    ·have h:k<(Ac g r.op).outs.length:=by omega
     repeat refine B2 ?_
     refine Az [] (k+1) Ad Ad ⟨rfl,trivial⟩ ⟨rfl,trivial⟩ trivial A6 C1 A6
    rw [Kt hP hnb h6,A0f h7 hnt];refine Am A0 rfl rfl ?_;exact B0
   refine Yl 16 5 (fun i=>Aa.c (([]:List Aa).getD i default)) rfl ?_
   refine Bk A0 false [] (fun k:Nat=>[(95,.c (vi k))]) (fun k=>[⟨4,[.c (vi ((Ch r.stamp).1).epoch),.c (vi ((Ch r.stamp).1).turn)]⟩]) (fun k=>[⟨5,Af (emL g r ((Ch r.stamp).1) k)⟩,⟨3,Ak (Bs (Ac g r.op).kind cs (Co r)).1⟩])
    (fun k=>k≤(Ac g r.op).outs.length) (fun k=>(Ac g r.op).outs.length-k) 0 (Nat.zero_le _) ⟨F0,trivial⟩ C2 ⟨Dm,Dm,trivial⟩ C1 A6 (fun k hk=>?_)
   conv=>whnf
   conv=>whnf
   refine Eo (fun h=>?_) fun h=>?_<;>conv=>whnf
   ·have h:k<(Ac g r.op).outs.length:=by omega
    have hem:=R2 (g:=g) (r:=r) (s:=(Ch r.stamp).1) (k:=k)
    repeat refine B2 ?_
    refine Bj A0 rfl rfl rfl rfl rfl rfl rfl rfl rfl rfl rfl (Af (emL g r ((Ch r.stamp).1) k++[Om r ((Ch r.stamp).1) (B9 (Ac g r.op) r.key r.val).1 (B9 (Ac g r.op) r.key r.val).2.1 ((Ac g r.op).outs.getD k default)])) (An rfl) C6 Ad (A7 ?_);(repeat refine Ap ?_);refine Az [(5,7)] (k+1) Ad Ad ⟨rfl,trivial⟩ ⟨congrArg Af (Nq h).symm,rfl,trivial⟩ C2 A6 C1 A6
   rw [Kt hP hnb h6,A5k h7 hnt,R1 Ad];refine Am A0 rfl rfl ?_;exact B0
  have h7:(Ac g r.op).kind≠7:=h7;refine Yl 16 5 (fun i=>Aa.c (([]:List Aa).getD i default)) rfl ?_
  refine Bk A0 false [] (fun k:Nat=>[(95,.c (vi k))]) (fun k=>[⟨4,[.c (vi (r.stamp).epoch),.c (vi (r.stamp).turn)]⟩]) (fun k=>[⟨5,Af (emL g r (r.stamp) k)⟩,⟨3,Ak (Bs (Ac g r.op).kind cs (Co r)).1⟩])
   (fun k=>k≤(Ac g r.op).outs.length) (fun k=>(Ac g r.op).outs.length-k) 0 (Nat.zero_le _) ⟨F0,trivial⟩ C2 ⟨Dm,Dm,trivial⟩ C1 A6 (fun k hk=>?_)
  conv=>whnf
  conv=>whnf
  refine Eo (fun h=>?_) fun h=>?_<;>conv=>whnf
  ·have h:k<(Ac g r.op).outs.length:=by omega
   have hem:=R2 (g:=g) (r:=r) (s:=r.stamp) (k:=k)
   repeat refine B2 ?_
   refine Bj A0 rfl rfl rfl rfl rfl rfl rfl rfl rfl rfl rfl (Af (emL g r (r.stamp) k++[Om r (r.stamp) (B9 (Ac g r.op) r.key r.val).1 (B9 (Ac g r.op) r.key r.val).2.1 ((Ac g r.op).outs.getD k default)])) (An rfl) C6 Ad (A7 ?_);(repeat refine Ap ?_);refine Az [(5,7)] (k+1) Ad Ad ⟨rfl,trivial⟩ ⟨congrArg Af (Nq h).symm,rfl,trivial⟩ C2 A6 C1 A6
  rw [Kt hP hnb h6,Us h7,R1 Ad];refine Am A0 rfl rfl ?_;exact B0
 have h5:(B9 (Ac g r.op) r.key r.val).2.2=true:=by simpa using h5
 repeat refine B2 ?_
 have hnb:¬ ((B9 (Ac g r.op) r.key r.val).2.2=false∧(Ac g r.op).kind≠8):=(fun p=>by rw [p.1] at h5;cases h5);refine Bd (A08 (Ac g r.op).kind cs (Co r) hl) rfl (A7 ?_);refine ⟨fun h6=>?_,fun h6=>?_⟩<;>conv=>whnf
 ·have h6:(Bs (Ac g r.op).kind cs (Co r)).2=false:=by simpa using h6
  repeat refine B2 ?_
  rw [Qe hP hnb h6];refine Am A0 rfl rfl ?_;exact B0
 have h6:(Bs (Ac g r.op).kind cs (Co r)).2=true:=by simpa using h6
 repeat refine B2 ?_
 refine ⟨fun h7=>have h7:=eq_of_beq h7;?_,fun h7=>have h7:=beq_eq_false_iff_ne.1 h7;?_⟩<;>conv=>whnf
 ·have h7:(Ac g r.op).kind=7:=h7
  refine As (Pw r.stamp) rfl (A7 ?_)
  cases hnt:(Ch r.stamp).2
  ·refine Bk A0 false [] (fun k:Nat=>[(95,.c (vi k))]) (fun k=>[]) (fun k=>[⟨3,Ak (Bs (Ac g r.op).kind cs (Co r)).1⟩])
    (fun k=>k≤(Ac g r.op).outs.length) (fun k=>(Ac g r.op).outs.length-k) 0 (Nat.zero_le _) ⟨F0,trivial⟩ trivial ⟨Dm,trivial⟩ C1 A6 (fun k hk=>?_)
   conv=>whnf
   conv=>whnf
   refine Eo (fun h=>?_) fun h=>?_<;>conv=>whnf
   ·have h:k<(Ac g r.op).outs.length:=by omega
    repeat refine B2 ?_
    refine Az [] (k+1) Ad Ad ⟨rfl,trivial⟩ ⟨rfl,trivial⟩ trivial A6 C1 A6
   rw [Kt hP hnb h6,A0f h7 hnt];refine Am A0 rfl rfl ?_;exact B0
  refine Yl 16 5 (fun i=>Aa.c (([]:List Aa).getD i default)) rfl ?_
  refine Bk A0 false [] (fun k:Nat=>[(95,.c (vi k))]) (fun k=>[⟨4,[.c (vi ((Ch r.stamp).1).epoch),.c (vi ((Ch r.stamp).1).turn)]⟩]) (fun k=>[⟨5,Af (emL g r ((Ch r.stamp).1) k)⟩,⟨3,Ak (Bs (Ac g r.op).kind cs (Co r)).1⟩])
   (fun k=>k≤(Ac g r.op).outs.length) (fun k=>(Ac g r.op).outs.length-k) 0 (Nat.zero_le _) ⟨F0,trivial⟩ C2 ⟨Dm,Dm,trivial⟩ C1 A6 (fun k hk=>?_)
  conv=>whnf
  conv=>whnf
  refine Eo (fun h=>?_) fun h=>?_<;>conv=>whnf
  ·have h:k<(Ac g r.op).outs.length:=by omega
   have hem:=R2 (g:=g) (r:=r) (s:=(Ch r.stamp).1) (k:=k)
   repeat refine B2 ?_
   refine Bj A0 rfl rfl rfl rfl rfl rfl rfl rfl rfl rfl rfl (Af (emL g r ((Ch r.stamp).1) k++[Om r ((Ch r.stamp).1) (B9 (Ac g r.op) r.key r.val).1 (B9 (Ac g r.op) r.key r.val).2.1 ((Ac g r.op).outs.getD k default)])) (An rfl) C6 Ad (A7 ?_);(repeat refine Ap ?_);refine Az [(5,7)] (k+1) Ad Ad ⟨rfl,trivial⟩ ⟨congrArg Af (Nq h).symm,rfl,trivial⟩ C2 A6 C1 A6
  rw [Kt hP hnb h6,A5k h7 hnt,R1 Ad];refine Am A0 rfl rfl ?_;exact B0
 have h7:(Ac g r.op).kind≠7:=h7;refine Yl 16 5 (fun i=>Aa.c (([]:List Aa).getD i default)) rfl ?_
 refine Bk A0 false [] (fun k:Nat=>[(95,.c (vi k))]) (fun k=>[⟨4,[.c (vi (r.stamp).epoch),.c (vi (r.stamp).turn)]⟩]) (fun k=>[⟨5,Af (emL g r (r.stamp) k)⟩,⟨3,Ak (Bs (Ac g r.op).kind cs (Co r)).1⟩])
  (fun k=>k≤(Ac g r.op).outs.length) (fun k=>(Ac g r.op).outs.length-k) 0 (Nat.zero_le _) ⟨F0,trivial⟩ C2 ⟨Dm,Dm,trivial⟩ C1 A6 (fun k hk=>?_)
 conv=>whnf
 conv=>whnf
 refine Eo (fun h=>?_) fun h=>?_<;>conv=>whnf
 ·have h:k<(Ac g r.op).outs.length:=by omega
  have hem:=R2 (g:=g) (r:=r) (s:=r.stamp) (k:=k)
  repeat refine B2 ?_
  refine Bj A0 rfl rfl rfl rfl rfl rfl rfl rfl rfl rfl rfl (Af (emL g r (r.stamp) k++[Om r (r.stamp) (B9 (Ac g r.op) r.key r.val).1 (B9 (Ac g r.op) r.key r.val).2.1 ((Ac g r.op).outs.getD k default)])) (An rfl) C6 Ad (A7 ?_);(repeat refine Ap ?_);refine Az [(5,7)] (k+1) Ad Ad ⟨rfl,trivial⟩ ⟨congrArg Af (Nq h).symm,rfl,trivial⟩ C2 A6 C1 A6
 rw [Kt hP hnb h6,Us h7,R1 Ad];refine Am A0 rfl rfl ?_;exact B0
theorem L7 {g:Ah}{r:Aa}(h:¬ Kb g r):capped g r=false:=decide_eq_false fun p=>h p.1
theorem A3q {g:Ah}{r:Aa}(h:Kb g r):capped g r=(((Ac g r.op).kind==7)&&(decide (((Ac g r.op).outs.length:Int)>0)&&!(Ch r.stamp).2)):=by
 unfold capped;rw [Bool.eq_iff_iff];simp only [decide_eq_true_eq,Bool.and_eq_true,beq_iff_eq,Bool.not_eq_true',h,true_and]
 constructor
 ·intro ⟨a,b,c⟩;exact ⟨a,by omega,c⟩
 intro ⟨a,b,c⟩;exact ⟨a,by omega,c⟩
theorem B03 (g:Ah)(r:Aa)(hg:g.w≤16777216):B3 Tryz.prog 246 [.agg g.c,.agg r.c] [.one (vb (capped g r))]:=by
 refine Aw A0 false Tryz.func246 rfl B5 fun W=>?_;conv=>whnf
 refine As (K0 g Ad) rfl (A7 ?_);refine ⟨fun h1=>?_,fun h1=>?_⟩<;>conv=>whnf
 ·have h1:F1 g=false:=by simpa using h1
  repeat refine B2 ?_
  rw [L7 (fun p=>absurd p.1 (of_decide_eq_false h1))];refine Am A0 rfl rfl ?_;exact B0
 have h1:Ea g:=of_decide_eq_true (show F1 g=true by simpa using h1)
 repeat refine B2 ?_
 refine As (J0 r) rfl (A7 ?_)
 repeat refine B2 ?_
 refine ⟨fun h2=>?_,fun h2=>?_⟩<;>conv=>whnf
 ·have h2:Ev r=false:=by simpa using h2
  repeat refine B2 ?_
  rw [L7 (fun p=>absurd p.2.1 (of_decide_eq_false h2))];refine Am A0 rfl rfl ?_;exact B0
 have h2:H2 r:=of_decide_eq_true (show Ev r=true by simpa using h2)
 repeat refine B2 ?_
 refine As (Pu g r.op hg) rfl (A7 ?_)
 repeat refine B2 ?_
 refine ⟨fun h3=>?_,fun h3=>?_⟩<;>conv=>whnf
 ·have h3:E6 r.op 0 (g.nodes.length-1)=false:=by simpa using h3
  have h4:=Go.Sx.B4.1 h3
  repeat refine B2 ?_
  rw [L7 (fun p=>h4 ⟨h2.1.1,by have:=p.2.2;omega⟩)];refine Am A0 rfl rfl ?_;exact B0
 have h3:E6 r.op 0 (g.nodes.length-1)=true:=by simpa using h3
 have h4:=Go.Sx.Al.1 h3;have hP:Kb g r:=⟨h1,h2,by omega⟩;have hk:r.op.toNat<g.nodes.length:=by omega
 obtain ⟨hnw,hol⟩:=Vg hg hk;have hoq:(g.nodes.getD r.op.toNat default).outs.length=(Ac g r.op).outs.length:=rfl
 repeat refine B2 ?_
 refine As (Pw r.stamp) rfl (A7 ?_);rw [A3q hP];refine ⟨fun h7=>?_,fun h7=>?_⟩<;>conv=>whnf
 ·have h7:((Ac g r.op).kind==7)=true:=h7
  rw [h7]
  repeat refine B2 ?_
  refine ⟨fun h8=>?_,fun h8=>?_⟩<;>conv=>whnf
  ·have h8:decide (((Ac g r.op).outs.length:Int)>0)=true:=h8
   rw [h8]
   repeat refine B2 ?_
   refine Am A0 rfl rfl ?_;exact B0
  have h8:decide (((Ac g r.op).outs.length:Int)>0)=false:=h8;rw [h8]
  repeat refine B2 ?_
  refine Am A0 rfl rfl ?_;exact B0
 have h7:((Ac g r.op).kind==7)=false:=h7;rw [h7]
 repeat refine B2 ?_
 refine Am A0 rfl rfl ?_;exact B0
theorem U1 {g:Ah}{op:Int}(h:E6 op 0 (g.nodes.length-1)=true):N7 g op=(Ac g op,true):=if_pos h
theorem X2 {g:Ah}{op:Int}(h:E6 op 0 (g.nodes.length-1)=false):N7 g op=(⟨0,0,0,[]⟩,false):=if_neg (by rw [h];decide)
theorem B1s {k:Int}{l:List Ae}{x:Ae}(h:¬ (k=5∨k=6∨k=8)):Bs k l x=(l,true):=X7 (fun p=>h (.inl p)) (fun p=>h (.inr (.inr p))) (fun p=>h (.inr (.inl p)))
set_option maxHeartbeats 4000000 in
theorem A2k (g:Ah)(cs:List Ae)(r:Aa)(hg:g.w≤16777216)(hl:cs.length≤16000000):B3 Tryz.prog 181 [.agg g.c,.one (Ak cs),.agg r.c] [.one (Ak (Cj g cs r).1),.one (Af (Cj g cs r).2.1),.one (vb (Cj g cs r).2.2)]:=by
 refine Aw A0 false Tryz.func181 rfl B5 fun W=>?_;conv=>whnf
 refine Bj A0 rfl rfl rfl rfl rfl rfl rfl rfl rfl rfl rfl (Ak cs) (C9) (fun _=>Ex cs) Ad (A7 ?_);refine Bd (Nc g r.op hg) rfl (A7 ?_)
 cases h3:E6 r.op 0 (g.nodes.length-1)
 ·have h4:=Go.Sx.B4.1 h3
  rw [X2 h3]
  repeat refine B2 ?_
  refine Jc 4 (Af []) rfl Cq ?_;rw [Sl (fun p=>h4 ⟨p.2.1.1.1,by have:=p.2.2;omega⟩)];refine Am A0 rfl rfl ?_;exact B0
 have h4:=Go.Sx.Al.1 h3;rw [U1 h3];have hk:r.op.toNat<g.nodes.length:=by omega
 obtain ⟨hnw,hol⟩:=Vg hg hk
 repeat refine B2 ?_
 refine As (Iw g Ad) rfl (A7 ?_)
 repeat refine B2 ?_
 refine ⟨fun h1=>?_,fun h1=>?_⟩<;>conv=>whnf
 ·have h1:F1 g=false:=by simpa using h1
  repeat refine B2 ?_
  refine Jc 4 (Af []) rfl Cq ?_;rw [Sl (fun p=>absurd p.1 (of_decide_eq_false h1))];refine Am A0 rfl rfl ?_;exact B0
 have h1:Ea g:=of_decide_eq_true (show F1 g=true by simpa using h1)
 repeat refine B2 ?_
 refine As (I1 r) rfl (A7 ?_)
 repeat refine B2 ?_
 refine ⟨fun h2=>?_,fun h2=>?_⟩<;>conv=>whnf
 ·have h2:Ev r=false:=by simpa using h2
  repeat refine B2 ?_
  refine Jc 4 (Af []) rfl Cq ?_;rw [Sl (fun p=>absurd p.2.1 (of_decide_eq_false h2))];refine Am A0 rfl rfl ?_;exact B0
 have h2:H2 r:=of_decide_eq_true (show Ev r=true by simpa using h2)
 have hP:Kb g r:=⟨h1,h2,by omega⟩
 repeat refine B2 ?_
 refine As (Y9 (Ac g r.op) r.key r.val hnw) rfl (A7 ?_);refine ⟨fun h5=>?_,fun h5=>?_⟩<;>conv=>whnf
 ·have h5:(B9 (Ac g r.op) r.key r.val).2.2=false:=by simpa using h5
  repeat refine B2 ?_
  refine ⟨fun h8=>have h8:=bne_iff_ne.1 h8;?_,fun h8=>have h8:=bne_eq_false_iff_eq.1 h8;?_⟩<;>conv=>whnf
  ·have h8:(Ac g r.op).kind≠8:=h8
   repeat refine B2 ?_
   refine Jc 4 (Af []) rfl Cq ?_;rw [A4r hP h5 h8];refine Am A0 rfl rfl ?_;exact B0
  have h8:(Ac g r.op).kind=8:=h8
  repeat refine B2 ?_
  have hnb:¬ ((B9 (Ac g r.op) r.key r.val).2.2=false∧(Ac g r.op).kind≠8):=(fun p=>p.2 h8);refine As (Tc (Ac g r.op).kind) rfl (A7 ?_);refine ⟨fun hr=>?_,fun hr=>?_⟩<;>conv=>whnf
  ·have hr:(Ac g r.op).kind=5∨(Ac g r.op).kind=6∨(Ac g r.op).kind=8:=of_decide_eq_true hr
   refine Bd (Ua (Ac g r.op).kind cs (Co r) hl) rfl (A7 ?_);refine ⟨fun h6=>?_,fun h6=>?_⟩<;>conv=>whnf
   ·have h6:(Bs (Ac g r.op).kind cs (Co r)).2=false:=by simpa using h6
    repeat refine B2 ?_
    refine Jc 4 (Af []) rfl Cq ?_;rw [Qe hP hnb h6];refine Am A0 rfl rfl ?_;exact B0
   have h6:(Bs (Ac g r.op).kind cs (Co r)).2=true:=by simpa using h6
   repeat refine B2 ?_
   have h7:(Ac g r.op).kind≠7:=by omega
   refine ⟨fun h7'=>have h7':=eq_of_beq h7';?_,fun h7'=>have h7':=beq_eq_false_iff_ne.1 h7';?_⟩<;>conv=>whnf
   ·exact absurd h7' h7
   refine Es 4 (Af []) rfl Cq ?_
   refine Bk A0 false [25] (fun k:Nat=>[(21,.c (vi k))]) (fun k=>[⟨6,[.c (vi (Ac g r.op).kind),.c (vi (Ac g r.op).a),.c (vi (Ac g r.op).b),.own 5]⟩,⟨8,[.c (vi (r.stamp).epoch),.c (vi (r.stamp).turn)]⟩]) (fun k=>[⟨5,Bh (Ac g r.op).outs⟩,⟨4,Af (emL g r (r.stamp) k)⟩,⟨7,Ak (Bs (Ac g r.op).kind cs (Co r)).1⟩])
    (fun k=>k≤(Ac g r.op).outs.length) (fun k=>(Ac g r.op).outs.length-k) 0 (Nat.zero_le _) ⟨F0,trivial⟩ C2 ⟨Dm,Dm,Dm,trivial⟩ C1 A6 (fun k hk=>?_)
   conv=>whnf
   conv=>whnf
   refine Eo (fun h=>?_) fun h=>?_<;>conv=>whnf
   ·have h:k<(Ac g r.op).outs.length:=by omega
    have hem:=R2 (g:=g) (r:=r) (s:=r.stamp) (k:=k)
    first|(refine Ax 23 rfl [0,1,2,3,4,5,6,7,8,9,10,11,12] A6 (A7 ?_))
    (repeat refine Ap ?_);refine Bj A0 rfl rfl rfl rfl rfl rfl rfl rfl rfl rfl rfl (Af (emL g r (r.stamp) k++[Om r (r.stamp) (B9 (Ac g r.op) r.key r.val).1 (B9 (Ac g r.op) r.key r.val).2.1 ((Ac g r.op).outs.getD k default)])) (An rfl) C6 Ad (A7 ?_);(repeat refine Ap ?_);refine Az [(4,10)] (k+1) Ad Ad ⟨rfl,trivial⟩ ⟨rfl,congrArg Af (Nq h).symm,rfl,trivial⟩ C2 A6 C1 A6
   repeat refine B2 ?_
   rw [Kt hP hnb h6,Us h7,R1 Ad];refine Am A0 rfl rfl ?_;exact B0
  exact absurd (.inr (.inr h8)) (of_decide_eq_false hr)
 have h5:(B9 (Ac g r.op) r.key r.val).2.2=true:=by simpa using h5
 repeat refine B2 ?_
 have hnb:¬ ((B9 (Ac g r.op) r.key r.val).2.2=false∧(Ac g r.op).kind≠8):=(fun p=>by rw [p.1] at h5;cases h5);refine As (Tc (Ac g r.op).kind) rfl (A7 ?_);refine ⟨fun hr=>?_,fun hr=>?_⟩<;>conv=>whnf
 ·have hr:(Ac g r.op).kind=5∨(Ac g r.op).kind=6∨(Ac g r.op).kind=8:=of_decide_eq_true hr
  refine Bd (Ua (Ac g r.op).kind cs (Co r) hl) rfl (A7 ?_);refine ⟨fun h6=>?_,fun h6=>?_⟩<;>conv=>whnf
  ·have h6:(Bs (Ac g r.op).kind cs (Co r)).2=false:=by simpa using h6
   repeat refine B2 ?_
   refine Jc 4 (Af []) rfl Cq ?_;rw [Qe hP hnb h6];refine Am A0 rfl rfl ?_;exact B0
  have h6:(Bs (Ac g r.op).kind cs (Co r)).2=true:=by simpa using h6
  repeat refine B2 ?_
  have h7:(Ac g r.op).kind≠7:=by omega
  refine ⟨fun h7'=>have h7':=eq_of_beq h7';?_,fun h7'=>have h7':=beq_eq_false_iff_ne.1 h7';?_⟩<;>conv=>whnf
  ·exact absurd h7' h7
  refine Es 4 (Af []) rfl Cq ?_
  refine Bk A0 false [25] (fun k:Nat=>[(21,.c (vi k))]) (fun k=>[⟨6,[.c (vi (Ac g r.op).kind),.c (vi (Ac g r.op).a),.c (vi (Ac g r.op).b),.own 5]⟩,⟨8,[.c (vi (r.stamp).epoch),.c (vi (r.stamp).turn)]⟩]) (fun k=>[⟨5,Bh (Ac g r.op).outs⟩,⟨4,Af (emL g r (r.stamp) k)⟩,⟨7,Ak (Bs (Ac g r.op).kind cs (Co r)).1⟩])
   (fun k=>k≤(Ac g r.op).outs.length) (fun k=>(Ac g r.op).outs.length-k) 0 (Nat.zero_le _) ⟨F0,trivial⟩ C2 ⟨Dm,Dm,Dm,trivial⟩ C1 A6 (fun k hk=>?_)
  conv=>whnf
  conv=>whnf
  refine Eo (fun h=>?_) fun h=>?_<;>conv=>whnf
  ·have h:k<(Ac g r.op).outs.length:=by omega
   have hem:=R2 (g:=g) (r:=r) (s:=r.stamp) (k:=k)
   first|(refine Ax 23 rfl [0,1,2,3,4,5,6,7,8,9,10,11,12] A6 (A7 ?_))
   (repeat refine Ap ?_);refine Bj A0 rfl rfl rfl rfl rfl rfl rfl rfl rfl rfl rfl (Af (emL g r (r.stamp) k++[Om r (r.stamp) (B9 (Ac g r.op) r.key r.val).1 (B9 (Ac g r.op) r.key r.val).2.1 ((Ac g r.op).outs.getD k default)])) (An rfl) C6 Ad (A7 ?_);(repeat refine Ap ?_);refine Az [(4,10)] (k+1) Ad Ad ⟨rfl,trivial⟩ ⟨rfl,congrArg Af (Nq h).symm,rfl,trivial⟩ C2 A6 C1 A6
  repeat refine B2 ?_
  rw [Kt hP hnb h6,Us h7,R1 Ad];refine Am A0 rfl rfl ?_;exact B0
 have hr:¬ ((Ac g r.op).kind=5∨(Ac g r.op).kind=6∨(Ac g r.op).kind=8):=of_decide_eq_false hr;have e6:=B1s (l:=cs) (x:=Co r) hr;have h6:(Bs (Ac g r.op).kind cs (Co r)).2=true:=by rw [e6]
 have e61:(Bs (Ac g r.op).kind cs (Co r)).1=cs:=by rw [e6]
 repeat refine B2 ?_
 refine ⟨fun h7=>have h7:=eq_of_beq h7;?_,fun h7=>have h7:=beq_eq_false_iff_ne.1 h7;?_⟩<;>conv=>whnf
 ·have h7:(Ac g r.op).kind=7:=h7
  refine As (Vx r.stamp) rfl (A7 ?_);refine ⟨fun hnt=>?_,fun hnt=>?_⟩<;>conv=>whnf
  ·have hnt:(Ch r.stamp).2=false:=by simpa using hnt
   repeat refine B2 ?_
   refine Jc 4 (Af []) rfl Cq ?_;rw [Kt hP hnb h6,A0f h7 hnt,e61];refine Am A0 rfl rfl ?_;exact B0
  have hnt:(Ch r.stamp).2=true:=by simpa using hnt
  repeat refine B2 ?_
  refine Es 4 (Af []) rfl Cq ?_
  refine Bk A0 false [25] (fun k:Nat=>[(21,.c (vi k))]) (fun k=>[⟨6,[.c (vi (Ac g r.op).kind),.c (vi (Ac g r.op).a),.c (vi (Ac g r.op).b),.own 5]⟩,⟨7,[.c (vi ((Ch r.stamp).1).epoch),.c (vi ((Ch r.stamp).1).turn)]⟩]) (fun k=>[⟨5,Bh (Ac g r.op).outs⟩,⟨4,Af (emL g r ((Ch r.stamp).1) k)⟩,⟨3,Ak cs⟩])
   (fun k=>k≤(Ac g r.op).outs.length) (fun k=>(Ac g r.op).outs.length-k) 0 (Nat.zero_le _) ⟨F0,trivial⟩ C2 ⟨Dm,Dm,Dm,trivial⟩ C1 A6 (fun k hk=>?_)
  conv=>whnf
  conv=>whnf
  refine Eo (fun h=>?_) fun h=>?_<;>conv=>whnf
  ·have h:k<(Ac g r.op).outs.length:=by omega
   have hem:=R2 (g:=g) (r:=r) (s:=(Ch r.stamp).1) (k:=k)
   first|(refine Ax 23 rfl [0,1,2,3,4,5,6,7,8,9,10,11,12] A6 (A7 ?_))
   (repeat refine Ap ?_);refine Bj A0 rfl rfl rfl rfl rfl rfl rfl rfl rfl rfl rfl (Af (emL g r ((Ch r.stamp).1) k++[Om r ((Ch r.stamp).1) (B9 (Ac g r.op) r.key r.val).1 (B9 (Ac g r.op) r.key r.val).2.1 ((Ac g r.op).outs.getD k default)])) (An rfl) C6 Ad (A7 ?_);(repeat refine Ap ?_);refine Az [(4,10)] (k+1) Ad Ad ⟨rfl,trivial⟩ ⟨rfl,congrArg Af (Nq h).symm,rfl,trivial⟩ C2 A6 C1 A6
  repeat refine B2 ?_
  rw [Kt hP hnb h6,A5k h7 hnt,e61,R1 Ad];refine Am A0 rfl rfl ?_;exact B0
 have h7:(Ac g r.op).kind≠7:=h7
 repeat refine B2 ?_
 refine Es 4 (Af []) rfl Cq ?_
 refine Bk A0 false [25] (fun k:Nat=>[(21,.c (vi k))]) (fun k=>[⟨6,[.c (vi (Ac g r.op).kind),.c (vi (Ac g r.op).a),.c (vi (Ac g r.op).b),.own 5]⟩,⟨7,[.c (vi (r.stamp).epoch),.c (vi (r.stamp).turn)]⟩]) (fun k=>[⟨5,Bh (Ac g r.op).outs⟩,⟨4,Af (emL g r (r.stamp) k)⟩,⟨3,Ak cs⟩])
  (fun k=>k≤(Ac g r.op).outs.length) (fun k=>(Ac g r.op).outs.length-k) 0 (Nat.zero_le _) ⟨F0,trivial⟩ C2 ⟨Dm,Dm,Dm,trivial⟩ C1 A6 (fun k hk=>?_)
 conv=>whnf
 conv=>whnf
 refine Eo (fun h=>?_) fun h=>?_<;>conv=>whnf
 ·have h:k<(Ac g r.op).outs.length:=by omega
  have hem:=R2 (g:=g) (r:=r) (s:=r.stamp) (k:=k)
  first|(refine Ax 23 rfl [0,1,2,3,4,5,6,7,8,9,10,11,12] A6 (A7 ?_))
  (repeat refine Ap ?_);refine Bj A0 rfl rfl rfl rfl rfl rfl rfl rfl rfl rfl rfl (Af (emL g r (r.stamp) k++[Om r (r.stamp) (B9 (Ac g r.op) r.key r.val).1 (B9 (Ac g r.op) r.key r.val).2.1 ((Ac g r.op).outs.getD k default)])) (An rfl) C6 Ad (A7 ?_);(repeat refine Ap ?_);refine Az [(4,9)] (k+1) Ad Ad ⟨rfl,trivial⟩ ⟨rfl,congrArg Af (Nq h).symm,rfl,trivial⟩ C2 A6 C1 A6
 repeat refine B2 ?_
 rw [Kt hP hnb h6,Us h7,e61,R1 Ad];refine Am A0 rfl rfl ?_;exact B0
theorem A2f (g:Ah)(r:Aa)(hg:g.w≤16777216):B3 Tryz.prog 182 [.agg g.c,.agg r.c] [.one (vb (capped g r))]:=by
 refine Aw A0 false Tryz.func182 rfl B5 fun W=>?_;conv=>whnf
 refine Bd (Nc g r.op hg) rfl (A7 ?_);refine As (Vx r.stamp) rfl (A7 ?_)
 cases h3:E6 r.op 0 (g.nodes.length-1)
 ·have h4:=Go.Sx.B4.1 h3
  rw [X2 h3]
  repeat refine B2 ?_
  rw [L7 (fun p=>h4 ⟨p.2.1.1.1,by have:=p.2.2;omega⟩)];refine Am A0 rfl rfl ?_;exact B0
 have h4:=Go.Sx.Al.1 h3;rw [U1 h3];have hk:r.op.toNat<g.nodes.length:=by omega
 obtain ⟨hnw,hol⟩:=Vg hg hk
 repeat refine B2 ?_
 refine As (Iw g Ad) rfl (A7 ?_)
 repeat refine B2 ?_
 refine ⟨fun h1=>?_,fun h1=>?_⟩<;>conv=>whnf
 ·have h1:Ea g:=of_decide_eq_true h1
  repeat refine B2 ?_
  refine As (I1 r) rfl (A7 ?_)
  repeat refine B2 ?_
  refine ⟨fun h2=>?_,fun h2=>?_⟩<;>conv=>whnf
  ·have h2:H2 r:=of_decide_eq_true h2
   have hP:Kb g r:=⟨h1,h2,by omega⟩;rw [A3q hP]
   repeat refine B2 ?_
   refine ⟨fun h7=>?_,fun h7=>?_⟩<;>conv=>whnf
   ·have h7:((Ac g r.op).kind==7)=true:=h7
    rw [h7]
    repeat refine B2 ?_
    refine ⟨fun h8=>?_,fun h8=>?_⟩<;>conv=>whnf
    ·have h8:decide (((Ac g r.op).outs.length:Int)>0)=true:=h8
     rw [h8]
     repeat refine B2 ?_
     refine Am A0 rfl rfl ?_;exact B0
    have h8:decide (((Ac g r.op).outs.length:Int)>0)=false:=h8;rw [h8]
    repeat refine B2 ?_
    refine Am A0 rfl rfl ?_;exact B0
   have h7:((Ac g r.op).kind==7)=false:=h7;rw [h7]
   repeat refine B2 ?_
   refine Am A0 rfl rfl ?_;exact B0
  repeat refine B2 ?_
  rw [L7 (fun p=>absurd p.2.1 (of_decide_eq_false h2))];refine Am A0 rfl rfl ?_;exact B0
 repeat refine B2 ?_
 rw [L7 (fun p=>absurd p.1 (of_decide_eq_false h1))];refine Am A0 rfl rfl ?_;exact B0
set_option maxHeartbeats 4000000 in
theorem A9v (g:Ah)(best:List Ae)(x:Ae)(hg:g.w≤16777216)(hl:best.length≤16000000):B3 Tryz.prog 98 [.agg g.c,.one (Ak best),.agg x.c] [.one (Ak (Fb g best x).1),.one (Ak (Fb g best x).2)]:=by
 refine Aw A0 false Tryz.func98 rfl B5 fun W=>?_;conv=>whnf
 refine Bj A0 rfl rfl rfl rfl rfl rfl rfl rfl rfl rfl rfl (Ak best) (C9) (fun _=>Ex best) Ad (A7 ?_);refine Bd (Nc g x.op hg) rfl (A7 ?_)
 cases h3:E6 x.op 0 (g.nodes.length-1)
 ·have h4:=Go.Sx.B4.1 h3
  rw [X2 h3]
  repeat refine B2 ?_
  refine Jc 4 (Ak []) rfl Cq ?_;rw [A0w (fun p=>h4 ⟨p.1.1,by have:=p.1.2;omega⟩)];refine Am A0 rfl rfl ?_;exact B0
 have h4:=Go.Sx.Al.1 h3;rw [U1 h3];have hk:x.op.toNat<g.nodes.length:=by omega
 obtain ⟨hnw,hol⟩:=Vg hg hk
 repeat refine B2 ?_
 refine As (Iw g Ad) rfl (A7 ?_)
 repeat refine B2 ?_
 refine ⟨fun h1=>?_,fun h1=>?_⟩<;>conv=>whnf
 ·have h1:F1 g=false:=by simpa using h1
  repeat refine B2 ?_
  refine Jc 4 (Ak []) rfl Cq ?_;rw [A0w (fun p=>absurd p.2.1 (of_decide_eq_false h1))];refine Am A0 rfl rfl ?_;exact B0
 have h1:Ea g:=of_decide_eq_true (show F1 g=true by simpa using h1)
 repeat refine B2 ?_
 refine As (G9 x.epoch 0 3) rfl (A7 ?_)
 repeat refine B2 ?_
 refine ⟨fun h2=>?_,fun h2=>?_⟩<;>conv=>whnf
 ·have h2:=Go.Sx.B4.1 (show E6 x.epoch 0 3=false by simpa using h2)
  repeat refine B2 ?_
  refine Jc 4 (Ak []) rfl Cq ?_;rw [A0w (fun p=>h2 p.2.2.1)];refine Am A0 rfl rfl ?_;exact B0
 have h2:=Go.Sx.Al.1 (show E6 x.epoch 0 3=true by simpa using h2)
 repeat refine B2 ?_
 refine As (G9 x.key 0 99) rfl (A7 ?_)
 repeat refine B2 ?_
 refine ⟨fun h5=>?_,fun h5=>?_⟩<;>conv=>whnf
 ·have h5:=Go.Sx.B4.1 (show E6 x.key 0 99=false by simpa using h5)
  repeat refine B2 ?_
  refine Jc 4 (Ak []) rfl Cq ?_;rw [A0w (fun p=>h5 p.2.2.2.1)];refine Am A0 rfl rfl ?_;exact B0
 have h5:=Go.Sx.Al.1 (show E6 x.key 0 99=true by simpa using h5)
 repeat refine B2 ?_
 refine As (G9 x.val 0 999) rfl (A7 ?_)
 repeat refine B2 ?_
 refine ⟨fun h7=>?_,fun h7=>?_⟩<;>conv=>whnf
 ·have h7:=Go.Sx.B4.1 (show E6 x.val 0 999=false by simpa using h7)
  repeat refine B2 ?_
  refine Jc 4 (Ak []) rfl Cq ?_;rw [A0w (fun p=>h7 p.2.2.2.2)];refine Am A0 rfl rfl ?_;exact B0
 have h7:=Go.Sx.Al.1 (show E6 x.val 0 999=true by simpa using h7)
 have hP:A7d g x:=⟨by omega,h1,h2,h5,h7⟩
 repeat refine B2 ?_
 refine Bd (Ua 5 best x hl) rfl (A7 ?_);refine ⟨fun h6=>?_,fun h6=>?_⟩<;>conv=>whnf
 ·have h6:(Bs 5 best x).2=false:=by simpa using h6
  repeat refine B2 ?_
  refine Jc 4 (Ak []) rfl Cq ?_;rw [C1i hP h6];refine Am A0 rfl rfl ?_;exact B0
 have h6:(Bs 5 best x).2=true:=by simpa using h6
 rw [C1h hP h6]
 repeat refine B2 ?_
 refine As (Y9 (Ac g x.op) x.key x.val hnw) rfl (A7 ?_);refine Es 4 (Ak []) rfl Cq ?_
 cases hgo:(B9 (Ac g x.op) x.key x.val).2.2
 ·have hm:N5 g x=[]:=if_neg (by rw [hgo];decide)
  rw [hm]
  refine Bk A0 false [] (fun k:Nat=>[(17,.c (vi k))]) (fun k=>[⟨6,[.c (vi (Ac g x.op).kind),.c (vi (Ac g x.op).a),.c (vi (Ac g x.op).b),.own 5]⟩,⟨1,[.c (vi x.op),.c (vi x.epoch),.c (vi x.key),.c (vi x.val)]⟩]) (fun k=>[⟨5,Bh (Ac g x.op).outs⟩,⟨4,Ak []⟩,⟨7,Ak (Bs 5 best x).1⟩])
   (fun k=>k≤0) (fun k=>0-k) 0 (Nat.zero_le _) ⟨F0,trivial⟩ C2 ⟨Dm,Dm,Dm,trivial⟩ C1 A6 (fun k hk=>?_)
  conv=>whnf
  conv=>whnf
  refine Eo (fun h=>?_) fun h=>?_<;>conv=>whnf
  ·repeat refine B2 ?_
   refine Am A0 rfl rfl ?_;exact B0
  repeat refine B2 ?_
  refine Am A0 rfl rfl ?_;exact B0
 have hm:N5 g x=(Ac g x.op).outs.map (A4b g x):=if_pos hgo;rw [hm]
 refine Bk A0 false [21] (fun k:Nat=>[(17,.c (vi k))]) (fun k=>[⟨6,[.c (vi (Ac g x.op).kind),.c (vi (Ac g x.op).a),.c (vi (Ac g x.op).b),.own 5]⟩,⟨1,[.c (vi x.op),.c (vi x.epoch),.c (vi x.key),.c (vi x.val)]⟩]) (fun k=>[⟨5,Bh (Ac g x.op).outs⟩,⟨4,Ak (((Ac g x.op).outs.take k).map (A4b g x))⟩,⟨7,Ak (Bs 5 best x).1⟩])
  (fun k=>k≤(Ac g x.op).outs.length) (fun k=>(Ac g x.op).outs.length-k) 0 (Nat.zero_le _) ⟨F0,trivial⟩ C2 ⟨Dm,Dm,Dm,trivial⟩ C1 A6 (fun k hk=>?_)
 conv=>whnf
 conv=>whnf
 refine Eo (fun h=>?_) fun h=>?_<;>conv=>whnf
 ·have h:k<(Ac g x.op).outs.length:=by omega
  have hlm:(((Ac g x.op).outs.take k).map (A4b g x)).length≤k:=by rw [List.length_map,List.length_take];omega
  repeat refine B2 ?_
  first|(refine Ax 13 rfl [0,1,2,3,4,5,6,7,8,9,10,11,12,13] A6 (A7 ?_))
  (repeat refine Ap ?_);refine Bj A0 rfl rfl rfl rfl rfl rfl rfl rfl rfl rfl rfl (Ak (((Ac g x.op).outs.take k).map (A4b g x)++[A4b g x ((Ac g x.op).outs.getD k default)])) (An rfl) C6 Ad (A7 ?_);(repeat refine Ap ?_);refine Az [(4,9)] (k+1) Ad Ad ⟨rfl,trivial⟩ ⟨rfl,congrArg Ak (B8z _ _ _ h).symm,rfl,trivial⟩ C2 A6 C1 A6
 repeat refine B2 ?_
 have hk2:k=(Ac g x.op).outs.length:=by omega
 rw [hk2,List.take_length];refine Am A0 rfl rfl ?_;exact B0
end Go.Proofs.YtdendlkeiaccpaaGreat
