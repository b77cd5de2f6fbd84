/- Part 15 of the proof that each of the laws FnTold returns true for every input. No conditions. -/
import Derived.Test.YtdendlkeiaccpaaGreatDoorP5
import Derived.Test.YtdendlkeiaccpaaGreatDoorP14
import Derived.Test.YtdendlkeiaccpaaGreatDoorP13
import Derived.Test.YtdendlkeiaccpaaGreatDoorP8

set_option linter.unusedSimpArgs false
set_option linter.unusedVariables false
set_option maxRecDepth 100000
namespace Go.Proofs.YtdendlkeiaccpaaGreatDoor
open Go.Sx
theorem A5z {l:List Ag}{x:Ag}:Dv 6 l x=(Cs l x,!Ix l x):=by
 unfold Dv
 rw [if_neg Aw,if_pos rfl]
 cases h:Ix l x with
 |true=>rw [if_pos rfl,Cs,if_pos h];rfl
 |false=>rw [if_neg Aw];rfl
theorem Y1 {k:Int}{l:List Ag}{x:Ag}(h5:k≠5)(h8:k≠8)(h6:k≠6):Dv k l x=(l,true):=by
 unfold Dv
 rw [if_neg Ab,if_neg h6]
theorem Ma {a b:Ag}(h:b.op≠a.op):(!Bt a b)=true:=by simp only [Bt,Bool.not_eq_true',decide_eq_false_iff_not];omega
theorem Mb {a b:Ag}(h:b.epoch≠a.epoch):(!Bt a b)=true:=by simp only [Bt,Bool.not_eq_true',decide_eq_false_iff_not];omega
theorem Mc {a b:Ag}(h:b.key≠a.key):(!Bt a b)=true:=by simp only [Bt,Bool.not_eq_true',decide_eq_false_iff_not];omega
theorem Qy {a b:Ag}(h1:b.op=a.op)(h2:b.epoch=a.epoch)(h3:b.key=a.key):(!Bt a b)=false:=by simp only [Bt,Bool.not_eq_false',decide_eq_true_eq];omega
set_option maxHeartbeats 4000000 in
theorem Vq (kind:Int)(l:List Ag)(x:Ag)(hl:l.length≤16000000):Bo Tryz.prog 183 [.one (vi kind),.one (Ak l),.agg x.c] [.one (Ak (Dv kind l x).1),.one (vb (Dv kind l x).2)]:=by
 refine Bh A0 false Tryz.func183 rfl Aw fun W=>?_
 conv=>whnf
 refine B1 A0 rfl rfl rfl rfl rfl rfl rfl rfl rfl rfl rfl (Ak l) (Ci) (fun _=>Eo l) Ab (A8 ?_)
 refine ⟨fun h6=>have h6:=eq_of_beq h6;?_,fun h6=>have h6:=beq_eq_false_iff_ne.1 h6;?_⟩<;>conv=>whnf
 ·refine B5 (St l x Ab) rfl (A8 ?_)
  refine ⟨fun hc=>?_,fun hc=>?_⟩<;>conv=>whnf
  ·rw [h6,A5z,Cs,if_pos hc,hc]
   refine B3 A0 rfl rfl ?_
   exact Ay
  refine Cq (I1 l x Ab) rfl (A8 ?_)
  rw [h6,A5z,hc]
  refine B3 A0 rfl rfl ?_
  exact Ay
 refine ⟨fun h5=>have h5:=eq_of_beq h5;?_,fun h5=>have h5:=beq_eq_false_iff_ne.1 h5;?_⟩<;>conv=>whnf
 ·repeat refine Bj ?_
  refine B5 (Su l x.op x.epoch x.key Ab) rfl (A8 ?_)
  refine ⟨fun h1=>?_,fun h1=>?_⟩<;>conv=>whnf
  ·repeat refine Bj ?_
   refine ⟨fun h2=>?_,fun h2=>?_⟩<;>conv=>whnf
   ·repeat refine Bj ?_
    rw [Dv,if_pos Ab,Jd,if_pos ⟨h1,of_decide_eq_true h2⟩]
    refine B3 A0 rfl rfl ?_
    exact Ay
   repeat refine Bj ?_
   refine Ed 3 (Ak []) rfl De ?_
   refine C0 A0 false [48] (fun k:Nat=>[(12,.c (vi k))]) (fun k=>[⟨0,[.c (vi x.op),.c (vi x.epoch),.c (vi x.key),.c (vi x.val)]⟩]) (fun k=>[⟨3,Ak ((l.take k).filter (fun y=>!Bt x y))⟩])
    (fun k=>k≤l.length) (fun k=>l.length-k) 0 (Nat.zero_le _) ⟨G9,trivial⟩ Cf ⟨Eu,trivial⟩ Cr A7 (fun k hk=>?_)
   conv=>whnf
   refine Fi (fun h=>?_) fun h=>?_<;>conv=>whnf
   ·have h:k<l.length:=by omega
    have hs:=F4 (fun y=>!Bt x y) l k h
    have hb:=Ds (fun y=>!Bt x y) l k
    first|(refine B7 16 rfl [0,1,2,3,4,5,6,7,8,9,10,11,12,13,14,15,16,17,18,19,20,21,22,23,24,25,26,27] A7 (A8 ?_))
    (repeat refine An ?_)
    refine ⟨fun n1=>have n1:=bne_iff_ne.1 n1;?_,fun n1=>have n1:=bne_eq_false_iff_eq.1 n1;?_⟩<;>conv=>whnf
    ·rw [Int.toNat_natCast] at n1
     repeat refine Bj ?_
     (repeat refine An ?_)
     refine B1 A0 rfl rfl rfl rfl rfl rfl rfl rfl rfl rfl rfl (Ak ((l.take k).filter (fun y=>!Bt x y)++[l.getD k default])) (Aa rfl) Bg Ab (A8 ?_)
     (repeat refine An ?_)
     refine B9 [(3,5)] (k+1) Ab Ab ⟨rfl,trivial⟩ ⟨congrArg Ak (by rw [hs,if_pos (Ma n1)]),trivial⟩ Cf A7 Cr A7
    rw [Int.toNat_natCast] at n1
    repeat refine Bj ?_
    (repeat refine An ?_)
    refine ⟨fun n2=>have n2:=bne_iff_ne.1 n2;?_,fun n2=>have n2:=bne_eq_false_iff_eq.1 n2;?_⟩<;>conv=>whnf
    ·rw [Int.toNat_natCast] at n2
     repeat refine Bj ?_
     (repeat refine An ?_)
     refine B1 A0 rfl rfl rfl rfl rfl rfl rfl rfl rfl rfl rfl (Ak ((l.take k).filter (fun y=>!Bt x y)++[l.getD k default])) (Aa rfl) Bg Ab (A8 ?_)
     (repeat refine An ?_)
     refine B9 [(3,5)] (k+1) Ab Ab ⟨rfl,trivial⟩ ⟨congrArg Ak (by rw [hs,if_pos (Mb n2)]),trivial⟩ Cf A7 Cr A7
    rw [Int.toNat_natCast] at n2
    repeat refine Bj ?_
    (repeat refine An ?_)
    refine ⟨fun n3=>have n3:=bne_iff_ne.1 n3;?_,fun n3=>have n3:=bne_eq_false_iff_eq.1 n3;?_⟩<;>conv=>whnf
    ·rw [Int.toNat_natCast] at n3
     repeat refine Bj ?_
     (repeat refine An ?_)
     refine B1 A0 rfl rfl rfl rfl rfl rfl rfl rfl rfl rfl rfl (Ak ((l.take k).filter (fun y=>!Bt x y)++[l.getD k default])) (Aa rfl) Bg Ab (A8 ?_)
     (repeat refine An ?_)
     refine B9 [(3,5)] (k+1) Ab Ab ⟨rfl,trivial⟩ ⟨congrArg Ak (by rw [hs,if_pos (Mc n3)]),trivial⟩ Cf A7 Cr A7
    rw [Int.toNat_natCast] at n3
    repeat refine Bj ?_
    (repeat refine An ?_)
    refine B9 [] (k+1) Ab Ab ⟨rfl,trivial⟩ ⟨congrArg Ak (by rw [hs,if_neg (by rw [Qy n1 n2 n3];decide),List.append_nil]),trivial⟩ Cf A7 Cr A7
   repeat refine Bj ?_
   obtain rfl:k=l.length:=by omega
   refine Cq (I1 ((l.take l.length).filter fun y=>!Bt x y) x (by have:=List.length_filter_le (fun y=>!Bt x y) (l.take l.length);rw [List.take_length] at *;omega)) rfl (A8 ?_)
   rw [Dv,if_pos Ab,Jd,if_neg (fun p=>absurd p.2 (of_decide_eq_false h2))]
   refine B3 A0 rfl rfl ?_
   rw [List.take_length]
   exact Ay
  repeat refine Bj ?_
  refine Ed 3 (Ak []) rfl De ?_
  refine C0 A0 false [48] (fun k:Nat=>[(12,.c (vi k))]) (fun k=>[⟨0,[.c (vi x.op),.c (vi x.epoch),.c (vi x.key),.c (vi x.val)]⟩]) (fun k=>[⟨3,Ak ((l.take k).filter (fun y=>!Bt x y))⟩])
   (fun k=>k≤l.length) (fun k=>l.length-k) 0 (Nat.zero_le _) ⟨G9,trivial⟩ Cf ⟨Eu,trivial⟩ Cr A7 (fun k hk=>?_)
  conv=>whnf
  refine Fi (fun h=>?_) fun h=>?_<;>conv=>whnf
  ·have h:k<l.length:=by omega
   have hs:=F4 (fun y=>!Bt x y) l k h
   have hb:=Ds (fun y=>!Bt x y) l k
   first|(refine B7 16 rfl [0,1,2,3,4,5,6,7,8,9,10,11,12,13,14,15,16,17,18,19,20,21,22,23,24,25,26,27] A7 (A8 ?_))
   (repeat refine An ?_)
   refine ⟨fun n1=>have n1:=bne_iff_ne.1 n1;?_,fun n1=>have n1:=bne_eq_false_iff_eq.1 n1;?_⟩<;>conv=>whnf
   ·rw [Int.toNat_natCast] at n1
    repeat refine Bj ?_
    (repeat refine An ?_)
    refine B1 A0 rfl rfl rfl rfl rfl rfl rfl rfl rfl rfl rfl (Ak ((l.take k).filter (fun y=>!Bt x y)++[l.getD k default])) (Aa rfl) Bg Ab (A8 ?_)
    (repeat refine An ?_)
    refine B9 [(3,5)] (k+1) Ab Ab ⟨rfl,trivial⟩ ⟨congrArg Ak (by rw [hs,if_pos (Ma n1)]),trivial⟩ Cf A7 Cr A7
   rw [Int.toNat_natCast] at n1
   repeat refine Bj ?_
   (repeat refine An ?_)
   refine ⟨fun n2=>have n2:=bne_iff_ne.1 n2;?_,fun n2=>have n2:=bne_eq_false_iff_eq.1 n2;?_⟩<;>conv=>whnf
   ·rw [Int.toNat_natCast] at n2
    repeat refine Bj ?_
    (repeat refine An ?_)
    refine B1 A0 rfl rfl rfl rfl rfl rfl rfl rfl rfl rfl rfl (Ak ((l.take k).filter (fun y=>!Bt x y)++[l.getD k default])) (Aa rfl) Bg Ab (A8 ?_)
    (repeat refine An ?_)
    refine B9 [(3,5)] (k+1) Ab Ab ⟨rfl,trivial⟩ ⟨congrArg Ak (by rw [hs,if_pos (Mb n2)]),trivial⟩ Cf A7 Cr A7
   rw [Int.toNat_natCast] at n2
   repeat refine Bj ?_
   (repeat refine An ?_)
   refine ⟨fun n3=>have n3:=bne_iff_ne.1 n3;?_,fun n3=>have n3:=bne_eq_false_iff_eq.1 n3;?_⟩<;>conv=>whnf
   ·rw [Int.toNat_natCast] at n3
    repeat refine Bj ?_
    (repeat refine An ?_)
    refine B1 A0 rfl rfl rfl rfl rfl rfl rfl rfl rfl rfl rfl (Ak ((l.take k).filter (fun y=>!Bt x y)++[l.getD k default])) (Aa rfl) Bg Ab (A8 ?_)
    (repeat refine An ?_)
    refine B9 [(3,5)] (k+1) Ab Ab ⟨rfl,trivial⟩ ⟨congrArg Ak (by rw [hs,if_pos (Mc n3)]),trivial⟩ Cf A7 Cr A7
   rw [Int.toNat_natCast] at n3
   repeat refine Bj ?_
   (repeat refine An ?_)
   refine B9 [] (k+1) Ab Ab ⟨rfl,trivial⟩ ⟨congrArg Ak (by rw [hs,if_neg (by rw [Qy n1 n2 n3];decide),List.append_nil]),trivial⟩ Cf A7 Cr A7
  repeat refine Bj ?_
  obtain rfl:k=l.length:=by omega
  refine Cq (I1 ((l.take l.length).filter fun y=>!Bt x y) x (by have:=List.length_filter_le (fun y=>!Bt x y) (l.take l.length);rw [List.take_length] at *;omega)) rfl (A8 ?_)
  rw [Dv,if_pos Ab,Jd,if_neg (fun p=>by rw [p.1] at h1;cases h1)]
  refine B3 A0 rfl rfl ?_
  rw [List.take_length]
  exact Ay
 refine ⟨fun h8=>have h8:=eq_of_beq h8;?_,fun h8=>have h8:=beq_eq_false_iff_ne.1 h8;?_⟩<;>conv=>whnf
 ·repeat refine Bj ?_
  refine B5 (Su l x.op x.epoch x.key Ab) rfl (A8 ?_)
  refine ⟨fun h1=>?_,fun h1=>?_⟩<;>conv=>whnf
  ·repeat refine Bj ?_
   refine ⟨fun h2=>?_,fun h2=>?_⟩<;>conv=>whnf
   ·repeat refine Bj ?_
    rw [Dv,if_pos Ab,Jd,if_pos ⟨h1,of_decide_eq_true h2⟩]
    refine B3 A0 rfl rfl ?_
    exact Ay
   repeat refine Bj ?_
   refine Ed 3 (Ak []) rfl De ?_
   refine C0 A0 false [48] (fun k:Nat=>[(12,.c (vi k))]) (fun k=>[⟨0,[.c (vi x.op),.c (vi x.epoch),.c (vi x.key),.c (vi x.val)]⟩]) (fun k=>[⟨3,Ak ((l.take k).filter (fun y=>!Bt x y))⟩])
    (fun k=>k≤l.length) (fun k=>l.length-k) 0 (Nat.zero_le _) ⟨G9,trivial⟩ Cf ⟨Eu,trivial⟩ Cr A7 (fun k hk=>?_)
   conv=>whnf
   refine Fi (fun h=>?_) fun h=>?_<;>conv=>whnf
   ·have h:k<l.length:=by omega
    have hs:=F4 (fun y=>!Bt x y) l k h
    have hb:=Ds (fun y=>!Bt x y) l k
    first|(refine B7 16 rfl [0,1,2,3,4,5,6,7,8,9,10,11,12,13,14,15,16,17,18,19,20,21,22,23,24,25,26,27] A7 (A8 ?_))
    (repeat refine An ?_)
    refine ⟨fun n1=>have n1:=bne_iff_ne.1 n1;?_,fun n1=>have n1:=bne_eq_false_iff_eq.1 n1;?_⟩<;>conv=>whnf
    ·rw [Int.toNat_natCast] at n1
     repeat refine Bj ?_
     (repeat refine An ?_)
     refine B1 A0 rfl rfl rfl rfl rfl rfl rfl rfl rfl rfl rfl (Ak ((l.take k).filter (fun y=>!Bt x y)++[l.getD k default])) (Aa rfl) Bg Ab (A8 ?_)
     (repeat refine An ?_)
     refine B9 [(3,5)] (k+1) Ab Ab ⟨rfl,trivial⟩ ⟨congrArg Ak (by rw [hs,if_pos (Ma n1)]),trivial⟩ Cf A7 Cr A7
    rw [Int.toNat_natCast] at n1
    repeat refine Bj ?_
    (repeat refine An ?_)
    refine ⟨fun n2=>have n2:=bne_iff_ne.1 n2;?_,fun n2=>have n2:=bne_eq_false_iff_eq.1 n2;?_⟩<;>conv=>whnf
    ·rw [Int.toNat_natCast] at n2
     repeat refine Bj ?_
     (repeat refine An ?_)
     refine B1 A0 rfl rfl rfl rfl rfl rfl rfl rfl rfl rfl rfl (Ak ((l.take k).filter (fun y=>!Bt x y)++[l.getD k default])) (Aa rfl) Bg Ab (A8 ?_)
     (repeat refine An ?_)
     refine B9 [(3,5)] (k+1) Ab Ab ⟨rfl,trivial⟩ ⟨congrArg Ak (by rw [hs,if_pos (Mb n2)]),trivial⟩ Cf A7 Cr A7
    rw [Int.toNat_natCast] at n2
    repeat refine Bj ?_
    (repeat refine An ?_)
    refine ⟨fun n3=>have n3:=bne_iff_ne.1 n3;?_,fun n3=>have n3:=bne_eq_false_iff_eq.1 n3;?_⟩<;>conv=>whnf
    ·rw [Int.toNat_natCast] at n3
     repeat refine Bj ?_
     (repeat refine An ?_)
     refine B1 A0 rfl rfl rfl rfl rfl rfl rfl rfl rfl rfl rfl (Ak ((l.take k).filter (fun y=>!Bt x y)++[l.getD k default])) (Aa rfl) Bg Ab (A8 ?_)
     (repeat refine An ?_)
     refine B9 [(3,5)] (k+1) Ab Ab ⟨rfl,trivial⟩ ⟨congrArg Ak (by rw [hs,if_pos (Mc n3)]),trivial⟩ Cf A7 Cr A7
    rw [Int.toNat_natCast] at n3
    repeat refine Bj ?_
    (repeat refine An ?_)
    refine B9 [] (k+1) Ab Ab ⟨rfl,trivial⟩ ⟨congrArg Ak (by rw [hs,if_neg (by rw [Qy n1 n2 n3];decide),List.append_nil]),trivial⟩ Cf A7 Cr A7
   repeat refine Bj ?_
   obtain rfl:k=l.length:=by omega
   refine Cq (I1 ((l.take l.length).filter fun y=>!Bt x y) x (by have:=List.length_filter_le (fun y=>!Bt x y) (l.take l.length);rw [List.take_length] at *;omega)) rfl (A8 ?_)
   rw [Dv,if_pos Ab,Jd,if_neg (fun p=>absurd p.2 (of_decide_eq_false h2))]
   refine B3 A0 rfl rfl ?_
   rw [List.take_length]
   exact Ay
  repeat refine Bj ?_
  refine Ed 3 (Ak []) rfl De ?_
  refine C0 A0 false [48] (fun k:Nat=>[(12,.c (vi k))]) (fun k=>[⟨0,[.c (vi x.op),.c (vi x.epoch),.c (vi x.key),.c (vi x.val)]⟩]) (fun k=>[⟨3,Ak ((l.take k).filter (fun y=>!Bt x y))⟩])
   (fun k=>k≤l.length) (fun k=>l.length-k) 0 (Nat.zero_le _) ⟨G9,trivial⟩ Cf ⟨Eu,trivial⟩ Cr A7 (fun k hk=>?_)
  conv=>whnf
  refine Fi (fun h=>?_) fun h=>?_<;>conv=>whnf
  ·have h:k<l.length:=by omega
   have hs:=F4 (fun y=>!Bt x y) l k h
   have hb:=Ds (fun y=>!Bt x y) l k
   first|(refine B7 16 rfl [0,1,2,3,4,5,6,7,8,9,10,11,12,13,14,15,16,17,18,19,20,21,22,23,24,25,26,27] A7 (A8 ?_))
   (repeat refine An ?_)
   refine ⟨fun n1=>have n1:=bne_iff_ne.1 n1;?_,fun n1=>have n1:=bne_eq_false_iff_eq.1 n1;?_⟩<;>conv=>whnf
   ·rw [Int.toNat_natCast] at n1
    repeat refine Bj ?_
    (repeat refine An ?_)
    refine B1 A0 rfl rfl rfl rfl rfl rfl rfl rfl rfl rfl rfl (Ak ((l.take k).filter (fun y=>!Bt x y)++[l.getD k default])) (Aa rfl) Bg Ab (A8 ?_)
    (repeat refine An ?_)
    refine B9 [(3,5)] (k+1) Ab Ab ⟨rfl,trivial⟩ ⟨congrArg Ak (by rw [hs,if_pos (Ma n1)]),trivial⟩ Cf A7 Cr A7
   rw [Int.toNat_natCast] at n1
   repeat refine Bj ?_
   (repeat refine An ?_)
   refine ⟨fun n2=>have n2:=bne_iff_ne.1 n2;?_,fun n2=>have n2:=bne_eq_false_iff_eq.1 n2;?_⟩<;>conv=>whnf
   ·rw [Int.toNat_natCast] at n2
    repeat refine Bj ?_
    (repeat refine An ?_)
    refine B1 A0 rfl rfl rfl rfl rfl rfl rfl rfl rfl rfl rfl (Ak ((l.take k).filter (fun y=>!Bt x y)++[l.getD k default])) (Aa rfl) Bg Ab (A8 ?_)
    (repeat refine An ?_)
    refine B9 [(3,5)] (k+1) Ab Ab ⟨rfl,trivial⟩ ⟨congrArg Ak (by rw [hs,if_pos (Mb n2)]),trivial⟩ Cf A7 Cr A7
   rw [Int.toNat_natCast] at n2
   repeat refine Bj ?_
   (repeat refine An ?_)
   refine ⟨fun n3=>have n3:=bne_iff_ne.1 n3;?_,fun n3=>have n3:=bne_eq_false_iff_eq.1 n3;?_⟩<;>conv=>whnf
   ·rw [Int.toNat_natCast] at n3
    repeat refine Bj ?_
    (repeat refine An ?_)
    refine B1 A0 rfl rfl rfl rfl rfl rfl rfl rfl rfl rfl rfl (Ak ((l.take k).filter (fun y=>!Bt x y)++[l.getD k default])) (Aa rfl) Bg Ab (A8 ?_)
    (repeat refine An ?_)
    refine B9 [(3,5)] (k+1) Ab Ab ⟨rfl,trivial⟩ ⟨congrArg Ak (by rw [hs,if_pos (Mc n3)]),trivial⟩ Cf A7 Cr A7
   rw [Int.toNat_natCast] at n3
   repeat refine Bj ?_
   (repeat refine An ?_)
   refine B9 [] (k+1) Ab Ab ⟨rfl,trivial⟩ ⟨congrArg Ak (by rw [hs,if_neg (by rw [Qy n1 n2 n3];decide),List.append_nil]),trivial⟩ Cf A7 Cr A7
  repeat refine Bj ?_
  obtain rfl:k=l.length:=by omega
  refine Cq (I1 ((l.take l.length).filter fun y=>!Bt x y) x (by have:=List.length_filter_le (fun y=>!Bt x y) (l.take l.length);rw [List.take_length] at *;omega)) rfl (A8 ?_)
  rw [Dv,if_pos Ab,Jd,if_neg (fun p=>by rw [p.1] at h1;cases h1)]
  refine B3 A0 rfl rfl ?_
  rw [List.take_length]
  exact Ay
 repeat refine Bj ?_
 rw [Y1 h5 h8 h6]
 refine B3 A0 rfl rfl ?_
 exact Ay
theorem Zy {g:Ap}{cs:List Ag}{r:Ae}(h:¬ Kh g r):F3 g cs r=(cs,[],false):=if_neg h
theorem A8a {g:Ap}{cs:List Ag}{r:Ae}(h:Kh g r)(h1:(C8 (Al g r.op) r.key r.val).2.2=false)(h2:(Al g r.op).kind≠8):F3 g cs r=(cs,[],true):=by
 unfold F3
 rw [if_pos h,if_pos ⟨h1,h2⟩]
theorem Vv {g:Ap}{cs:List Ag}{r:Ae}(h:Kh g r)(h1:¬ ((C8 (Al g r.op) r.key r.val).2.2=false∧(Al g r.op).kind≠8))(h2:(Dv (Al g r.op).kind cs (G4 r)).2=false):F3 g cs r=((Dv (Al g r.op).kind cs (G4 r)).1,[],true):=by
 unfold F3
 rw [if_pos h,if_neg h1,if_pos h2]
theorem R4 {g:Ap}{cs:List Ag}{r:Ae}(h:Kh g r)(h1:¬ ((C8 (Al g r.op) r.key r.val).2.2=false∧(Al g r.op).kind≠8))(h2:(Dv (Al g r.op).kind cs (G4 r)).2=true):F3 g cs r=((Dv (Al g r.op).kind cs (G4 r)).1,Mm g r,true):=by
 unfold F3
 rw [if_pos h,if_neg h1,if_neg (by rw [h2];decide)]
def Qa (r:Ae) (s:Ec) (k v:Int) (o:Int):Ae:=⟨o,s,k,v⟩
theorem A9k {g:Ap}{r:Ae}(h7:(Al g r.op).kind=7)(h:(Dd r.stamp).2=false):Mm g r=[]:=by
 unfold Mm
 rw [if_pos ⟨h7,h⟩]
theorem B2z {g:Ap}{r:Ae}(h7:(Al g r.op).kind=7)(h:(Dd r.stamp).2=true):Mm g r=(Al g r.op).outs.map (Qa r (Dd r.stamp).1 (C8 (Al g r.op) r.key r.val).1 (C8 (Al g r.op) r.key r.val).2.1):=by
 unfold Mm
 rw [if_neg (fun p=>by rw [p.2] at h;cases h),if_pos h7]
 rfl
theorem Yw {g:Ap}{r:Ae}(h7:(Al g r.op).kind≠7):Mm g r=(Al g r.op).outs.map (Qa r r.stamp (C8 (Al g r.op) r.key r.val).1 (C8 (Al g r.op) r.key r.val).2.1):=by
 unfold Mm
 rw [if_neg (fun p=>h7 p.1),if_neg h7]
 rfl
theorem We {α β:Type} [Inhabited α] (f:α→β){l:List α}{k:Nat}(hk:k<l.length):(l.take (k+1)).map f=(l.take k).map f++[f (l.getD k default)]:=by
 rw [List.take_succ_eq_append_getElem hk,List.map_append]
 simp [List.getD,hk]
theorem A5p {g:Ap}{op:Int}(hg:g.w≤16777216)(hk:op.toNat<g.nodes.length):(Al g op).w≤16777216∧(Al g op).outs.length≤16777216:=by
 have:=H5 Aq.w g.nodes op.toNat hk
 simp only [Ap.w,wS] at hg
 simp only [Al]
 have e:(g.nodes.getD op.toNat default).w=(g.nodes.getD op.toNat default).outs.length:=rfl
 omega
abbrev emL (g:Ap) (r:Ae) (s:Ec) (k:Nat):List Ae:=((Al g r.op).outs.take k).map (Qa r s (C8 (Al g r.op) r.key r.val).1 (C8 (Al g r.op) r.key r.val).2.1)
theorem T7 {g:Ap}{r:Ae}{s:Ec}{k:Nat}(h:k<(Al g r.op).outs.length):emL g r s (k+1)=emL g r s k++[Qa r s (C8 (Al g r.op) r.key r.val).1 (C8 (Al g r.op) r.key r.val).2.1 ((Al g r.op).outs.getD k default)]:=We _ h
theorem Yv {g:Ap}{r:Ae}{s:Ec}{k:Nat}:(emL g r s k).length≤k:=by
 simp only [emL,List.length_map,List.length_take]
 omega
theorem Yu {g:Ap}{r:Ae}{s:Ec}{k:Nat}(h:(Al g r.op).outs.length≤k):emL g r s k=(Al g r.op).outs.map (Qa r s (C8 (Al g r.op) r.key r.val).1 (C8 (Al g r.op) r.key r.val).2.1):=by
 rw [emL,List.take_of_length_le h]
theorem P3 {g:Ap}{r:Ae}(h:¬ Kh g r):capped g r=false:=decide_eq_false fun p=>h p.1
theorem A6q {g:Ap}{r:Ae}(h:Kh g r):capped g r=(((Al g r.op).kind==7)&&(decide (((Al g r.op).outs.length:Int)>0)&&!(Dd r.stamp).2)):=by
 unfold capped
 rw [Bool.eq_iff_iff]
 simp only [decide_eq_true_eq,Bool.and_eq_true,beq_iff_eq,Bool.not_eq_true',h,true_and]
 constructor
 ·intro ⟨a,b,c⟩;exact ⟨a,by omega,c⟩
 intro ⟨a,b,c⟩;exact ⟨a,by omega,c⟩
end Go.Proofs.YtdendlkeiaccpaaGreatDoor
