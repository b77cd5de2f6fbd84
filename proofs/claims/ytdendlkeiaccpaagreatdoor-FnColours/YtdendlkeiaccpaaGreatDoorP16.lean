/- Part 16 of the proof that each of the laws FnColours returns true for every input. No conditions. -/
import Derived.Test.YtdendlkeiaccpaaGreatDoorP5
import Derived.Test.YtdendlkeiaccpaaGreatDoorP15
import Derived.Test.YtdendlkeiaccpaaGreatDoorP10

set_option linter.unusedSimpArgs false
set_option linter.unusedVariables false
set_option maxRecDepth 100000
namespace Go.Proofs.YtdendlkeiaccpaaGreatDoor
open Go.Sx
theorem A8i {l:List Bj}{x:Bj}:Dx 6 l x=(Gl l x,!Lz l x):=by
 unfold Dx
 rw [if_neg Az,if_pos rfl]
 cases h:Lz l x with
 |true=>rw [if_pos rfl,Gl,if_pos h];rfl
 |false=>rw [if_neg Az];rfl
theorem Zp {k:Int}{l:List Bj}{x:Bj}(h5:k≠5)(h8:k≠8)(h6:k≠6):Dx k l x=(l,true):=by
 unfold Dx
 rw [if_neg Ac,if_neg h6]
theorem Nm {a b:Bj}(h:b.op≠a.op):(!C4 a b)=true:=by simp only [C4,Bool.not_eq_true',decide_eq_false_iff_not];omega
theorem Nn {a b:Bj}(h:b.epoch≠a.epoch):(!C4 a b)=true:=by simp only [C4,Bool.not_eq_true',decide_eq_false_iff_not];omega
theorem Np {a b:Bj}(h:b.key≠a.key):(!C4 a b)=true:=by simp only [C4,Bool.not_eq_true',decide_eq_false_iff_not];omega
theorem Sg {a b:Bj}(h1:b.op=a.op)(h2:b.epoch=a.epoch)(h3:b.key=a.key):(!C4 a b)=false:=by simp only [C4,Bool.not_eq_false',decide_eq_true_eq];omega
set_option maxHeartbeats 4000000 in
theorem Xm (kind:Int)(l:List Bj)(x:Bj)(hl:l.length≤16000000):Be Tryz.prog 183 [.one (vi kind),.one (Bm l),.agg x.c] [.one (Bm (Dx kind l x).1),.one (vb (Dx kind l x).2)]:=by
 refine B5 A0 false Tryz.func183 rfl Az fun W=>?_
 conv=>whnf
 refine B6 A0 rfl rfl rfl rfl rfl rfl rfl rfl rfl rfl rfl (Bm l) (C1) (fun _=>Es l) Ac (A8 ?_)
 refine ⟨fun h6=>have h6:=eq_of_beq h6;?_,fun h6=>have h6:=beq_eq_false_iff_ne.1 h6;?_⟩<;>conv=>whnf
 ·refine At (Ud l x Ac) rfl (A8 ?_)
  refine ⟨fun hc=>?_,fun hc=>?_⟩<;>conv=>whnf
  ·rw [h6,A8i,Gl,if_pos hc,hc]
   refine Ap A0 rfl rfl ?_
   exact B1
  refine Cn (Kh l x Ac) rfl (A8 ?_)
  rw [h6,A8i,hc]
  refine Ap A0 rfl rfl ?_
  exact B1
 refine ⟨fun h5=>have h5:=eq_of_beq h5;?_,fun h5=>have h5:=beq_eq_false_iff_ne.1 h5;?_⟩<;>conv=>whnf
 ·repeat refine Bd ?_
  refine At (Ue l x.op x.epoch x.key Ac) rfl (A8 ?_)
  refine ⟨fun h1=>?_,fun h1=>?_⟩<;>conv=>whnf
  ·repeat refine Bd ?_
   refine ⟨fun h2=>?_,fun h2=>?_⟩<;>conv=>whnf
   ·repeat refine Bd ?_
    rw [Dx,if_pos Ac,Km,if_pos ⟨h1,of_decide_eq_true h2⟩]
    refine Ap A0 rfl rfl ?_
    exact B1
   repeat refine Bd ?_
   refine Eo 3 (Bm []) rfl Du ?_
   refine C0 A0 false [48] (fun k:Nat=>[(12,.c (vi k))]) (fun k=>[⟨0,[.c (vi x.op),.c (vi x.epoch),.c (vi x.key),.c (vi x.val)]⟩]) (fun k=>[⟨3,Bm ((l.take k).filter (fun y=>!C4 x y))⟩])
    (fun k=>k≤l.length) (fun k=>l.length-k) 0 (Nat.zero_le _) ⟨G3,trivial⟩ Cg ⟨Ek,trivial⟩ Co A7 (fun k hk=>?_)
   conv=>whnf
   refine F4 (fun h=>?_) fun h=>?_<;>conv=>whnf
   ·have h:k<l.length:=by omega
    have hs:=Ho (fun y=>!C4 x y) l k h
    have hb:=Fa (fun y=>!C4 x y) l k
    first|(refine Ax 16 rfl [0,1,2,3,4,5,6,7,8,9,10,11,12,13,14,15,16,17,18,19,20,21,22,23,24,25,26,27] A7 (A8 ?_))
    (repeat refine An ?_)
    refine ⟨fun n1=>have n1:=bne_iff_ne.1 n1;?_,fun n1=>have n1:=bne_eq_false_iff_eq.1 n1;?_⟩<;>conv=>whnf
    ·rw [Int.toNat_natCast] at n1
     repeat refine Bd ?_
     (repeat refine An ?_)
     refine B6 A0 rfl rfl rfl rfl rfl rfl rfl rfl rfl rfl rfl (Bm ((l.take k).filter (fun y=>!C4 x y)++[l.getD k default])) (Ad rfl) Bp Ac (A8 ?_)
     (repeat refine An ?_)
     refine B8 [(3,5)] (k+1) Ac Ac ⟨rfl,trivial⟩ ⟨congrArg Bm (by rw [hs,if_pos (Nm n1)]),trivial⟩ Cg A7 Co A7
    rw [Int.toNat_natCast] at n1
    repeat refine Bd ?_
    (repeat refine An ?_)
    refine ⟨fun n2=>have n2:=bne_iff_ne.1 n2;?_,fun n2=>have n2:=bne_eq_false_iff_eq.1 n2;?_⟩<;>conv=>whnf
    ·rw [Int.toNat_natCast] at n2
     repeat refine Bd ?_
     (repeat refine An ?_)
     refine B6 A0 rfl rfl rfl rfl rfl rfl rfl rfl rfl rfl rfl (Bm ((l.take k).filter (fun y=>!C4 x y)++[l.getD k default])) (Ad rfl) Bp Ac (A8 ?_)
     (repeat refine An ?_)
     refine B8 [(3,5)] (k+1) Ac Ac ⟨rfl,trivial⟩ ⟨congrArg Bm (by rw [hs,if_pos (Nn n2)]),trivial⟩ Cg A7 Co A7
    rw [Int.toNat_natCast] at n2
    repeat refine Bd ?_
    (repeat refine An ?_)
    refine ⟨fun n3=>have n3:=bne_iff_ne.1 n3;?_,fun n3=>have n3:=bne_eq_false_iff_eq.1 n3;?_⟩<;>conv=>whnf
    ·rw [Int.toNat_natCast] at n3
     repeat refine Bd ?_
     (repeat refine An ?_)
     refine B6 A0 rfl rfl rfl rfl rfl rfl rfl rfl rfl rfl rfl (Bm ((l.take k).filter (fun y=>!C4 x y)++[l.getD k default])) (Ad rfl) Bp Ac (A8 ?_)
     (repeat refine An ?_)
     refine B8 [(3,5)] (k+1) Ac Ac ⟨rfl,trivial⟩ ⟨congrArg Bm (by rw [hs,if_pos (Np n3)]),trivial⟩ Cg A7 Co A7
    rw [Int.toNat_natCast] at n3
    repeat refine Bd ?_
    (repeat refine An ?_)
    refine B8 [] (k+1) Ac Ac ⟨rfl,trivial⟩ ⟨congrArg Bm (by rw [hs,if_neg (by rw [Sg n1 n2 n3];decide),List.append_nil]),trivial⟩ Cg A7 Co A7
   repeat refine Bd ?_
   obtain rfl:k=l.length:=by omega
   refine Cn (Kh ((l.take l.length).filter fun y=>!C4 x y) x (by have:=List.length_filter_le (fun y=>!C4 x y) (l.take l.length);rw [List.take_length] at *;omega)) rfl (A8 ?_)
   rw [Dx,if_pos Ac,Km,if_neg (fun p=>absurd p.2 (of_decide_eq_false h2))]
   refine Ap A0 rfl rfl ?_
   rw [List.take_length]
   exact B1
  repeat refine Bd ?_
  refine Eo 3 (Bm []) rfl Du ?_
  refine C0 A0 false [48] (fun k:Nat=>[(12,.c (vi k))]) (fun k=>[⟨0,[.c (vi x.op),.c (vi x.epoch),.c (vi x.key),.c (vi x.val)]⟩]) (fun k=>[⟨3,Bm ((l.take k).filter (fun y=>!C4 x y))⟩])
   (fun k=>k≤l.length) (fun k=>l.length-k) 0 (Nat.zero_le _) ⟨G3,trivial⟩ Cg ⟨Ek,trivial⟩ Co A7 (fun k hk=>?_)
  conv=>whnf
  refine F4 (fun h=>?_) fun h=>?_<;>conv=>whnf
  ·have h:k<l.length:=by omega
   have hs:=Ho (fun y=>!C4 x y) l k h
   have hb:=Fa (fun y=>!C4 x y) l k
   first|(refine Ax 16 rfl [0,1,2,3,4,5,6,7,8,9,10,11,12,13,14,15,16,17,18,19,20,21,22,23,24,25,26,27] A7 (A8 ?_))
   (repeat refine An ?_)
   refine ⟨fun n1=>have n1:=bne_iff_ne.1 n1;?_,fun n1=>have n1:=bne_eq_false_iff_eq.1 n1;?_⟩<;>conv=>whnf
   ·rw [Int.toNat_natCast] at n1
    repeat refine Bd ?_
    (repeat refine An ?_)
    refine B6 A0 rfl rfl rfl rfl rfl rfl rfl rfl rfl rfl rfl (Bm ((l.take k).filter (fun y=>!C4 x y)++[l.getD k default])) (Ad rfl) Bp Ac (A8 ?_)
    (repeat refine An ?_)
    refine B8 [(3,5)] (k+1) Ac Ac ⟨rfl,trivial⟩ ⟨congrArg Bm (by rw [hs,if_pos (Nm n1)]),trivial⟩ Cg A7 Co A7
   rw [Int.toNat_natCast] at n1
   repeat refine Bd ?_
   (repeat refine An ?_)
   refine ⟨fun n2=>have n2:=bne_iff_ne.1 n2;?_,fun n2=>have n2:=bne_eq_false_iff_eq.1 n2;?_⟩<;>conv=>whnf
   ·rw [Int.toNat_natCast] at n2
    repeat refine Bd ?_
    (repeat refine An ?_)
    refine B6 A0 rfl rfl rfl rfl rfl rfl rfl rfl rfl rfl rfl (Bm ((l.take k).filter (fun y=>!C4 x y)++[l.getD k default])) (Ad rfl) Bp Ac (A8 ?_)
    (repeat refine An ?_)
    refine B8 [(3,5)] (k+1) Ac Ac ⟨rfl,trivial⟩ ⟨congrArg Bm (by rw [hs,if_pos (Nn n2)]),trivial⟩ Cg A7 Co A7
   rw [Int.toNat_natCast] at n2
   repeat refine Bd ?_
   (repeat refine An ?_)
   refine ⟨fun n3=>have n3:=bne_iff_ne.1 n3;?_,fun n3=>have n3:=bne_eq_false_iff_eq.1 n3;?_⟩<;>conv=>whnf
   ·rw [Int.toNat_natCast] at n3
    repeat refine Bd ?_
    (repeat refine An ?_)
    refine B6 A0 rfl rfl rfl rfl rfl rfl rfl rfl rfl rfl rfl (Bm ((l.take k).filter (fun y=>!C4 x y)++[l.getD k default])) (Ad rfl) Bp Ac (A8 ?_)
    (repeat refine An ?_)
    refine B8 [(3,5)] (k+1) Ac Ac ⟨rfl,trivial⟩ ⟨congrArg Bm (by rw [hs,if_pos (Np n3)]),trivial⟩ Cg A7 Co A7
   rw [Int.toNat_natCast] at n3
   repeat refine Bd ?_
   (repeat refine An ?_)
   refine B8 [] (k+1) Ac Ac ⟨rfl,trivial⟩ ⟨congrArg Bm (by rw [hs,if_neg (by rw [Sg n1 n2 n3];decide),List.append_nil]),trivial⟩ Cg A7 Co A7
  repeat refine Bd ?_
  obtain rfl:k=l.length:=by omega
  refine Cn (Kh ((l.take l.length).filter fun y=>!C4 x y) x (by have:=List.length_filter_le (fun y=>!C4 x y) (l.take l.length);rw [List.take_length] at *;omega)) rfl (A8 ?_)
  rw [Dx,if_pos Ac,Km,if_neg (fun p=>by rw [p.1] at h1;cases h1)]
  refine Ap A0 rfl rfl ?_
  rw [List.take_length]
  exact B1
 refine ⟨fun h8=>have h8:=eq_of_beq h8;?_,fun h8=>have h8:=beq_eq_false_iff_ne.1 h8;?_⟩<;>conv=>whnf
 ·repeat refine Bd ?_
  refine At (Ue l x.op x.epoch x.key Ac) rfl (A8 ?_)
  refine ⟨fun h1=>?_,fun h1=>?_⟩<;>conv=>whnf
  ·repeat refine Bd ?_
   refine ⟨fun h2=>?_,fun h2=>?_⟩<;>conv=>whnf
   ·repeat refine Bd ?_
    rw [Dx,if_pos Ac,Km,if_pos ⟨h1,of_decide_eq_true h2⟩]
    refine Ap A0 rfl rfl ?_
    exact B1
   repeat refine Bd ?_
   refine Eo 3 (Bm []) rfl Du ?_
   refine C0 A0 false [48] (fun k:Nat=>[(12,.c (vi k))]) (fun k=>[⟨0,[.c (vi x.op),.c (vi x.epoch),.c (vi x.key),.c (vi x.val)]⟩]) (fun k=>[⟨3,Bm ((l.take k).filter (fun y=>!C4 x y))⟩])
    (fun k=>k≤l.length) (fun k=>l.length-k) 0 (Nat.zero_le _) ⟨G3,trivial⟩ Cg ⟨Ek,trivial⟩ Co A7 (fun k hk=>?_)
   conv=>whnf
   refine F4 (fun h=>?_) fun h=>?_<;>conv=>whnf
   ·have h:k<l.length:=by omega
    have hs:=Ho (fun y=>!C4 x y) l k h
    have hb:=Fa (fun y=>!C4 x y) l k
    first|(refine Ax 16 rfl [0,1,2,3,4,5,6,7,8,9,10,11,12,13,14,15,16,17,18,19,20,21,22,23,24,25,26,27] A7 (A8 ?_))
    (repeat refine An ?_)
    refine ⟨fun n1=>have n1:=bne_iff_ne.1 n1;?_,fun n1=>have n1:=bne_eq_false_iff_eq.1 n1;?_⟩<;>conv=>whnf
    ·rw [Int.toNat_natCast] at n1
     repeat refine Bd ?_
     (repeat refine An ?_)
     refine B6 A0 rfl rfl rfl rfl rfl rfl rfl rfl rfl rfl rfl (Bm ((l.take k).filter (fun y=>!C4 x y)++[l.getD k default])) (Ad rfl) Bp Ac (A8 ?_)
     (repeat refine An ?_)
     refine B8 [(3,5)] (k+1) Ac Ac ⟨rfl,trivial⟩ ⟨congrArg Bm (by rw [hs,if_pos (Nm n1)]),trivial⟩ Cg A7 Co A7
    rw [Int.toNat_natCast] at n1
    repeat refine Bd ?_
    (repeat refine An ?_)
    refine ⟨fun n2=>have n2:=bne_iff_ne.1 n2;?_,fun n2=>have n2:=bne_eq_false_iff_eq.1 n2;?_⟩<;>conv=>whnf
    ·rw [Int.toNat_natCast] at n2
     repeat refine Bd ?_
     (repeat refine An ?_)
     refine B6 A0 rfl rfl rfl rfl rfl rfl rfl rfl rfl rfl rfl (Bm ((l.take k).filter (fun y=>!C4 x y)++[l.getD k default])) (Ad rfl) Bp Ac (A8 ?_)
     (repeat refine An ?_)
     refine B8 [(3,5)] (k+1) Ac Ac ⟨rfl,trivial⟩ ⟨congrArg Bm (by rw [hs,if_pos (Nn n2)]),trivial⟩ Cg A7 Co A7
    rw [Int.toNat_natCast] at n2
    repeat refine Bd ?_
    (repeat refine An ?_)
    refine ⟨fun n3=>have n3:=bne_iff_ne.1 n3;?_,fun n3=>have n3:=bne_eq_false_iff_eq.1 n3;?_⟩<;>conv=>whnf
    ·rw [Int.toNat_natCast] at n3
     repeat refine Bd ?_
     (repeat refine An ?_)
     refine B6 A0 rfl rfl rfl rfl rfl rfl rfl rfl rfl rfl rfl (Bm ((l.take k).filter (fun y=>!C4 x y)++[l.getD k default])) (Ad rfl) Bp Ac (A8 ?_)
     (repeat refine An ?_)
     refine B8 [(3,5)] (k+1) Ac Ac ⟨rfl,trivial⟩ ⟨congrArg Bm (by rw [hs,if_pos (Np n3)]),trivial⟩ Cg A7 Co A7
    rw [Int.toNat_natCast] at n3
    repeat refine Bd ?_
    (repeat refine An ?_)
    refine B8 [] (k+1) Ac Ac ⟨rfl,trivial⟩ ⟨congrArg Bm (by rw [hs,if_neg (by rw [Sg n1 n2 n3];decide),List.append_nil]),trivial⟩ Cg A7 Co A7
   repeat refine Bd ?_
   obtain rfl:k=l.length:=by omega
   refine Cn (Kh ((l.take l.length).filter fun y=>!C4 x y) x (by have:=List.length_filter_le (fun y=>!C4 x y) (l.take l.length);rw [List.take_length] at *;omega)) rfl (A8 ?_)
   rw [Dx,if_pos Ac,Km,if_neg (fun p=>absurd p.2 (of_decide_eq_false h2))]
   refine Ap A0 rfl rfl ?_
   rw [List.take_length]
   exact B1
  repeat refine Bd ?_
  refine Eo 3 (Bm []) rfl Du ?_
  refine C0 A0 false [48] (fun k:Nat=>[(12,.c (vi k))]) (fun k=>[⟨0,[.c (vi x.op),.c (vi x.epoch),.c (vi x.key),.c (vi x.val)]⟩]) (fun k=>[⟨3,Bm ((l.take k).filter (fun y=>!C4 x y))⟩])
   (fun k=>k≤l.length) (fun k=>l.length-k) 0 (Nat.zero_le _) ⟨G3,trivial⟩ Cg ⟨Ek,trivial⟩ Co A7 (fun k hk=>?_)
  conv=>whnf
  refine F4 (fun h=>?_) fun h=>?_<;>conv=>whnf
  ·have h:k<l.length:=by omega
   have hs:=Ho (fun y=>!C4 x y) l k h
   have hb:=Fa (fun y=>!C4 x y) l k
   first|(refine Ax 16 rfl [0,1,2,3,4,5,6,7,8,9,10,11,12,13,14,15,16,17,18,19,20,21,22,23,24,25,26,27] A7 (A8 ?_))
   (repeat refine An ?_)
   refine ⟨fun n1=>have n1:=bne_iff_ne.1 n1;?_,fun n1=>have n1:=bne_eq_false_iff_eq.1 n1;?_⟩<;>conv=>whnf
   ·rw [Int.toNat_natCast] at n1
    repeat refine Bd ?_
    (repeat refine An ?_)
    refine B6 A0 rfl rfl rfl rfl rfl rfl rfl rfl rfl rfl rfl (Bm ((l.take k).filter (fun y=>!C4 x y)++[l.getD k default])) (Ad rfl) Bp Ac (A8 ?_)
    (repeat refine An ?_)
    refine B8 [(3,5)] (k+1) Ac Ac ⟨rfl,trivial⟩ ⟨congrArg Bm (by rw [hs,if_pos (Nm n1)]),trivial⟩ Cg A7 Co A7
   rw [Int.toNat_natCast] at n1
   repeat refine Bd ?_
   (repeat refine An ?_)
   refine ⟨fun n2=>have n2:=bne_iff_ne.1 n2;?_,fun n2=>have n2:=bne_eq_false_iff_eq.1 n2;?_⟩<;>conv=>whnf
   ·rw [Int.toNat_natCast] at n2
    repeat refine Bd ?_
    (repeat refine An ?_)
    refine B6 A0 rfl rfl rfl rfl rfl rfl rfl rfl rfl rfl rfl (Bm ((l.take k).filter (fun y=>!C4 x y)++[l.getD k default])) (Ad rfl) Bp Ac (A8 ?_)
    (repeat refine An ?_)
    refine B8 [(3,5)] (k+1) Ac Ac ⟨rfl,trivial⟩ ⟨congrArg Bm (by rw [hs,if_pos (Nn n2)]),trivial⟩ Cg A7 Co A7
   rw [Int.toNat_natCast] at n2
   repeat refine Bd ?_
   (repeat refine An ?_)
   refine ⟨fun n3=>have n3:=bne_iff_ne.1 n3;?_,fun n3=>have n3:=bne_eq_false_iff_eq.1 n3;?_⟩<;>conv=>whnf
   ·rw [Int.toNat_natCast] at n3
    repeat refine Bd ?_
    (repeat refine An ?_)
    refine B6 A0 rfl rfl rfl rfl rfl rfl rfl rfl rfl rfl rfl (Bm ((l.take k).filter (fun y=>!C4 x y)++[l.getD k default])) (Ad rfl) Bp Ac (A8 ?_)
    (repeat refine An ?_)
    refine B8 [(3,5)] (k+1) Ac Ac ⟨rfl,trivial⟩ ⟨congrArg Bm (by rw [hs,if_pos (Np n3)]),trivial⟩ Cg A7 Co A7
   rw [Int.toNat_natCast] at n3
   repeat refine Bd ?_
   (repeat refine An ?_)
   refine B8 [] (k+1) Ac Ac ⟨rfl,trivial⟩ ⟨congrArg Bm (by rw [hs,if_neg (by rw [Sg n1 n2 n3];decide),List.append_nil]),trivial⟩ Cg A7 Co A7
  repeat refine Bd ?_
  obtain rfl:k=l.length:=by omega
  refine Cn (Kh ((l.take l.length).filter fun y=>!C4 x y) x (by have:=List.length_filter_le (fun y=>!C4 x y) (l.take l.length);rw [List.take_length] at *;omega)) rfl (A8 ?_)
  rw [Dx,if_pos Ac,Km,if_neg (fun p=>by rw [p.1] at h1;cases h1)]
  refine Ap A0 rfl rfl ?_
  rw [List.take_length]
  exact B1
 repeat refine Bd ?_
 rw [Zp h5 h8 h6]
 refine Ap A0 rfl rfl ?_
 exact B1
theorem A13 {g:Aq}{cs:List Bj}{r:Ae}(h:¬ Lo g r):F0 g cs r=(cs,[],false):=if_neg h
theorem B0v {g:Aq}{cs:List Bj}{r:Ae}(h:Lo g r)(h1:(Cj (Ar g r.op) r.key r.val).2.2=false)(h2:(Ar g r.op).kind≠8):F0 g cs r=(cs,[],true):=by
 unfold F0
 rw [if_pos h,if_pos ⟨h1,h2⟩]
theorem Xq {g:Aq}{cs:List Bj}{r:Ae}(h:Lo g r)(h1:¬ ((Cj (Ar g r.op) r.key r.val).2.2=false∧(Ar g r.op).kind≠8))(h2:(Dx (Ar g r.op).kind cs (Gn r)).2=false):F0 g cs r=((Dx (Ar g r.op).kind cs (Gn r)).1,[],true):=by
 unfold F0
 rw [if_pos h,if_neg h1,if_pos h2]
theorem Sj {g:Aq}{cs:List Bj}{r:Ae}(h:Lo g r)(h1:¬ ((Cj (Ar g r.op) r.key r.val).2.2=false∧(Ar g r.op).kind≠8))(h2:(Dx (Ar g r.op).kind cs (Gn r)).2=true):F0 g cs r=((Dx (Ar g r.op).kind cs (Gn r)).1,Lu g r,true):=by
 unfold F0
 rw [if_pos h,if_neg h1,if_neg (by rw [h2];decide)]
def Rn (r:Ae) (s:Ea) (k v:Int) (o:Int):Ae:=⟨o,s,k,v⟩
theorem B2c {g:Aq}{r:Ae}(h7:(Ar g r.op).kind=7)(h:(Dk r.stamp).2=false):Lu g r=[]:=by
 unfold Lu
 rw [if_pos ⟨h7,h⟩]
theorem B5j {g:Aq}{r:Ae}(h7:(Ar g r.op).kind=7)(h:(Dk r.stamp).2=true):Lu g r=(Ar g r.op).outs.map (Rn r (Dk r.stamp).1 (Cj (Ar g r.op) r.key r.val).1 (Cj (Ar g r.op) r.key r.val).2.1):=by
 unfold Lu
 rw [if_neg (fun p=>by rw [p.2] at h;cases h),if_pos h7]
 rfl
theorem A0x {g:Aq}{r:Ae}(h7:(Ar g r.op).kind≠7):Lu g r=(Ar g r.op).outs.map (Rn r r.stamp (Cj (Ar g r.op) r.key r.val).1 (Cj (Ar g r.op) r.key r.val).2.1):=by
 unfold Lu
 rw [if_neg (fun p=>h7 p.1),if_neg h7]
 rfl
theorem Y6 {α β:Type} [Inhabited α] (f:α→β){l:List α}{k:Nat}(hk:k<l.length):(l.take (k+1)).map f=(l.take k).map f++[f (l.getD k default)]:=by
 rw [List.take_succ_eq_append_getElem hk,List.map_append]
 simp [List.getD,hk]
theorem A78 {g:Aq}{op:Int}(hg:g.w≤16777216)(hk:op.toNat<g.nodes.length):(Ar g op).w≤16777216∧(Ar g op).outs.length≤16777216:=by
 have:=H0 Av.w g.nodes op.toNat hk
 simp only [Aq.w,wS] at hg
 simp only [Ar]
 have e:(g.nodes.getD op.toNat default).w=(g.nodes.getD op.toNat default).outs.length:=rfl
 omega
abbrev emL (g:Aq) (r:Ae) (s:Ea) (k:Nat):List Ae:=((Ar g r.op).outs.take k).map (Rn r s (Cj (Ar g r.op) r.key r.val).1 (Cj (Ar g r.op) r.key r.val).2.1)
theorem Us {g:Aq}{r:Ae}{s:Ea}{k:Nat}(h:k<(Ar g r.op).outs.length):emL g r s (k+1)=emL g r s k++[Rn r s (Cj (Ar g r.op) r.key r.val).1 (Cj (Ar g r.op) r.key r.val).2.1 ((Ar g r.op).outs.getD k default)]:=Y6 _ h
theorem A0w {g:Aq}{r:Ae}{s:Ea}{k:Nat}:(emL g r s k).length≤k:=by
 simp only [emL,List.length_map,List.length_take]
 omega
theorem A0v {g:Aq}{r:Ae}{s:Ea}{k:Nat}(h:(Ar g r.op).outs.length≤k):emL g r s k=(Ar g r.op).outs.map (Rn r s (Cj (Ar g r.op) r.key r.val).1 (Cj (Ar g r.op) r.key r.val).2.1):=by
 rw [emL,List.take_of_length_le h]
theorem Qn {g:Aq}{r:Ae}(h:¬ Lo g r):capped g r=false:=decide_eq_false fun p=>h p.1
theorem A85 {g:Aq}{r:Ae}(h:Lo g r):capped g r=(((Ar g r.op).kind==7)&&(decide (((Ar g r.op).outs.length:Int)>0)&&!(Dk r.stamp).2)):=by
 unfold capped
 rw [Bool.eq_iff_iff]
 simp only [decide_eq_true_eq,Bool.and_eq_true,beq_iff_eq,Bool.not_eq_true',h,true_and]
 constructor
 ·intro ⟨a,b,c⟩;exact ⟨a,by omega,c⟩
 intro ⟨a,b,c⟩;exact ⟨a,by omega,c⟩
end Go.Proofs.YtdendlkeiaccpaaGreatDoor
