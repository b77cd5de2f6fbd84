/- Part 29 of the proof that each of the laws FnTight returns true for every input. No conditions. -/
import Derived.Test.YtonodkjaoalfjaaP5
import Derived.Test.YtonodkjaoalfjaaP11
import Derived.Test.YtonodkjaoalfjaaP24
import Derived.Test.YtonodkjaoalfjaaP8
import Derived.Test.YtonodkjaoalfjaaP28

set_option linter.unusedSimpArgs false
set_option linter.unusedVariables false
set_option maxRecDepth 100000
namespace Go.Proofs.Ytonodkjaoalfjaa
open Go.Sx
theorem Fu {α:Type} [Inhabited α] {l:List α}{k:Nat}(hk:k<l.length):l.take (k+1)=l.take k++[l.getD k default]:=by
 rw [List.take_succ_eq_append_getElem hk]
 simp [List.getD,hk]
theorem Qi {l:List Ax}{k:Nat}(hk:k<l.length)(op e key:Int):Ho (l.take (k+1)) op e key=Tv op e key (Ho (l.take k) op e key) (l.getD k default):=by
 unfold Ho
 rw [Fu hk,List.foldl_append]
 rfl
set_option maxHeartbeats 1000000 in
theorem P6 (l:List Ax)(op e key:Int)(hl:l.length≤16000000):Bp Try.prog 92 [.one (Aw l),.one (vi op),.one (vi e),.one (vi key)] [.one (vi (Ho l op e key).1),.one (vb (Ho l op e key).2)]:=by
 refine Bm A0 false Try.func92 rfl Cb fun W=>?_
 conv=>whnf
 refine Cc A0 false [] (fun k:Nat=>[(12,.c (vi k)),(10,.c (vi (Ho (l.take k) op e key).1)),(11,.c (vb (Ho (l.take k) op e key).2))]) (fun k=>[]) (fun k=>[])
  (fun k=>k≤l.length) (fun k=>l.length-k) 0 (Nat.zero_le _) ⟨by first|rfl|simp [Dc,ren2,ren1,ren0],by first|rfl|simp [Dc,ren2,ren1,ren0],by first|rfl|simp [Dc,ren2,ren1,ren0],trivial⟩ trivial trivial Dg A6 (fun k hk=>?_)
 conv=>whnf
 refine G2 (fun h0=>?_) fun h0=>?_<;>conv=>whnf
 ·have h0:k<l.length:=by omega
  (repeat refine Ak ?_)
  repeat' (first|(refine L9 ?_;conv=>whnf)|(refine La ?_;conv=>whnf)|(refine ⟨fun h=>?_,fun h=>?_⟩<;>conv=>whnf)|(refine He ?_;conv=>whnf)|fail)
  all_goals
   refine B8 [] (k+1) Ag Ag ⟨rfl,congrArg (fun n=>AV.c (vi n)) (by rw [Qi h0];simp_all [Tv]<;>rw [if_neg Ag]<;>assumption),congrArg (fun n=>AV.c (vb n)) (by rw [Qi h0];simp_all [Tv]<;>rw [if_neg Ag]<;>assumption),trivial⟩ trivial trivial A6 Dg A6
 ·refine B1 A0 rfl rfl ⟨?_,?_,trivial⟩
  ·rw [show l.take k=l from List.take_of_length_le Ag];rfl
  ·rw [show l.take k=l from List.take_of_length_le Ag];rfl
theorem Yz {l:List Ax}{x:Ax}:Cz 6 l x=(Ff l x,!Io l x):=by
 unfold Cz
 rw [if_neg Cb,if_pos rfl]
 cases h:Io l x with
 |true=>rw [if_pos rfl,Ff,if_pos h];rfl
 |false=>rw [if_neg Cb];rfl
theorem T2 {k:Int}{l:List Ax}{x:Ax}(h5:k≠5)(h8:k≠8)(h6:k≠6):Cz k l x=(l,true):=by
 unfold Cz
 rw [if_neg Ag,if_neg h6]
theorem Ju {a b:Ax}(h:b.op≠a.op):(!B6 a b)=true:=by simp only [B6,Bool.not_eq_true',decide_eq_false_iff_not];omega
theorem Jv {a b:Ax}(h:b.epoch≠a.epoch):(!B6 a b)=true:=by simp only [B6,Bool.not_eq_true',decide_eq_false_iff_not];omega
theorem Jw {a b:Ax}(h:b.key≠a.key):(!B6 a b)=true:=by simp only [B6,Bool.not_eq_true',decide_eq_false_iff_not];omega
theorem Na {a b:Ax}(h1:b.op=a.op)(h2:b.epoch=a.epoch)(h3:b.key=a.key):(!B6 a b)=false:=by simp only [B6,Bool.not_eq_false',decide_eq_true_eq];omega
set_option maxHeartbeats 4000000 in
theorem Ri (kind:Int)(l:List Ax)(x:Ax)(hl:l.length≤16000000):Bp Try.prog 85 [.one (vi kind),.one (Aw l),.agg x.c] [.one (Aw (Cz kind l x).1),.one (vb (Cz kind l x).2)]:=by
 refine Bm A0 false Try.func85 rfl Cb fun W=>?_
 conv=>whnf
 refine B4 A0 rfl rfl rfl rfl rfl rfl rfl rfl rfl rfl rfl (Aw l) (Ah) (fun _=>Dr l) Ag (Af ?_)
 refine ⟨fun h6=>have h6:=eq_of_beq h6;?_,fun h6=>have h6:=beq_eq_false_iff_ne.1 h6;?_⟩<;>conv=>whnf
 ·refine B7 (P5 l x Ag) rfl (Af ?_)
  refine ⟨fun hc=>?_,fun hc=>?_⟩<;>conv=>whnf
  ·rw [h6,Yz,Ff,if_pos hc,hc]
   refine B1 A0 rfl rfl ?_
   exact C1
  ·refine Dk (Hh l x Ag) rfl (Af ?_)
   rw [h6,Yz,hc]
   refine B1 A0 rfl rfl ?_
   exact C1
 ·refine ⟨fun h5=>have h5:=eq_of_beq h5;?_,fun h5=>have h5:=beq_eq_false_iff_ne.1 h5;?_⟩<;>conv=>whnf
  ·repeat refine Bg ?_
   refine B7 (P6 l x.op x.epoch x.key Ag) rfl (Af ?_)
   refine ⟨fun h1=>?_,fun h1=>?_⟩<;>conv=>whnf
   ·repeat refine Bg ?_
    refine ⟨fun h2=>?_,fun h2=>?_⟩<;>conv=>whnf
    ·repeat refine Bg ?_
     rw [Cz,if_pos Ag,Iu,if_pos ⟨h1,of_decide_eq_true h2⟩]
     refine B1 A0 rfl rfl ?_
     exact C1
    ·repeat refine Bg ?_
     refine Du 3 (Aw []) rfl Da ?_
     refine Cc A0 false [48] (fun k:Nat=>[(12,.c (vi k))]) (fun k=>[⟨0,[.c (vi x.op),.c (vi x.epoch),.c (vi x.key),.c (vi x.val)]⟩]) (fun k=>[⟨3,Aw ((l.take k).filter (fun y=>!B6 x y))⟩])
      (fun k=>k≤l.length) (fun k=>l.length-k) 0 (Nat.zero_le _) ⟨by first|rfl|simp [Dc,ren2,ren1,ren0],trivial⟩ D8 ⟨by first|rfl|exact (congrArg (fun l=>Dz _ _ l) (List.append_nil _)).symm|(show (_:A7)=_;simp)|simp,trivial⟩ Dg A6 (fun k hk=>?_)
     conv=>whnf
     refine G2 (fun h=>?_) fun h=>?_<;>conv=>whnf
     ·have h:k<l.length:=by omega
      have hs:=Ev (fun y=>!B6 x y) l k h
      have hb:=Dh (fun y=>!B6 x y) l k
      first|(refine At 16 rfl [0,1,2,3,4,5,6,7,8,9,10,11,12,13,14,15,16,17,18,19,20,21,22,23,24,25,26,27] A6 (Af ?_))
      (repeat refine Ak ?_)
      refine ⟨fun n1=>have n1:=bne_iff_ne.1 n1;?_,fun n1=>have n1:=bne_eq_false_iff_eq.1 n1;?_⟩<;>conv=>whnf
      ·rw [Int.toNat_natCast] at n1
       repeat refine Bg ?_
       (repeat refine Ak ?_)
       refine B4 A0 rfl rfl rfl rfl rfl rfl rfl rfl rfl rfl rfl (Aw ((l.take k).filter (fun y=>!B6 x y)++[l.getD k default])) (B5 rfl) Rt Ag (Af ?_)
       (repeat refine Ak ?_)
       refine B8 [(3,5)] (k+1) Ag Ag ⟨rfl,trivial⟩ ⟨congrArg Aw (by rw [hs,if_pos (Ju n1)]),trivial⟩ D8 A6 Dg A6
      ·rw [Int.toNat_natCast] at n1
       repeat refine Bg ?_
       (repeat refine Ak ?_)
       refine ⟨fun n2=>have n2:=bne_iff_ne.1 n2;?_,fun n2=>have n2:=bne_eq_false_iff_eq.1 n2;?_⟩<;>conv=>whnf
       ·rw [Int.toNat_natCast] at n2
        repeat refine Bg ?_
        (repeat refine Ak ?_)
        refine B4 A0 rfl rfl rfl rfl rfl rfl rfl rfl rfl rfl rfl (Aw ((l.take k).filter (fun y=>!B6 x y)++[l.getD k default])) (B5 rfl) Rt Ag (Af ?_)
        (repeat refine Ak ?_)
        refine B8 [(3,5)] (k+1) Ag Ag ⟨rfl,trivial⟩ ⟨congrArg Aw (by rw [hs,if_pos (Jv n2)]),trivial⟩ D8 A6 Dg A6
       ·rw [Int.toNat_natCast] at n2
        repeat refine Bg ?_
        (repeat refine Ak ?_)
        refine ⟨fun n3=>have n3:=bne_iff_ne.1 n3;?_,fun n3=>have n3:=bne_eq_false_iff_eq.1 n3;?_⟩<;>conv=>whnf
        ·rw [Int.toNat_natCast] at n3
         repeat refine Bg ?_
         (repeat refine Ak ?_)
         refine B4 A0 rfl rfl rfl rfl rfl rfl rfl rfl rfl rfl rfl (Aw ((l.take k).filter (fun y=>!B6 x y)++[l.getD k default])) (B5 rfl) Rt Ag (Af ?_)
         (repeat refine Ak ?_)
         refine B8 [(3,5)] (k+1) Ag Ag ⟨rfl,trivial⟩ ⟨congrArg Aw (by rw [hs,if_pos (Jw n3)]),trivial⟩ D8 A6 Dg A6
        ·rw [Int.toNat_natCast] at n3
         repeat refine Bg ?_
         (repeat refine Ak ?_)
         refine B8 [] (k+1) Ag Ag ⟨rfl,trivial⟩ ⟨congrArg Aw (by rw [hs,if_neg (by rw [Na n1 n2 n3];decide),List.append_nil]),trivial⟩ D8 A6 Dg A6
     ·repeat refine Bg ?_
      obtain rfl:k=l.length:=by omega
      refine Dk (Hh ((l.take l.length).filter fun y=>!B6 x y) x (by have:=List.length_filter_le (fun y=>!B6 x y) (l.take l.length);rw [List.take_length] at *;omega)) rfl (Af ?_)
      rw [Cz,if_pos Ag,Iu,if_neg (fun p=>absurd p.2 (of_decide_eq_false h2))]
      refine B1 A0 rfl rfl ?_
      rw [List.take_length]
      exact C1
   ·repeat refine Bg ?_
    refine Du 3 (Aw []) rfl Da ?_
    refine Cc A0 false [48] (fun k:Nat=>[(12,.c (vi k))]) (fun k=>[⟨0,[.c (vi x.op),.c (vi x.epoch),.c (vi x.key),.c (vi x.val)]⟩]) (fun k=>[⟨3,Aw ((l.take k).filter (fun y=>!B6 x y))⟩])
     (fun k=>k≤l.length) (fun k=>l.length-k) 0 (Nat.zero_le _) ⟨by first|rfl|simp [Dc,ren2,ren1,ren0],trivial⟩ D8 ⟨by first|rfl|exact (congrArg (fun l=>Dz _ _ l) (List.append_nil _)).symm|(show (_:A7)=_;simp)|simp,trivial⟩ Dg A6 (fun k hk=>?_)
    conv=>whnf
    refine G2 (fun h=>?_) fun h=>?_<;>conv=>whnf
    ·have h:k<l.length:=by omega
     have hs:=Ev (fun y=>!B6 x y) l k h
     have hb:=Dh (fun y=>!B6 x y) l k
     first|(refine At 16 rfl [0,1,2,3,4,5,6,7,8,9,10,11,12,13,14,15,16,17,18,19,20,21,22,23,24,25,26,27] A6 (Af ?_))
     (repeat refine Ak ?_)
     refine ⟨fun n1=>have n1:=bne_iff_ne.1 n1;?_,fun n1=>have n1:=bne_eq_false_iff_eq.1 n1;?_⟩<;>conv=>whnf
     ·rw [Int.toNat_natCast] at n1
      repeat refine Bg ?_
      (repeat refine Ak ?_)
      refine B4 A0 rfl rfl rfl rfl rfl rfl rfl rfl rfl rfl rfl (Aw ((l.take k).filter (fun y=>!B6 x y)++[l.getD k default])) (B5 rfl) Rt Ag (Af ?_)
      (repeat refine Ak ?_)
      refine B8 [(3,5)] (k+1) Ag Ag ⟨rfl,trivial⟩ ⟨congrArg Aw (by rw [hs,if_pos (Ju n1)]),trivial⟩ D8 A6 Dg A6
     ·rw [Int.toNat_natCast] at n1
      repeat refine Bg ?_
      (repeat refine Ak ?_)
      refine ⟨fun n2=>have n2:=bne_iff_ne.1 n2;?_,fun n2=>have n2:=bne_eq_false_iff_eq.1 n2;?_⟩<;>conv=>whnf
      ·rw [Int.toNat_natCast] at n2
       repeat refine Bg ?_
       (repeat refine Ak ?_)
       refine B4 A0 rfl rfl rfl rfl rfl rfl rfl rfl rfl rfl rfl (Aw ((l.take k).filter (fun y=>!B6 x y)++[l.getD k default])) (B5 rfl) Rt Ag (Af ?_)
       (repeat refine Ak ?_)
       refine B8 [(3,5)] (k+1) Ag Ag ⟨rfl,trivial⟩ ⟨congrArg Aw (by rw [hs,if_pos (Jv n2)]),trivial⟩ D8 A6 Dg A6
      ·rw [Int.toNat_natCast] at n2
       repeat refine Bg ?_
       (repeat refine Ak ?_)
       refine ⟨fun n3=>have n3:=bne_iff_ne.1 n3;?_,fun n3=>have n3:=bne_eq_false_iff_eq.1 n3;?_⟩<;>conv=>whnf
       ·rw [Int.toNat_natCast] at n3
        repeat refine Bg ?_
        (repeat refine Ak ?_)
        refine B4 A0 rfl rfl rfl rfl rfl rfl rfl rfl rfl rfl rfl (Aw ((l.take k).filter (fun y=>!B6 x y)++[l.getD k default])) (B5 rfl) Rt Ag (Af ?_)
        (repeat refine Ak ?_)
        refine B8 [(3,5)] (k+1) Ag Ag ⟨rfl,trivial⟩ ⟨congrArg Aw (by rw [hs,if_pos (Jw n3)]),trivial⟩ D8 A6 Dg A6
       ·rw [Int.toNat_natCast] at n3
        repeat refine Bg ?_
        (repeat refine Ak ?_)
        refine B8 [] (k+1) Ag Ag ⟨rfl,trivial⟩ ⟨congrArg Aw (by rw [hs,if_neg (by rw [Na n1 n2 n3];decide),List.append_nil]),trivial⟩ D8 A6 Dg A6
    ·repeat refine Bg ?_
     obtain rfl:k=l.length:=by omega
     refine Dk (Hh ((l.take l.length).filter fun y=>!B6 x y) x (by have:=List.length_filter_le (fun y=>!B6 x y) (l.take l.length);rw [List.take_length] at *;omega)) rfl (Af ?_)
     rw [Cz,if_pos Ag,Iu,if_neg (fun p=>by rw [p.1] at h1;cases h1)]
     refine B1 A0 rfl rfl ?_
     rw [List.take_length]
     exact C1
  ·refine ⟨fun h8=>have h8:=eq_of_beq h8;?_,fun h8=>have h8:=beq_eq_false_iff_ne.1 h8;?_⟩<;>conv=>whnf
   ·repeat refine Bg ?_
    refine B7 (P6 l x.op x.epoch x.key Ag) rfl (Af ?_)
    refine ⟨fun h1=>?_,fun h1=>?_⟩<;>conv=>whnf
    ·repeat refine Bg ?_
     refine ⟨fun h2=>?_,fun h2=>?_⟩<;>conv=>whnf
     ·repeat refine Bg ?_
      rw [Cz,if_pos Ag,Iu,if_pos ⟨h1,of_decide_eq_true h2⟩]
      refine B1 A0 rfl rfl ?_
      exact C1
     ·repeat refine Bg ?_
      refine Du 3 (Aw []) rfl Da ?_
      refine Cc A0 false [48] (fun k:Nat=>[(12,.c (vi k))]) (fun k=>[⟨0,[.c (vi x.op),.c (vi x.epoch),.c (vi x.key),.c (vi x.val)]⟩]) (fun k=>[⟨3,Aw ((l.take k).filter (fun y=>!B6 x y))⟩])
       (fun k=>k≤l.length) (fun k=>l.length-k) 0 (Nat.zero_le _) ⟨by first|rfl|simp [Dc,ren2,ren1,ren0],trivial⟩ D8 ⟨by first|rfl|exact (congrArg (fun l=>Dz _ _ l) (List.append_nil _)).symm|(show (_:A7)=_;simp)|simp,trivial⟩ Dg A6 (fun k hk=>?_)
      conv=>whnf
      refine G2 (fun h=>?_) fun h=>?_<;>conv=>whnf
      ·have h:k<l.length:=by omega
       have hs:=Ev (fun y=>!B6 x y) l k h
       have hb:=Dh (fun y=>!B6 x y) l k
       first|(refine At 16 rfl [0,1,2,3,4,5,6,7,8,9,10,11,12,13,14,15,16,17,18,19,20,21,22,23,24,25,26,27] A6 (Af ?_))
       (repeat refine Ak ?_)
       refine ⟨fun n1=>have n1:=bne_iff_ne.1 n1;?_,fun n1=>have n1:=bne_eq_false_iff_eq.1 n1;?_⟩<;>conv=>whnf
       ·rw [Int.toNat_natCast] at n1
        repeat refine Bg ?_
        (repeat refine Ak ?_)
        refine B4 A0 rfl rfl rfl rfl rfl rfl rfl rfl rfl rfl rfl (Aw ((l.take k).filter (fun y=>!B6 x y)++[l.getD k default])) (B5 rfl) Rt Ag (Af ?_)
        (repeat refine Ak ?_)
        refine B8 [(3,5)] (k+1) Ag Ag ⟨rfl,trivial⟩ ⟨congrArg Aw (by rw [hs,if_pos (Ju n1)]),trivial⟩ D8 A6 Dg A6
       ·rw [Int.toNat_natCast] at n1
        repeat refine Bg ?_
        (repeat refine Ak ?_)
        refine ⟨fun n2=>have n2:=bne_iff_ne.1 n2;?_,fun n2=>have n2:=bne_eq_false_iff_eq.1 n2;?_⟩<;>conv=>whnf
        ·rw [Int.toNat_natCast] at n2
         repeat refine Bg ?_
         (repeat refine Ak ?_)
         refine B4 A0 rfl rfl rfl rfl rfl rfl rfl rfl rfl rfl rfl (Aw ((l.take k).filter (fun y=>!B6 x y)++[l.getD k default])) (B5 rfl) Rt Ag (Af ?_)
         (repeat refine Ak ?_)
         refine B8 [(3,5)] (k+1) Ag Ag ⟨rfl,trivial⟩ ⟨congrArg Aw (by rw [hs,if_pos (Jv n2)]),trivial⟩ D8 A6 Dg A6
        ·rw [Int.toNat_natCast] at n2
         repeat refine Bg ?_
         (repeat refine Ak ?_)
         refine ⟨fun n3=>have n3:=bne_iff_ne.1 n3;?_,fun n3=>have n3:=bne_eq_false_iff_eq.1 n3;?_⟩<;>conv=>whnf
         ·rw [Int.toNat_natCast] at n3
          repeat refine Bg ?_
          (repeat refine Ak ?_)
          refine B4 A0 rfl rfl rfl rfl rfl rfl rfl rfl rfl rfl rfl (Aw ((l.take k).filter (fun y=>!B6 x y)++[l.getD k default])) (B5 rfl) Rt Ag (Af ?_)
          (repeat refine Ak ?_)
          refine B8 [(3,5)] (k+1) Ag Ag ⟨rfl,trivial⟩ ⟨congrArg Aw (by rw [hs,if_pos (Jw n3)]),trivial⟩ D8 A6 Dg A6
         ·rw [Int.toNat_natCast] at n3
          repeat refine Bg ?_
          (repeat refine Ak ?_)
          refine B8 [] (k+1) Ag Ag ⟨rfl,trivial⟩ ⟨congrArg Aw (by rw [hs,if_neg (by rw [Na n1 n2 n3];decide),List.append_nil]),trivial⟩ D8 A6 Dg A6
      ·repeat refine Bg ?_
       obtain rfl:k=l.length:=by omega
       refine Dk (Hh ((l.take l.length).filter fun y=>!B6 x y) x (by have:=List.length_filter_le (fun y=>!B6 x y) (l.take l.length);rw [List.take_length] at *;omega)) rfl (Af ?_)
       rw [Cz,if_pos Ag,Iu,if_neg (fun p=>absurd p.2 (of_decide_eq_false h2))]
       refine B1 A0 rfl rfl ?_
       rw [List.take_length]
       exact C1
    ·repeat refine Bg ?_
     refine Du 3 (Aw []) rfl Da ?_
     refine Cc A0 false [48] (fun k:Nat=>[(12,.c (vi k))]) (fun k=>[⟨0,[.c (vi x.op),.c (vi x.epoch),.c (vi x.key),.c (vi x.val)]⟩]) (fun k=>[⟨3,Aw ((l.take k).filter (fun y=>!B6 x y))⟩])
      (fun k=>k≤l.length) (fun k=>l.length-k) 0 (Nat.zero_le _) ⟨by first|rfl|simp [Dc,ren2,ren1,ren0],trivial⟩ D8 ⟨by first|rfl|exact (congrArg (fun l=>Dz _ _ l) (List.append_nil _)).symm|(show (_:A7)=_;simp)|simp,trivial⟩ Dg A6 (fun k hk=>?_)
     conv=>whnf
     refine G2 (fun h=>?_) fun h=>?_<;>conv=>whnf
     ·have h:k<l.length:=by omega
      have hs:=Ev (fun y=>!B6 x y) l k h
      have hb:=Dh (fun y=>!B6 x y) l k
      first|(refine At 16 rfl [0,1,2,3,4,5,6,7,8,9,10,11,12,13,14,15,16,17,18,19,20,21,22,23,24,25,26,27] A6 (Af ?_))
      (repeat refine Ak ?_)
      refine ⟨fun n1=>have n1:=bne_iff_ne.1 n1;?_,fun n1=>have n1:=bne_eq_false_iff_eq.1 n1;?_⟩<;>conv=>whnf
      ·rw [Int.toNat_natCast] at n1
       repeat refine Bg ?_
       (repeat refine Ak ?_)
       refine B4 A0 rfl rfl rfl rfl rfl rfl rfl rfl rfl rfl rfl (Aw ((l.take k).filter (fun y=>!B6 x y)++[l.getD k default])) (B5 rfl) Rt Ag (Af ?_)
       (repeat refine Ak ?_)
       refine B8 [(3,5)] (k+1) Ag Ag ⟨rfl,trivial⟩ ⟨congrArg Aw (by rw [hs,if_pos (Ju n1)]),trivial⟩ D8 A6 Dg A6
      ·rw [Int.toNat_natCast] at n1
       repeat refine Bg ?_
       (repeat refine Ak ?_)
       refine ⟨fun n2=>have n2:=bne_iff_ne.1 n2;?_,fun n2=>have n2:=bne_eq_false_iff_eq.1 n2;?_⟩<;>conv=>whnf
       ·rw [Int.toNat_natCast] at n2
        repeat refine Bg ?_
        (repeat refine Ak ?_)
        refine B4 A0 rfl rfl rfl rfl rfl rfl rfl rfl rfl rfl rfl (Aw ((l.take k).filter (fun y=>!B6 x y)++[l.getD k default])) (B5 rfl) Rt Ag (Af ?_)
        (repeat refine Ak ?_)
        refine B8 [(3,5)] (k+1) Ag Ag ⟨rfl,trivial⟩ ⟨congrArg Aw (by rw [hs,if_pos (Jv n2)]),trivial⟩ D8 A6 Dg A6
       ·rw [Int.toNat_natCast] at n2
        repeat refine Bg ?_
        (repeat refine Ak ?_)
        refine ⟨fun n3=>have n3:=bne_iff_ne.1 n3;?_,fun n3=>have n3:=bne_eq_false_iff_eq.1 n3;?_⟩<;>conv=>whnf
        ·rw [Int.toNat_natCast] at n3
         repeat refine Bg ?_
         (repeat refine Ak ?_)
         refine B4 A0 rfl rfl rfl rfl rfl rfl rfl rfl rfl rfl rfl (Aw ((l.take k).filter (fun y=>!B6 x y)++[l.getD k default])) (B5 rfl) Rt Ag (Af ?_)
         (repeat refine Ak ?_)
         refine B8 [(3,5)] (k+1) Ag Ag ⟨rfl,trivial⟩ ⟨congrArg Aw (by rw [hs,if_pos (Jw n3)]),trivial⟩ D8 A6 Dg A6
        ·rw [Int.toNat_natCast] at n3
         repeat refine Bg ?_
         (repeat refine Ak ?_)
         refine B8 [] (k+1) Ag Ag ⟨rfl,trivial⟩ ⟨congrArg Aw (by rw [hs,if_neg (by rw [Na n1 n2 n3];decide),List.append_nil]),trivial⟩ D8 A6 Dg A6
     ·repeat refine Bg ?_
      obtain rfl:k=l.length:=by omega
      refine Dk (Hh ((l.take l.length).filter fun y=>!B6 x y) x (by have:=List.length_filter_le (fun y=>!B6 x y) (l.take l.length);rw [List.take_length] at *;omega)) rfl (Af ?_)
      rw [Cz,if_pos Ag,Iu,if_neg (fun p=>by rw [p.1] at h1;cases h1)]
      refine B1 A0 rfl rfl ?_
      rw [List.take_length]
      exact C1
   ·repeat refine Bg ?_
    rw [T2 h5 h8 h6]
    refine B1 A0 rfl rfl ?_
    exact C1
theorem Uf {g:An}{cs:List Ax}{r:Ac}(h:¬ Ig g r):Es g cs r=(cs,[],false):=if_neg h
theorem A07 {g:An}{cs:List Ax}{r:Ac}(h:Ig g r)(h1:(Bh (Ae g r.op) r.key r.val).2.2=false)(h2:(Ae g r.op).kind≠8):Es g cs r=(cs,[],true):=by
 unfold Es
 rw [if_pos h,if_pos ⟨h1,h2⟩]
theorem Rk {g:An}{cs:List Ax}{r:Ac}(h:Ig g r)(h1:¬ ((Bh (Ae g r.op) r.key r.val).2.2=false∧(Ae g r.op).kind≠8))(h2:(Cz (Ae g r.op).kind cs (F9 r)).2=false):Es g cs r=((Cz (Ae g r.op).kind cs (F9 r)).1,[],true):=by
 unfold Es
 rw [if_pos h,if_neg h1,if_pos h2]
theorem Nd {g:An}{cs:List Ax}{r:Ac}(h:Ig g r)(h1:¬ ((Bh (Ae g r.op) r.key r.val).2.2=false∧(Ae g r.op).kind≠8))(h2:(Cz (Ae g r.op).kind cs (F9 r)).2=true):Es g cs r=((Cz (Ae g r.op).kind cs (F9 r)).1,K4 g r,true):=by
 unfold Es
 rw [if_pos h,if_neg h1,if_neg (by rw [h2];decide)]
def Mr (r:Ac) (s:E9) (k v:Int) (o:Int):Ac:=⟨o,s,k,v⟩
theorem A13 {g:An}{r:Ac}(h7:(Ae g r.op).kind=7)(h:(Cd r.stamp).2=false):K4 g r=[]:=by
 unfold K4
 rw [if_pos ⟨h7,h⟩]
theorem A4s {g:An}{r:Ac}(h7:(Ae g r.op).kind=7)(h:(Cd r.stamp).2=true):K4 g r=(Ae g r.op).outs.map (Mr r (Cd r.stamp).1 (Bh (Ae g r.op) r.key r.val).1 (Bh (Ae g r.op) r.key r.val).2.1):=by
 unfold K4
 rw [if_neg (fun p=>by rw [p.2] at h;cases h),if_pos h7]
 rfl
theorem To {g:An}{r:Ac}(h7:(Ae g r.op).kind≠7):K4 g r=(Ae g r.op).outs.map (Mr r r.stamp (Bh (Ae g r.op) r.key r.val).1 (Bh (Ae g r.op) r.key r.val).2.1):=by
 unfold K4
 rw [if_neg (fun p=>h7 p.1),if_neg h7]
 rfl
theorem Ry {α β:Type} [Inhabited α] (f:α→β){l:List α}{k:Nat}(hk:k<l.length):(l.take (k+1)).map f=(l.take k).map f++[f (l.getD k default)]:=by
 rw [List.take_succ_eq_append_getElem hk,List.map_append]
 simp [List.getD,hk]
theorem Yq {g:An}{op:Int}(hg:g.w≤16777216)(hk:op.toNat<g.nodes.length):(Ae g op).w≤16777216∧(Ae g op).outs.length≤16777216:=by
 have:=Fm C3.w g.nodes op.toNat hk
 simp only [An.w,wS] at hg
 simp only [Ae]
 have e:(g.nodes.getD op.toNat default).w=(g.nodes.getD op.toNat default).outs.length:=rfl
 omega
abbrev Ya (g:An) (r:Ac) (s:E9) (k:Nat):List Ac:=((Ae g r.op).outs.take k).map (Mr r s (Bh (Ae g r.op) r.key r.val).1 (Bh (Ae g r.op) r.key r.val).2.1)
theorem Pd {g:An}{r:Ac}{s:E9}{k:Nat}(h:k<(Ae g r.op).outs.length):Ya g r s (k+1)=Ya g r s k++[Mr r s (Bh (Ae g r.op) r.key r.val).1 (Bh (Ae g r.op) r.key r.val).2.1 ((Ae g r.op).outs.getD k default)]:=Ry _ h
theorem Tn {g:An}{r:Ac}{s:E9}{k:Nat}:(Ya g r s k).length≤k:=by
 simp only [Ya,List.length_map,List.length_take]
 omega
theorem Tm {g:An}{r:Ac}{s:E9}{k:Nat}(h:(Ae g r.op).outs.length≤k):Ya g r s k=(Ae g r.op).outs.map (Mr r s (Bh (Ae g r.op) r.key r.val).1 (Bh (Ae g r.op) r.key r.val).2.1):=by
 rw [Ya,List.take_of_length_le h]
theorem Lx {g:An}{r:Ac}(h:¬ Ig g r):capped g r=false:=decide_eq_false fun p=>h p.1
theorem Zl {g:An}{r:Ac}(h:Ig g r):capped g r=(((Ae g r.op).kind==7)&&(decide (((Ae g r.op).outs.length:Int)>0)&&!(Cd r.stamp).2)):=by
 unfold capped
 rw [Bool.eq_iff_iff]
 simp only [decide_eq_true_eq,Bool.and_eq_true,beq_iff_eq,Bool.not_eq_true',h,true_and]
 constructor
 ·intro ⟨a,b,c⟩;exact ⟨a,by omega,c⟩
 ·intro ⟨a,b,c⟩;exact ⟨a,by omega,c⟩
theorem Pj (x:Ad):x.queue.length≤x.w∧x.staged.length≤x.w∧x.inputs.length≤x.w∧x.cells.length≤x.w∧x.sums.length≤x.w∧x.black.length≤x.w∧x.caps.length≤x.w:=by simp only [Ad.w];omega
theorem Ub {w:Ad}{e:Int}(h:0≤e∧e<w.sums.length):G3 w e=Em w e 1:=if_pos h
theorem Vn {w:Ad}{r:Ac}(h1:w.sums.length=4)(h2:w.black.length=4)(he:0≤r.stamp.epoch∧r.stamp.epoch≤3):F1 w r=I1 (Em (kept w r) r.stamp.epoch (-1)) r.stamp.epoch:=by
 unfold F1
 rw [if_pos ⟨by omega,by omega,by omega⟩]
theorem A2k {g:An}{w:Ad}(h:¬ Kc g w):Et g w=(w,false):=if_neg h
theorem A0f {g:An}{w:Ad}(h:Kc g w):Et g w=(Hy w,true):=if_pos h
theorem A5z {g:An}{w:Ad}(h:¬ Of g w):H4 g w=(w,false):=if_neg h
theorem A4c {g:An}{w:Ad}(h:Of g w):H4 g w=(J3 g w,true):=if_pos h
end Go.Proofs.Ytonodkjaoalfjaa
