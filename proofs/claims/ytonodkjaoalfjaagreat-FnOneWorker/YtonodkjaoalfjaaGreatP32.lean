/- Part 32 of the proof that each of the laws FnOneWorker returns true for every input. No conditions. -/
import Derived.Test.YtonodkjaoalfjaaGreatP5
import Derived.Test.YtonodkjaoalfjaaGreatP31

set_option linter.unusedSimpArgs false
set_option linter.unusedVariables false
set_option maxRecDepth 100000
namespace Go.Proofs.YtonodkjaoalfjaaGreat
open Go.Sx
theorem A73 (x y:A7):B0 Tryz.prog 258 [.agg y.c,.ptr x.c] [.one (vb (B2 x y))]:=by
 refine Ay A0 false Tryz.func258 rfl Bu fun W=>?_
 conv=>whnf
 refine Aw (Rx x y) rfl (Al ?_)
 exact Ao A0 rfl rfl ⟨rfl,trivial⟩
set_option maxHeartbeats 1000000 in
theorem W5 (l:List A7)(x:A7)(hl:l.length≤16000000):B0 Tryz.prog 253 [.one (Ai l),.agg x.c] [.one (Ai (Dq l x).1),.one (vb (Dq l x).2)]:=by
 refine Ay A0 false Tryz.func253 rfl Bu fun W=>?_
 conv=>whnf
 refine Aw (A3q l x.op x.epoch x.key Ac) rfl (Al ?_)
 refine ⟨fun h1=>?_,fun h1=>?_⟩<;>conv=>whnf
 ·repeat refine Bi ?_
  refine ⟨fun h2=>?_,fun h2=>?_⟩<;>conv=>whnf
  ·repeat refine Bi ?_
   refine B4 (Er l Ac) rfl (Al ?_)
   rw [Dq,if_pos ⟨h1,of_decide_eq_true h2⟩]
   refine Ao A0 rfl rfl ?_
   exact Ca
  ·repeat refine Bi ?_
   refine B4 (Er l Ac) rfl (Al ?_)
   refine B2k [.own 1] (Oq l _ x.c (fun y=>B2 x y) Ac (A73 x)) (fun _ _=>trivial) (fun _ h=>by cases h) Ca rfl rfl rfl (fun i _=>go A0 false ?_)
   conv=>whnf
   refine B4 (Ou (l.filter fun y=>!B2 x y) x (by have:=List.length_filter_le (fun y=>!B2 x y) l;omega)) rfl (Al ?_)
   rw [Dq,if_neg (fun p=>absurd p.2 (of_decide_eq_false h2))]
   refine Ao A0 rfl rfl ?_
   exact Ca
 ·repeat refine Bi ?_
  refine B4 (Er l Ac) rfl (Al ?_)
  refine B2k [.own 1] (Oq l _ x.c (fun y=>B2 x y) Ac (A73 x)) (fun _ _=>trivial) (fun _ h=>by cases h) Ca rfl rfl rfl (fun i _=>go A0 false ?_)
  conv=>whnf
  refine B4 (Ou (l.filter fun y=>!B2 x y) x (by have:=List.length_filter_le (fun y=>!B2 x y) l;omega)) rfl (Al ?_)
  rw [Dq,if_neg (fun p=>by rw [p.1] at h1;cases h1)]
  refine Ao A0 rfl rfl ?_
  exact Ca
theorem A1x {l:List A7}{x:A7}:Bb 6 l x=(Cy l x,!I2 l x):=by
 unfold Bb
 rw [if_neg Bu,if_pos rfl]
 cases h:I2 l x with
 |true=>rw [if_pos rfl,Cy,if_pos h];rfl
 |false=>rw [if_neg Bu];rfl
theorem Zm {k:Int}{l:List A7}{x:A7}(h5:k≠5)(h8:k≠8)(h6:k≠6):Bb k l x=(l,true):=by
 unfold Bb
 rw [if_neg Ac,if_neg h6]
set_option maxHeartbeats 1000000 in
theorem Wf (kind:Int)(l:List A7)(x:A7)(hl:l.length≤16000000):B0 Tryz.prog 247 [.one (vi kind),.one (Ai l),.agg x.c] [.one (Ai (Bb kind l x).1),.one (vb (Bb kind l x).2)]:=by
 refine Ay A0 false Tryz.func247 rfl Bu fun W=>?_
 conv=>whnf
 refine ⟨fun h5=>have h5:=eq_of_beq h5;?_,fun h5=>have h5:=beq_eq_false_iff_ne.1 h5;?_⟩<;>conv=>whnf
 ·repeat refine Bi ?_
  refine B4 (W5 l x hl) rfl (Al ?_)
  rw [Bb,if_pos (.inl h5)]
  refine Ao A0 rfl rfl ?_
  exact Ca
 ·refine ⟨fun h8=>have h8:=eq_of_beq h8;?_,fun h8=>have h8:=beq_eq_false_iff_ne.1 h8;?_⟩<;>conv=>whnf
  ·repeat refine Bi ?_
   refine B4 (W5 l x hl) rfl (Al ?_)
   rw [Bb,if_pos (.inr h8)]
   refine Ao A0 rfl rfl ?_
   exact Ca
  ·repeat refine Bi ?_
   refine ⟨fun h6=>have h6:=eq_of_beq h6;?_,fun h6=>have h6:=beq_eq_false_iff_ne.1 h6;?_⟩<;>conv=>whnf
   ·first|(refine B9 6 rfl [0,1,3,4,2,5,6,7,8] Aa (Al ?_))
    refine B4 (Ou l x Ac) rfl (Al ?_)
    refine Aw (Tv l x Ac) rfl (Al ?_)
    rw [h6,A1x]
    refine Ao A0 rfl rfl ?_
    exact Ca
   ·refine B4 (Er l Ac) rfl (Al ?_)
    rw [Zm h5 h8 h6]
    refine Ao A0 rfl rfl ?_
    exact Ca
theorem Nw {a b:A7}(h:b.op≠a.op):(!B2 a b)=true:=by simp only [B2,Bool.not_eq_true',decide_eq_false_iff_not];omega
theorem Nx {a b:A7}(h:b.epoch≠a.epoch):(!B2 a b)=true:=by simp only [B2,Bool.not_eq_true',decide_eq_false_iff_not];omega
theorem Ny {a b:A7}(h:b.key≠a.key):(!B2 a b)=true:=by simp only [B2,Bool.not_eq_true',decide_eq_false_iff_not];omega
theorem Sb {a b:A7}(h1:b.op=a.op)(h2:b.epoch=a.epoch)(h3:b.key=a.key):(!B2 a b)=false:=by simp only [B2,Bool.not_eq_false',decide_eq_true_eq];omega
set_option maxHeartbeats 4000000 in
theorem A7h (kind:Int)(l:List A7)(x:A7)(hl:l.length≤16000000):B0 Tryz.prog 145 [.one (vi kind),.one (Ai l),.agg x.c] [.one (Ai (Bb kind l x).1),.one (vb (Bb kind l x).2)]:=by
 refine Ay A0 false Tryz.func145 rfl Bu fun W=>?_
 conv=>whnf
 refine Dp A0 rfl rfl rfl rfl rfl rfl rfl rfl rfl rfl rfl (Ai l) (Eh) (fun _=>Eu l) Ac (Al ?_)
 refine ⟨fun h6=>have h6:=eq_of_beq h6;?_,fun h6=>have h6:=beq_eq_false_iff_ne.1 h6;?_⟩<;>conv=>whnf
 ·refine Aw (U8 l x Ac) rfl (Al ?_)
  refine ⟨fun hc=>?_,fun hc=>?_⟩<;>conv=>whnf
  ·rw [h6,A1x,Cy,if_pos hc,hc]
   refine Ao A0 rfl rfl ?_
   exact Ca
  ·refine B4 (Ip l x Ac) rfl (Al ?_)
   rw [h6,A1x,hc]
   refine Ao A0 rfl rfl ?_
   exact Ca
 ·refine ⟨fun h5=>have h5:=eq_of_beq h5;?_,fun h5=>have h5:=beq_eq_false_iff_ne.1 h5;?_⟩<;>conv=>whnf
  ·repeat refine Bi ?_
   refine Aw (U9 l x.op x.epoch x.key Ac) rfl (Al ?_)
   refine ⟨fun h1=>?_,fun h1=>?_⟩<;>conv=>whnf
   ·repeat refine Bi ?_
    refine ⟨fun h2=>?_,fun h2=>?_⟩<;>conv=>whnf
    ·repeat refine Bi ?_
     rw [Bb,if_pos Ac,Dq,if_pos ⟨h1,of_decide_eq_true h2⟩]
     refine Ao A0 rfl rfl ?_
     exact Ca
    ·repeat refine Bi ?_
     refine G4 3 (Ai []) rfl F8 ?_
     refine Bw A0 false [48] (fun k:Nat=>[(12,.c (vi k))]) (fun k=>[⟨0,[.c (vi x.op),.c (vi x.epoch),.c (vi x.key),.c (vi x.val)]⟩]) (fun k=>[⟨3,Ai ((l.take k).filter (fun y=>!B2 x y))⟩])
      (fun k=>k≤l.length) (fun k=>l.length-k) 0 (Nat.zero_le _) ⟨by first|rfl|simp [Dl,ren2,ren1,ren0],trivial⟩ Dh ⟨by first|rfl|exact (congrArg (fun l=>Du _ _ l) (List.append_nil _)).symm|(show (_:A8)=_;simp)|simp,trivial⟩ D0 Aa (fun k hk=>?_)
     conv=>whnf
     refine G5 (fun h=>?_) fun h=>?_<;>conv=>whnf
     ·have h:k<l.length:=by omega
      have hs:=Ez (fun y=>!B2 x y) l k h
      have hb:=F0 (fun y=>!B2 x y) l k
      first|(refine B9 16 rfl [0,1,2,3,4,5,6,7,8,9,10,11,12,13,14,15,16,17,18,19,20,21,22,23,24,25,26,27] Aa (Al ?_))
      (repeat refine Ar ?_)
      refine ⟨fun n1=>have n1:=bne_iff_ne.1 n1;?_,fun n1=>have n1:=bne_eq_false_iff_eq.1 n1;?_⟩<;>conv=>whnf
      ·rw [Int.toNat_natCast] at n1
       repeat refine Bi ?_
       (repeat refine Ar ?_)
       refine Dp A0 rfl rfl rfl rfl rfl rfl rfl rfl rfl rfl rfl (Ai ((l.take k).filter (fun y=>!B2 x y)++[l.getD k default])) (Bf rfl) Kc Ac (Al ?_)
       (repeat refine Ar ?_)
       refine B5 [(3,5)] (k+1) Ac Ac ⟨rfl,trivial⟩ ⟨congrArg Ai (by rw [hs,if_pos (Nw n1)]),trivial⟩ Dh Aa D0 Aa
      ·rw [Int.toNat_natCast] at n1
       repeat refine Bi ?_
       (repeat refine Ar ?_)
       refine ⟨fun n2=>have n2:=bne_iff_ne.1 n2;?_,fun n2=>have n2:=bne_eq_false_iff_eq.1 n2;?_⟩<;>conv=>whnf
       ·rw [Int.toNat_natCast] at n2
        repeat refine Bi ?_
        (repeat refine Ar ?_)
        refine Dp A0 rfl rfl rfl rfl rfl rfl rfl rfl rfl rfl rfl (Ai ((l.take k).filter (fun y=>!B2 x y)++[l.getD k default])) (Bf rfl) Kc Ac (Al ?_)
        (repeat refine Ar ?_)
        refine B5 [(3,5)] (k+1) Ac Ac ⟨rfl,trivial⟩ ⟨congrArg Ai (by rw [hs,if_pos (Nx n2)]),trivial⟩ Dh Aa D0 Aa
       ·rw [Int.toNat_natCast] at n2
        repeat refine Bi ?_
        (repeat refine Ar ?_)
        refine ⟨fun n3=>have n3:=bne_iff_ne.1 n3;?_,fun n3=>have n3:=bne_eq_false_iff_eq.1 n3;?_⟩<;>conv=>whnf
        ·rw [Int.toNat_natCast] at n3
         repeat refine Bi ?_
         (repeat refine Ar ?_)
         refine Dp A0 rfl rfl rfl rfl rfl rfl rfl rfl rfl rfl rfl (Ai ((l.take k).filter (fun y=>!B2 x y)++[l.getD k default])) (Bf rfl) Kc Ac (Al ?_)
         (repeat refine Ar ?_)
         refine B5 [(3,5)] (k+1) Ac Ac ⟨rfl,trivial⟩ ⟨congrArg Ai (by rw [hs,if_pos (Ny n3)]),trivial⟩ Dh Aa D0 Aa
        ·rw [Int.toNat_natCast] at n3
         repeat refine Bi ?_
         (repeat refine Ar ?_)
         refine B5 [] (k+1) Ac Ac ⟨rfl,trivial⟩ ⟨congrArg Ai (by rw [hs,if_neg (by rw [Sb n1 n2 n3];decide),List.append_nil]),trivial⟩ Dh Aa D0 Aa
     ·repeat refine Bi ?_
      obtain rfl:k=l.length:=by omega
      refine B4 (Ip ((l.take l.length).filter fun y=>!B2 x y) x (by have:=List.length_filter_le (fun y=>!B2 x y) (l.take l.length);rw [List.take_length] at *;omega)) rfl (Al ?_)
      rw [Bb,if_pos Ac,Dq,if_neg (fun p=>absurd p.2 (of_decide_eq_false h2))]
      refine Ao A0 rfl rfl ?_
      rw [List.take_length]
      exact Ca
   ·repeat refine Bi ?_
    refine G4 3 (Ai []) rfl F8 ?_
    refine Bw A0 false [48] (fun k:Nat=>[(12,.c (vi k))]) (fun k=>[⟨0,[.c (vi x.op),.c (vi x.epoch),.c (vi x.key),.c (vi x.val)]⟩]) (fun k=>[⟨3,Ai ((l.take k).filter (fun y=>!B2 x y))⟩])
     (fun k=>k≤l.length) (fun k=>l.length-k) 0 (Nat.zero_le _) ⟨by first|rfl|simp [Dl,ren2,ren1,ren0],trivial⟩ Dh ⟨by first|rfl|exact (congrArg (fun l=>Du _ _ l) (List.append_nil _)).symm|(show (_:A8)=_;simp)|simp,trivial⟩ D0 Aa (fun k hk=>?_)
    conv=>whnf
    refine G5 (fun h=>?_) fun h=>?_<;>conv=>whnf
    ·have h:k<l.length:=by omega
     have hs:=Ez (fun y=>!B2 x y) l k h
     have hb:=F0 (fun y=>!B2 x y) l k
     first|(refine B9 16 rfl [0,1,2,3,4,5,6,7,8,9,10,11,12,13,14,15,16,17,18,19,20,21,22,23,24,25,26,27] Aa (Al ?_))
     (repeat refine Ar ?_)
     refine ⟨fun n1=>have n1:=bne_iff_ne.1 n1;?_,fun n1=>have n1:=bne_eq_false_iff_eq.1 n1;?_⟩<;>conv=>whnf
     ·rw [Int.toNat_natCast] at n1
      repeat refine Bi ?_
      (repeat refine Ar ?_)
      refine Dp A0 rfl rfl rfl rfl rfl rfl rfl rfl rfl rfl rfl (Ai ((l.take k).filter (fun y=>!B2 x y)++[l.getD k default])) (Bf rfl) Kc Ac (Al ?_)
      (repeat refine Ar ?_)
      refine B5 [(3,5)] (k+1) Ac Ac ⟨rfl,trivial⟩ ⟨congrArg Ai (by rw [hs,if_pos (Nw n1)]),trivial⟩ Dh Aa D0 Aa
     ·rw [Int.toNat_natCast] at n1
      repeat refine Bi ?_
      (repeat refine Ar ?_)
      refine ⟨fun n2=>have n2:=bne_iff_ne.1 n2;?_,fun n2=>have n2:=bne_eq_false_iff_eq.1 n2;?_⟩<;>conv=>whnf
      ·rw [Int.toNat_natCast] at n2
       repeat refine Bi ?_
       (repeat refine Ar ?_)
       refine Dp A0 rfl rfl rfl rfl rfl rfl rfl rfl rfl rfl rfl (Ai ((l.take k).filter (fun y=>!B2 x y)++[l.getD k default])) (Bf rfl) Kc Ac (Al ?_)
       (repeat refine Ar ?_)
       refine B5 [(3,5)] (k+1) Ac Ac ⟨rfl,trivial⟩ ⟨congrArg Ai (by rw [hs,if_pos (Nx n2)]),trivial⟩ Dh Aa D0 Aa
      ·rw [Int.toNat_natCast] at n2
       repeat refine Bi ?_
       (repeat refine Ar ?_)
       refine ⟨fun n3=>have n3:=bne_iff_ne.1 n3;?_,fun n3=>have n3:=bne_eq_false_iff_eq.1 n3;?_⟩<;>conv=>whnf
       ·rw [Int.toNat_natCast] at n3
        repeat refine Bi ?_
        (repeat refine Ar ?_)
        refine Dp A0 rfl rfl rfl rfl rfl rfl rfl rfl rfl rfl rfl (Ai ((l.take k).filter (fun y=>!B2 x y)++[l.getD k default])) (Bf rfl) Kc Ac (Al ?_)
        (repeat refine Ar ?_)
        refine B5 [(3,5)] (k+1) Ac Ac ⟨rfl,trivial⟩ ⟨congrArg Ai (by rw [hs,if_pos (Ny n3)]),trivial⟩ Dh Aa D0 Aa
       ·rw [Int.toNat_natCast] at n3
        repeat refine Bi ?_
        (repeat refine Ar ?_)
        refine B5 [] (k+1) Ac Ac ⟨rfl,trivial⟩ ⟨congrArg Ai (by rw [hs,if_neg (by rw [Sb n1 n2 n3];decide),List.append_nil]),trivial⟩ Dh Aa D0 Aa
    ·repeat refine Bi ?_
     obtain rfl:k=l.length:=by omega
     refine B4 (Ip ((l.take l.length).filter fun y=>!B2 x y) x (by have:=List.length_filter_le (fun y=>!B2 x y) (l.take l.length);rw [List.take_length] at *;omega)) rfl (Al ?_)
     rw [Bb,if_pos Ac,Dq,if_neg (fun p=>by rw [p.1] at h1;cases h1)]
     refine Ao A0 rfl rfl ?_
     rw [List.take_length]
     exact Ca
  ·refine ⟨fun h8=>have h8:=eq_of_beq h8;?_,fun h8=>have h8:=beq_eq_false_iff_ne.1 h8;?_⟩<;>conv=>whnf
   ·repeat refine Bi ?_
    refine Aw (U9 l x.op x.epoch x.key Ac) rfl (Al ?_)
    refine ⟨fun h1=>?_,fun h1=>?_⟩<;>conv=>whnf
    ·repeat refine Bi ?_
     refine ⟨fun h2=>?_,fun h2=>?_⟩<;>conv=>whnf
     ·repeat refine Bi ?_
      rw [Bb,if_pos Ac,Dq,if_pos ⟨h1,of_decide_eq_true h2⟩]
      refine Ao A0 rfl rfl ?_
      exact Ca
     ·repeat refine Bi ?_
      refine G4 3 (Ai []) rfl F8 ?_
      refine Bw A0 false [48] (fun k:Nat=>[(12,.c (vi k))]) (fun k=>[⟨0,[.c (vi x.op),.c (vi x.epoch),.c (vi x.key),.c (vi x.val)]⟩]) (fun k=>[⟨3,Ai ((l.take k).filter (fun y=>!B2 x y))⟩])
       (fun k=>k≤l.length) (fun k=>l.length-k) 0 (Nat.zero_le _) ⟨by first|rfl|simp [Dl,ren2,ren1,ren0],trivial⟩ Dh ⟨by first|rfl|exact (congrArg (fun l=>Du _ _ l) (List.append_nil _)).symm|(show (_:A8)=_;simp)|simp,trivial⟩ D0 Aa (fun k hk=>?_)
      conv=>whnf
      refine G5 (fun h=>?_) fun h=>?_<;>conv=>whnf
      ·have h:k<l.length:=by omega
       have hs:=Ez (fun y=>!B2 x y) l k h
       have hb:=F0 (fun y=>!B2 x y) l k
       first|(refine B9 16 rfl [0,1,2,3,4,5,6,7,8,9,10,11,12,13,14,15,16,17,18,19,20,21,22,23,24,25,26,27] Aa (Al ?_))
       (repeat refine Ar ?_)
       refine ⟨fun n1=>have n1:=bne_iff_ne.1 n1;?_,fun n1=>have n1:=bne_eq_false_iff_eq.1 n1;?_⟩<;>conv=>whnf
       ·rw [Int.toNat_natCast] at n1
        repeat refine Bi ?_
        (repeat refine Ar ?_)
        refine Dp A0 rfl rfl rfl rfl rfl rfl rfl rfl rfl rfl rfl (Ai ((l.take k).filter (fun y=>!B2 x y)++[l.getD k default])) (Bf rfl) Kc Ac (Al ?_)
        (repeat refine Ar ?_)
        refine B5 [(3,5)] (k+1) Ac Ac ⟨rfl,trivial⟩ ⟨congrArg Ai (by rw [hs,if_pos (Nw n1)]),trivial⟩ Dh Aa D0 Aa
       ·rw [Int.toNat_natCast] at n1
        repeat refine Bi ?_
        (repeat refine Ar ?_)
        refine ⟨fun n2=>have n2:=bne_iff_ne.1 n2;?_,fun n2=>have n2:=bne_eq_false_iff_eq.1 n2;?_⟩<;>conv=>whnf
        ·rw [Int.toNat_natCast] at n2
         repeat refine Bi ?_
         (repeat refine Ar ?_)
         refine Dp A0 rfl rfl rfl rfl rfl rfl rfl rfl rfl rfl rfl (Ai ((l.take k).filter (fun y=>!B2 x y)++[l.getD k default])) (Bf rfl) Kc Ac (Al ?_)
         (repeat refine Ar ?_)
         refine B5 [(3,5)] (k+1) Ac Ac ⟨rfl,trivial⟩ ⟨congrArg Ai (by rw [hs,if_pos (Nx n2)]),trivial⟩ Dh Aa D0 Aa
        ·rw [Int.toNat_natCast] at n2
         repeat refine Bi ?_
         (repeat refine Ar ?_)
         refine ⟨fun n3=>have n3:=bne_iff_ne.1 n3;?_,fun n3=>have n3:=bne_eq_false_iff_eq.1 n3;?_⟩<;>conv=>whnf
         ·rw [Int.toNat_natCast] at n3
          repeat refine Bi ?_
          (repeat refine Ar ?_)
          refine Dp A0 rfl rfl rfl rfl rfl rfl rfl rfl rfl rfl rfl (Ai ((l.take k).filter (fun y=>!B2 x y)++[l.getD k default])) (Bf rfl) Kc Ac (Al ?_)
          (repeat refine Ar ?_)
          refine B5 [(3,5)] (k+1) Ac Ac ⟨rfl,trivial⟩ ⟨congrArg Ai (by rw [hs,if_pos (Ny n3)]),trivial⟩ Dh Aa D0 Aa
         ·rw [Int.toNat_natCast] at n3
          repeat refine Bi ?_
          (repeat refine Ar ?_)
          refine B5 [] (k+1) Ac Ac ⟨rfl,trivial⟩ ⟨congrArg Ai (by rw [hs,if_neg (by rw [Sb n1 n2 n3];decide),List.append_nil]),trivial⟩ Dh Aa D0 Aa
      ·repeat refine Bi ?_
       obtain rfl:k=l.length:=by omega
       refine B4 (Ip ((l.take l.length).filter fun y=>!B2 x y) x (by have:=List.length_filter_le (fun y=>!B2 x y) (l.take l.length);rw [List.take_length] at *;omega)) rfl (Al ?_)
       rw [Bb,if_pos Ac,Dq,if_neg (fun p=>absurd p.2 (of_decide_eq_false h2))]
       refine Ao A0 rfl rfl ?_
       rw [List.take_length]
       exact Ca
    ·repeat refine Bi ?_
     refine G4 3 (Ai []) rfl F8 ?_
     refine Bw A0 false [48] (fun k:Nat=>[(12,.c (vi k))]) (fun k=>[⟨0,[.c (vi x.op),.c (vi x.epoch),.c (vi x.key),.c (vi x.val)]⟩]) (fun k=>[⟨3,Ai ((l.take k).filter (fun y=>!B2 x y))⟩])
      (fun k=>k≤l.length) (fun k=>l.length-k) 0 (Nat.zero_le _) ⟨by first|rfl|simp [Dl,ren2,ren1,ren0],trivial⟩ Dh ⟨by first|rfl|exact (congrArg (fun l=>Du _ _ l) (List.append_nil _)).symm|(show (_:A8)=_;simp)|simp,trivial⟩ D0 Aa (fun k hk=>?_)
     conv=>whnf
     refine G5 (fun h=>?_) fun h=>?_<;>conv=>whnf
     ·have h:k<l.length:=by omega
      have hs:=Ez (fun y=>!B2 x y) l k h
      have hb:=F0 (fun y=>!B2 x y) l k
      first|(refine B9 16 rfl [0,1,2,3,4,5,6,7,8,9,10,11,12,13,14,15,16,17,18,19,20,21,22,23,24,25,26,27] Aa (Al ?_))
      (repeat refine Ar ?_)
      refine ⟨fun n1=>have n1:=bne_iff_ne.1 n1;?_,fun n1=>have n1:=bne_eq_false_iff_eq.1 n1;?_⟩<;>conv=>whnf
      ·rw [Int.toNat_natCast] at n1
       repeat refine Bi ?_
       (repeat refine Ar ?_)
       refine Dp A0 rfl rfl rfl rfl rfl rfl rfl rfl rfl rfl rfl (Ai ((l.take k).filter (fun y=>!B2 x y)++[l.getD k default])) (Bf rfl) Kc Ac (Al ?_)
       (repeat refine Ar ?_)
       refine B5 [(3,5)] (k+1) Ac Ac ⟨rfl,trivial⟩ ⟨congrArg Ai (by rw [hs,if_pos (Nw n1)]),trivial⟩ Dh Aa D0 Aa
      ·rw [Int.toNat_natCast] at n1
       repeat refine Bi ?_
       (repeat refine Ar ?_)
       refine ⟨fun n2=>have n2:=bne_iff_ne.1 n2;?_,fun n2=>have n2:=bne_eq_false_iff_eq.1 n2;?_⟩<;>conv=>whnf
       ·rw [Int.toNat_natCast] at n2
        repeat refine Bi ?_
        (repeat refine Ar ?_)
        refine Dp A0 rfl rfl rfl rfl rfl rfl rfl rfl rfl rfl rfl (Ai ((l.take k).filter (fun y=>!B2 x y)++[l.getD k default])) (Bf rfl) Kc Ac (Al ?_)
        (repeat refine Ar ?_)
        refine B5 [(3,5)] (k+1) Ac Ac ⟨rfl,trivial⟩ ⟨congrArg Ai (by rw [hs,if_pos (Nx n2)]),trivial⟩ Dh Aa D0 Aa
       ·rw [Int.toNat_natCast] at n2
        repeat refine Bi ?_
        (repeat refine Ar ?_)
        refine ⟨fun n3=>have n3:=bne_iff_ne.1 n3;?_,fun n3=>have n3:=bne_eq_false_iff_eq.1 n3;?_⟩<;>conv=>whnf
        ·rw [Int.toNat_natCast] at n3
         repeat refine Bi ?_
         (repeat refine Ar ?_)
         refine Dp A0 rfl rfl rfl rfl rfl rfl rfl rfl rfl rfl rfl (Ai ((l.take k).filter (fun y=>!B2 x y)++[l.getD k default])) (Bf rfl) Kc Ac (Al ?_)
         (repeat refine Ar ?_)
         refine B5 [(3,5)] (k+1) Ac Ac ⟨rfl,trivial⟩ ⟨congrArg Ai (by rw [hs,if_pos (Ny n3)]),trivial⟩ Dh Aa D0 Aa
        ·rw [Int.toNat_natCast] at n3
         repeat refine Bi ?_
         (repeat refine Ar ?_)
         refine B5 [] (k+1) Ac Ac ⟨rfl,trivial⟩ ⟨congrArg Ai (by rw [hs,if_neg (by rw [Sb n1 n2 n3];decide),List.append_nil]),trivial⟩ Dh Aa D0 Aa
     ·repeat refine Bi ?_
      obtain rfl:k=l.length:=by omega
      refine B4 (Ip ((l.take l.length).filter fun y=>!B2 x y) x (by have:=List.length_filter_le (fun y=>!B2 x y) (l.take l.length);rw [List.take_length] at *;omega)) rfl (Al ?_)
      rw [Bb,if_pos Ac,Dq,if_neg (fun p=>by rw [p.1] at h1;cases h1)]
      refine Ao A0 rfl rfl ?_
      rw [List.take_length]
      exact Ca
   ·repeat refine Bi ?_
    rw [Zm h5 h8 h6]
    refine Ao A0 rfl rfl ?_
    exact Ca
end Go.Proofs.YtonodkjaoalfjaaGreat
