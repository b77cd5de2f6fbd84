/- Part 12 of the proof that each of the laws FnStalls returns true for every input. No conditions. -/
import Derived.Test.YtonodkjaoalfjaaGreatP5
import Derived.Test.YtonodkjaoalfjaaGreatP6
import Derived.Test.YtonodkjaoalfjaaGreatP11

set_option linter.unusedSimpArgs false
set_option linter.unusedVariables false
set_option maxRecDepth 100000
namespace Go.Proofs.YtonodkjaoalfjaaGreat
open Go.Sx
theorem A1h {s:F5}(h:Ho s=false):Cc s=(s,false):=by
 unfold Cc
 rw [if_neg (fun p=>by rw [p.1] at h;cases h)]
theorem A1i {s:F5}(h:¬ s.turn<6):Cc s=(s,false):=by
 unfold Cc
 rw [if_neg (fun p=>h p.2)]
theorem A1j {s:F5}(h1:Ho s=true)(h2:s.turn<6):Cc s=(⟨s.epoch,s.turn+1⟩,true):=by
 unfold Cc
 rw [if_pos ⟨h1,h2⟩]
theorem B5f {s:F5}(h:Ho s=true):(0≤s.epoch∧s.epoch≤3)∧0≤s.turn∧s.turn≤6:=of_decide_eq_true h
theorem C1r (s:F5):B0 Tryz.prog 237 [.agg s.c] [.agg (Cc s).1.c,.one (vb (Cc s).2)]:=by
 refine Ay A0 false Tryz.func237 rfl Bu fun W=>?_
 conv=>whnf
 refine Aw (A5b s) rfl (Al ?_)
 refine ⟨fun h1=>?_,fun h1=>?_⟩<;>conv=>whnf
 ·have h1:Ho s=false:=by simpa using h1
  repeat refine Bi ?_
  rw [A1h h1]
  refine Ao A0 rfl rfl ?_
  exact Ca
 ·have h1:Ho s=true:=by simpa using h1
  have hb:=B5f h1
  repeat refine Bi ?_
  refine ⟨fun h2=>?_,fun h2=>?_⟩<;>conv=>whnf
  ·have h2:s.turn≥6:=of_decide_eq_true h2
   repeat refine Bi ?_
   rw [A1i Ac]
   refine Ao A0 rfl rfl ?_
   exact Ca
  ·have h2:¬ s.turn≥6:=of_decide_eq_false h2
   repeat refine Bi ?_
   (repeat refine Ar ?_)
   rw [A1j h1 Ac]
   refine Ao A0 rfl rfl ?_
   exact Ca
theorem B5e (a b:Int):B0 Tryz.prog 174 [.one (vi a),.one (vi b)] [.one (vi (if b<a then b else a))]:=by
 refine Ay A0 false Tryz.func174 rfl Bu fun W=>?_
 conv=>whnf
 refine G5 (fun h=>?_) fun h=>?_<;>conv=>whnf
 ·rw [if_pos h]
  refine Ao A0 rfl rfl ?_
  exact Ca
 ·rw [if_neg h]
  refine Ao A0 rfl rfl ?_
  exact Ca
theorem C1g (k:Int):B0 Tryz.prog 236 [.one (vi k)] [.one (vb (decide (k=5∨k=6∨k=8)))]:=by
 refine Ay A0 false Tryz.func236 rfl Bu fun W=>?_
 conv=>whnf
 refine ⟨fun h5=>have h5:=eq_of_beq h5;?_,fun h5=>have h5:=beq_eq_false_iff_ne.1 h5;?_⟩<;>conv=>whnf
 ·repeat refine Bi ?_
  exact Ao A0 rfl rfl ⟨congrArg vb (by simp [h5]),trivial⟩
 ·repeat refine Bi ?_
  refine ⟨fun h6=>have h6:=eq_of_beq h6;?_,fun h6=>have h6:=beq_eq_false_iff_ne.1 h6;?_⟩<;>conv=>whnf
  ·repeat refine Bi ?_
   exact Ao A0 rfl rfl ⟨congrArg vb (by simp [h6]),trivial⟩
  ·repeat refine Bi ?_
   exact Ao A0 rfl rfl ⟨congrArg vb (by simp [h5,h6];rfl),trivial⟩
theorem L0 {x:Cb}{k v:Int}(h:¬ (Iw x∧Jd k v)):As x k v=(k,v,false):=if_neg h
theorem A9v {x:Cb}{k v:Int}(h:Iw x∧Jd k v)(h2:x.kind=2):As x k v=(k,if 999<v+x.a then 999 else v+x.a,true):=by
 rw [As,if_pos h,if_pos h2]
 congr 2
 by_cases h3:999<v+x.a
 ·rw [if_pos h3,if_neg Ac]
 ·rw [if_neg h3]
  split<;>omega
theorem Ys {x:Cb}{k v:Int}(h:Iw x∧Jd k v)(h2:x.kind=4):As x k v=((k+x.a).tmod 100,v,true):=by
 rw [As,if_pos h,if_neg Ac,if_pos h2]
theorem Yr {x:Cb}{k v:Int}(h:Iw x∧Jd k v)(h2:x.kind=3):As x k v=(k,v,k.tmod x.a==x.b):=by
 rw [As,if_pos h,if_neg Ac,if_neg Ac,if_pos h2]
theorem Yt {x:Cb}{k v:Int}(h:Iw x∧Jd k v)(h2:x.kind≠2)(h4:x.kind≠4)(h3:x.kind≠3):As x k v=(k,v,x.kind !=8):=by
 rw [As,if_pos h,if_neg h2,if_neg h4,if_neg h3]
theorem A48 (x:Cb)(k v:Int)(hx:x.w≤16777216):B0 Tryz.prog 146 [.agg x.c,.one (vi k),.one (vi v)] [.one (vi (As x k v).1),.one (vi (As x k v).2.1),.one (vb (As x k v).2.2)]:=by
 refine Ay A0 false Tryz.func146 rfl Bu fun W=>?_
 conv=>whnf
 refine Aw (Xj x hx) rfl (Al ?_)
 refine ⟨fun h1=>?_,fun h1=>?_⟩<;>conv=>whnf
 ·have h1:Ka x=false:=by simpa using h1
  repeat refine Bi ?_
  rw [L0 (fun p=>absurd p.1 (of_decide_eq_false h1))]
  refine Ao A0 rfl rfl ?_
  exact Ca
 have h1:Ka x=true:=by simpa using h1
 repeat refine Bi ?_
 refine Aw (Jo k 0 99) rfl (Al ?_)
 repeat refine Bi ?_
 refine ⟨fun h2=>?_,fun h2=>?_⟩<;>conv=>whnf
 ·have h2:Eg k 0 99=false:=by simpa using h2
  repeat refine Bi ?_
  rw [L0 (fun p=>Go.Sx.Az.1 h2 p.2.1)]
  refine Ao A0 rfl rfl ?_
  exact Ca
 have h2:Eg k 0 99=true:=by simpa using h2
 repeat refine Bi ?_
 refine Aw (Jo v 0 999) rfl (Al ?_)
 repeat refine Bi ?_
 refine ⟨fun h3=>?_,fun h3=>?_⟩<;>conv=>whnf
 ·have h3:Eg v 0 999=false:=by simpa using h3
  repeat refine Bi ?_
  rw [L0 (fun p=>Go.Sx.Az.1 h3 p.2.2)]
  refine Ao A0 rfl rfl ?_
  exact Ca
 have h3:Eg v 0 999=true:=by simpa using h3
 have hI:Jd k v:=⟨Go.Sx.Am.1 h2,Go.Sx.Am.1 h3⟩
 have hN:Iw x:=of_decide_eq_true h1
 have hk:=hI.1
 have hv:=hI.2
 repeat refine Bi ?_
 refine ⟨fun k2=>have k2:=eq_of_beq k2;?_,fun k2=>have k2:=beq_eq_false_iff_ne.1 k2;?_⟩<;>conv=>whnf
 ·have ha:=hN.2.1 k2
  repeat refine Bi ?_
  (repeat refine Ar ?_)
  refine Aw (B5e (v+x.a) 999) rfl (Al ?_)
  rw [A9v ⟨hN,hI⟩ k2]
  refine Ao A0 rfl rfl ?_
  exact Ca
 ·repeat refine Bi ?_
  refine ⟨fun k4=>have k4:=eq_of_beq k4;?_,fun k4=>have k4:=beq_eq_false_iff_ne.1 k4;?_⟩<;>conv=>whnf
  ·have ha:=hN.2.2.2.1 k4
   repeat refine Bi ?_
   (repeat refine Ar ?_)
   rw [Ys ⟨hN,hI⟩ k4]
   refine Ao A0 rfl rfl ?_
   exact Ca
  ·repeat refine Bi ?_
   refine ⟨fun k3=>have k3:=eq_of_beq k3;?_,fun k3=>have k3:=beq_eq_false_iff_ne.1 k3;?_⟩<;>conv=>whnf
   ·have ha:=hN.2.2.1 k3
    repeat refine Bi ?_
    first|(refine B9 9 rfl [0,1,2,3,4,5,6,7,8,9,10,11] Aa (Al ?_))|(refine B9 10 rfl [0,1,2,3,4,5,6,7] Aa (Al ?_))
    (repeat refine Ar ?_)
    rw [Yr ⟨hN,hI⟩ k3]
    refine Ao A0 rfl rfl ?_
    exact Ca
   ·repeat refine Bi ?_
    first|(refine B9 9 rfl [0,1,2,3,4,5,6,7,8,9,10,11] Aa (Al ?_))|(refine B9 10 rfl [0,1,2,3,4,5,6,7] Aa (Al ?_))
    rw [Yt ⟨hN,hI⟩ k2 k4 k3]
    refine Ao A0 rfl rfl ?_
    exact Ca
theorem G1 {α:Type} [Inhabited α] {l:List α}{k:Nat}(hk:k<l.length):l.take (k+1)=l.take k++[l.getD k default]:=by
 rw [List.take_succ_eq_append_getElem hk]
 simp [List.getD,hk]
theorem Nk {l:List A7}{k:Nat}(hk:k<l.length)(op e key:Int):H8 (l.take (k+1)) op e key=L7 op e key (H8 (l.take k) op e key) (l.getD k default):=by
 unfold H8
 rw [G1 hk,List.foldl_append]
 rfl
set_option maxHeartbeats 1000000 in
theorem U9 (l:List A7)(op e key:Int)(hl:l.length≤16000000):B0 Tryz.prog 173 [.one (Ai l),.one (vi op),.one (vi e),.one (vi key)] [.one (vi (H8 l op e key).1),.one (vb (H8 l op e key).2)]:=by
 refine Ay A0 false Tryz.func173 rfl Bu fun W=>?_
 conv=>whnf
 refine Bw A0 false [] (fun k:Nat=>[(12,.c (vi k)),(10,.c (vi (H8 (l.take k) op e key).1)),(11,.c (vb (H8 (l.take k) op e key).2))]) (fun k=>[]) (fun k=>[])
  (fun k=>k≤l.length) (fun k=>l.length-k) 0 (Nat.zero_le _) ⟨by first|rfl|simp [Dl,ren2,ren1,ren0],by first|rfl|simp [Dl,ren2,ren1,ren0],by first|rfl|simp [Dl,ren2,ren1,ren0],trivial⟩ trivial trivial Dh Aa (fun k hk=>?_)
 conv=>whnf
 refine G5 (fun h0=>?_) fun h0=>?_<;>conv=>whnf
 ·have h0:k<l.length:=by omega
  (repeat refine Ar ?_)
  repeat' (first|(refine Ms ?_;conv=>whnf)|(refine Mt ?_;conv=>whnf)|(refine ⟨fun h=>?_,fun h=>?_⟩<;>conv=>whnf)|(refine Kf ?_;conv=>whnf)|fail)
  all_goals
   refine B5 [] (k+1) Ac Ac ⟨rfl,congrArg (fun n=>AV.c (vi n)) (by rw [Nk h0];simp_all [L7]<;>rw [if_neg Ac]<;>assumption),congrArg (fun n=>AV.c (vb n)) (by rw [Nk h0];simp_all [L7]<;>rw [if_neg Ac]<;>assumption),trivial⟩ trivial trivial Aa Dh Aa
 ·refine Ao A0 rfl rfl ⟨?_,?_,trivial⟩
  ·rw [show l.take k=l from List.take_of_length_le Ac];rfl
  ·rw [show l.take k=l from List.take_of_length_le Ac];rfl
theorem A1x {l:List A7}{x:A7}:Bb 6 l x=(Cy l x,!I2 l x):=by
 unfold Bb
 rw [if_neg Bu,if_pos rfl]
 cases h:I2 l x with
 |true=>rw [if_pos rfl,Cy,if_pos h];rfl
 |false=>rw [if_neg Bu];rfl
theorem Zm {k:Int}{l:List A7}{x:A7}(h5:k≠5)(h8:k≠8)(h6:k≠6):Bb k l x=(l,true):=by
 unfold Bb
 rw [if_neg Ac,if_neg h6]
theorem Nw {a b:A7}(h:b.op≠a.op):(!B2 a b)=true:=by simp only [B2,Bool.not_eq_true',decide_eq_false_iff_not];omega
theorem Nx {a b:A7}(h:b.epoch≠a.epoch):(!B2 a b)=true:=by simp only [B2,Bool.not_eq_true',decide_eq_false_iff_not];omega
theorem Ny {a b:A7}(h:b.key≠a.key):(!B2 a b)=true:=by simp only [B2,Bool.not_eq_true',decide_eq_false_iff_not];omega
theorem Sb {a b:A7}(h1:b.op=a.op)(h2:b.epoch=a.epoch)(h3:b.key=a.key):(!B2 a b)=false:=by simp only [B2,Bool.not_eq_false',decide_eq_true_eq];omega
set_option maxHeartbeats 4000000 in
theorem A7h (kind:Int)(l:List A7)(x:A7)(hl:l.length≤16000000):B0 Tryz.prog 145 [.one (vi kind),.one (Ai l),.agg x.c] [.one (Ai (Bb kind l x).1),.one (vb (Bb kind l x).2)]:=by
 refine Ay A0 false Tryz.func145 rfl Bu fun W=>?_
 conv=>whnf
 refine Dp A0 rfl rfl rfl rfl rfl rfl rfl rfl rfl rfl rfl (Ai l) (Eh) (fun _=>Eu l) Ac (Al ?_)
 refine ⟨fun h6=>have h6:=eq_of_beq h6;?_,fun h6=>have h6:=beq_eq_false_iff_ne.1 h6;?_⟩<;>conv=>whnf
 ·refine Aw (U8 l x Ac) rfl (Al ?_)
  refine ⟨fun hc=>?_,fun hc=>?_⟩<;>conv=>whnf
  ·rw [h6,A1x,Cy,if_pos hc,hc]
   refine Ao A0 rfl rfl ?_
   exact Ca
  ·refine B4 (Ip l x Ac) rfl (Al ?_)
   rw [h6,A1x,hc]
   refine Ao A0 rfl rfl ?_
   exact Ca
 ·refine ⟨fun h5=>have h5:=eq_of_beq h5;?_,fun h5=>have h5:=beq_eq_false_iff_ne.1 h5;?_⟩<;>conv=>whnf
  ·repeat refine Bi ?_
   refine Aw (U9 l x.op x.epoch x.key Ac) rfl (Al ?_)
   refine ⟨fun h1=>?_,fun h1=>?_⟩<;>conv=>whnf
   ·repeat refine Bi ?_
    refine ⟨fun h2=>?_,fun h2=>?_⟩<;>conv=>whnf
    ·repeat refine Bi ?_
     rw [Bb,if_pos Ac,Dq,if_pos ⟨h1,of_decide_eq_true h2⟩]
     refine Ao A0 rfl rfl ?_
     exact Ca
    ·repeat refine Bi ?_
     refine G4 3 (Ai []) rfl F8 ?_
     refine Bw A0 false [48] (fun k:Nat=>[(12,.c (vi k))]) (fun k=>[⟨0,[.c (vi x.op),.c (vi x.epoch),.c (vi x.key),.c (vi x.val)]⟩]) (fun k=>[⟨3,Ai ((l.take k).filter (fun y=>!B2 x y))⟩])
      (fun k=>k≤l.length) (fun k=>l.length-k) 0 (Nat.zero_le _) ⟨by first|rfl|simp [Dl,ren2,ren1,ren0],trivial⟩ F3 ⟨by first|rfl|exact (congrArg (fun l=>Du _ _ l) (List.append_nil _)).symm|(show (_:A8)=_;simp)|simp,trivial⟩ Dh Aa (fun k hk=>?_)
     conv=>whnf
     refine G5 (fun h=>?_) fun h=>?_<;>conv=>whnf
     ·have h:k<l.length:=by omega
      have hs:=Ez (fun y=>!B2 x y) l k h
      have hb:=F0 (fun y=>!B2 x y) l k
      first|(refine B9 16 rfl [0,1,2,3,4,5,6,7,8,9,10,11,12,13,14,15,16,17,18,19,20,21,22,23,24,25,26,27] Aa (Al ?_))
      (repeat refine Ar ?_)
      refine ⟨fun n1=>have n1:=bne_iff_ne.1 n1;?_,fun n1=>have n1:=bne_eq_false_iff_eq.1 n1;?_⟩<;>conv=>whnf
      ·rw [Int.toNat_natCast] at n1
       repeat refine Bi ?_
       (repeat refine Ar ?_)
       refine Dp A0 rfl rfl rfl rfl rfl rfl rfl rfl rfl rfl rfl (Ai ((l.take k).filter (fun y=>!B2 x y)++[l.getD k default])) (Bf rfl) M1 Ac (Al ?_)
       (repeat refine Ar ?_)
       refine B5 [(3,5)] (k+1) Ac Ac ⟨rfl,trivial⟩ ⟨congrArg Ai (by rw [hs,if_pos (Nw n1)]),trivial⟩ F3 Aa Dh Aa
      ·rw [Int.toNat_natCast] at n1
       repeat refine Bi ?_
       (repeat refine Ar ?_)
       refine ⟨fun n2=>have n2:=bne_iff_ne.1 n2;?_,fun n2=>have n2:=bne_eq_false_iff_eq.1 n2;?_⟩<;>conv=>whnf
       ·rw [Int.toNat_natCast] at n2
        repeat refine Bi ?_
        (repeat refine Ar ?_)
        refine Dp A0 rfl rfl rfl rfl rfl rfl rfl rfl rfl rfl rfl (Ai ((l.take k).filter (fun y=>!B2 x y)++[l.getD k default])) (Bf rfl) M1 Ac (Al ?_)
        (repeat refine Ar ?_)
        refine B5 [(3,5)] (k+1) Ac Ac ⟨rfl,trivial⟩ ⟨congrArg Ai (by rw [hs,if_pos (Nx n2)]),trivial⟩ F3 Aa Dh Aa
       ·rw [Int.toNat_natCast] at n2
        repeat refine Bi ?_
        (repeat refine Ar ?_)
        refine ⟨fun n3=>have n3:=bne_iff_ne.1 n3;?_,fun n3=>have n3:=bne_eq_false_iff_eq.1 n3;?_⟩<;>conv=>whnf
        ·rw [Int.toNat_natCast] at n3
         repeat refine Bi ?_
         (repeat refine Ar ?_)
         refine Dp A0 rfl rfl rfl rfl rfl rfl rfl rfl rfl rfl rfl (Ai ((l.take k).filter (fun y=>!B2 x y)++[l.getD k default])) (Bf rfl) M1 Ac (Al ?_)
         (repeat refine Ar ?_)
         refine B5 [(3,5)] (k+1) Ac Ac ⟨rfl,trivial⟩ ⟨congrArg Ai (by rw [hs,if_pos (Ny n3)]),trivial⟩ F3 Aa Dh Aa
        ·rw [Int.toNat_natCast] at n3
         repeat refine Bi ?_
         (repeat refine Ar ?_)
         refine B5 [] (k+1) Ac Ac ⟨rfl,trivial⟩ ⟨congrArg Ai (by rw [hs,if_neg (by rw [Sb n1 n2 n3];decide),List.append_nil]),trivial⟩ F3 Aa Dh Aa
     ·repeat refine Bi ?_
      obtain rfl:k=l.length:=by omega
      refine B4 (Ip ((l.take l.length).filter fun y=>!B2 x y) x (by have:=List.length_filter_le (fun y=>!B2 x y) (l.take l.length);rw [List.take_length] at *;omega)) rfl (Al ?_)
      rw [Bb,if_pos Ac,Dq,if_neg (fun p=>absurd p.2 (of_decide_eq_false h2))]
      refine Ao A0 rfl rfl ?_
      rw [List.take_length]
      exact Ca
   ·repeat refine Bi ?_
    refine G4 3 (Ai []) rfl F8 ?_
    refine Bw A0 false [48] (fun k:Nat=>[(12,.c (vi k))]) (fun k=>[⟨0,[.c (vi x.op),.c (vi x.epoch),.c (vi x.key),.c (vi x.val)]⟩]) (fun k=>[⟨3,Ai ((l.take k).filter (fun y=>!B2 x y))⟩])
     (fun k=>k≤l.length) (fun k=>l.length-k) 0 (Nat.zero_le _) ⟨by first|rfl|simp [Dl,ren2,ren1,ren0],trivial⟩ F3 ⟨by first|rfl|exact (congrArg (fun l=>Du _ _ l) (List.append_nil _)).symm|(show (_:A8)=_;simp)|simp,trivial⟩ Dh Aa (fun k hk=>?_)
    conv=>whnf
    refine G5 (fun h=>?_) fun h=>?_<;>conv=>whnf
    ·have h:k<l.length:=by omega
     have hs:=Ez (fun y=>!B2 x y) l k h
     have hb:=F0 (fun y=>!B2 x y) l k
     first|(refine B9 16 rfl [0,1,2,3,4,5,6,7,8,9,10,11,12,13,14,15,16,17,18,19,20,21,22,23,24,25,26,27] Aa (Al ?_))
     (repeat refine Ar ?_)
     refine ⟨fun n1=>have n1:=bne_iff_ne.1 n1;?_,fun n1=>have n1:=bne_eq_false_iff_eq.1 n1;?_⟩<;>conv=>whnf
     ·rw [Int.toNat_natCast] at n1
      repeat refine Bi ?_
      (repeat refine Ar ?_)
      refine Dp A0 rfl rfl rfl rfl rfl rfl rfl rfl rfl rfl rfl (Ai ((l.take k).filter (fun y=>!B2 x y)++[l.getD k default])) (Bf rfl) M1 Ac (Al ?_)
      (repeat refine Ar ?_)
      refine B5 [(3,5)] (k+1) Ac Ac ⟨rfl,trivial⟩ ⟨congrArg Ai (by rw [hs,if_pos (Nw n1)]),trivial⟩ F3 Aa Dh Aa
     ·rw [Int.toNat_natCast] at n1
      repeat refine Bi ?_
      (repeat refine Ar ?_)
      refine ⟨fun n2=>have n2:=bne_iff_ne.1 n2;?_,fun n2=>have n2:=bne_eq_false_iff_eq.1 n2;?_⟩<;>conv=>whnf
      ·rw [Int.toNat_natCast] at n2
       repeat refine Bi ?_
       (repeat refine Ar ?_)
       refine Dp A0 rfl rfl rfl rfl rfl rfl rfl rfl rfl rfl rfl (Ai ((l.take k).filter (fun y=>!B2 x y)++[l.getD k default])) (Bf rfl) M1 Ac (Al ?_)
       (repeat refine Ar ?_)
       refine B5 [(3,5)] (k+1) Ac Ac ⟨rfl,trivial⟩ ⟨congrArg Ai (by rw [hs,if_pos (Nx n2)]),trivial⟩ F3 Aa Dh Aa
      ·rw [Int.toNat_natCast] at n2
       repeat refine Bi ?_
       (repeat refine Ar ?_)
       refine ⟨fun n3=>have n3:=bne_iff_ne.1 n3;?_,fun n3=>have n3:=bne_eq_false_iff_eq.1 n3;?_⟩<;>conv=>whnf
       ·rw [Int.toNat_natCast] at n3
        repeat refine Bi ?_
        (repeat refine Ar ?_)
        refine Dp A0 rfl rfl rfl rfl rfl rfl rfl rfl rfl rfl rfl (Ai ((l.take k).filter (fun y=>!B2 x y)++[l.getD k default])) (Bf rfl) M1 Ac (Al ?_)
        (repeat refine Ar ?_)
        refine B5 [(3,5)] (k+1) Ac Ac ⟨rfl,trivial⟩ ⟨congrArg Ai (by rw [hs,if_pos (Ny n3)]),trivial⟩ F3 Aa Dh Aa
       ·rw [Int.toNat_natCast] at n3
        repeat refine Bi ?_
        (repeat refine Ar ?_)
        refine B5 [] (k+1) Ac Ac ⟨rfl,trivial⟩ ⟨congrArg Ai (by rw [hs,if_neg (by rw [Sb n1 n2 n3];decide),List.append_nil]),trivial⟩ F3 Aa Dh Aa
    ·repeat refine Bi ?_
     obtain rfl:k=l.length:=by omega
     refine B4 (Ip ((l.take l.length).filter fun y=>!B2 x y) x (by have:=List.length_filter_le (fun y=>!B2 x y) (l.take l.length);rw [List.take_length] at *;omega)) rfl (Al ?_)
     rw [Bb,if_pos Ac,Dq,if_neg (fun p=>by rw [p.1] at h1;cases h1)]
     refine Ao A0 rfl rfl ?_
     rw [List.take_length]
     exact Ca
  ·refine ⟨fun h8=>have h8:=eq_of_beq h8;?_,fun h8=>have h8:=beq_eq_false_iff_ne.1 h8;?_⟩<;>conv=>whnf
   ·repeat refine Bi ?_
    refine Aw (U9 l x.op x.epoch x.key Ac) rfl (Al ?_)
    refine ⟨fun h1=>?_,fun h1=>?_⟩<;>conv=>whnf
    ·repeat refine Bi ?_
     refine ⟨fun h2=>?_,fun h2=>?_⟩<;>conv=>whnf
     ·repeat refine Bi ?_
      rw [Bb,if_pos Ac,Dq,if_pos ⟨h1,of_decide_eq_true h2⟩]
      refine Ao A0 rfl rfl ?_
      exact Ca
     ·repeat refine Bi ?_
      refine G4 3 (Ai []) rfl F8 ?_
      refine Bw A0 false [48] (fun k:Nat=>[(12,.c (vi k))]) (fun k=>[⟨0,[.c (vi x.op),.c (vi x.epoch),.c (vi x.key),.c (vi x.val)]⟩]) (fun k=>[⟨3,Ai ((l.take k).filter (fun y=>!B2 x y))⟩])
       (fun k=>k≤l.length) (fun k=>l.length-k) 0 (Nat.zero_le _) ⟨by first|rfl|simp [Dl,ren2,ren1,ren0],trivial⟩ F3 ⟨by first|rfl|exact (congrArg (fun l=>Du _ _ l) (List.append_nil _)).symm|(show (_:A8)=_;simp)|simp,trivial⟩ Dh Aa (fun k hk=>?_)
      conv=>whnf
      refine G5 (fun h=>?_) fun h=>?_<;>conv=>whnf
      ·have h:k<l.length:=by omega
       have hs:=Ez (fun y=>!B2 x y) l k h
       have hb:=F0 (fun y=>!B2 x y) l k
       first|(refine B9 16 rfl [0,1,2,3,4,5,6,7,8,9,10,11,12,13,14,15,16,17,18,19,20,21,22,23,24,25,26,27] Aa (Al ?_))
       (repeat refine Ar ?_)
       refine ⟨fun n1=>have n1:=bne_iff_ne.1 n1;?_,fun n1=>have n1:=bne_eq_false_iff_eq.1 n1;?_⟩<;>conv=>whnf
       ·rw [Int.toNat_natCast] at n1
        repeat refine Bi ?_
        (repeat refine Ar ?_)
        refine Dp A0 rfl rfl rfl rfl rfl rfl rfl rfl rfl rfl rfl (Ai ((l.take k).filter (fun y=>!B2 x y)++[l.getD k default])) (Bf rfl) M1 Ac (Al ?_)
        (repeat refine Ar ?_)
        refine B5 [(3,5)] (k+1) Ac Ac ⟨rfl,trivial⟩ ⟨congrArg Ai (by rw [hs,if_pos (Nw n1)]),trivial⟩ F3 Aa Dh Aa
       ·rw [Int.toNat_natCast] at n1
        repeat refine Bi ?_
        (repeat refine Ar ?_)
        refine ⟨fun n2=>have n2:=bne_iff_ne.1 n2;?_,fun n2=>have n2:=bne_eq_false_iff_eq.1 n2;?_⟩<;>conv=>whnf
        ·rw [Int.toNat_natCast] at n2
         repeat refine Bi ?_
         (repeat refine Ar ?_)
         refine Dp A0 rfl rfl rfl rfl rfl rfl rfl rfl rfl rfl rfl (Ai ((l.take k).filter (fun y=>!B2 x y)++[l.getD k default])) (Bf rfl) M1 Ac (Al ?_)
         (repeat refine Ar ?_)
         refine B5 [(3,5)] (k+1) Ac Ac ⟨rfl,trivial⟩ ⟨congrArg Ai (by rw [hs,if_pos (Nx n2)]),trivial⟩ F3 Aa Dh Aa
        ·rw [Int.toNat_natCast] at n2
         repeat refine Bi ?_
         (repeat refine Ar ?_)
         refine ⟨fun n3=>have n3:=bne_iff_ne.1 n3;?_,fun n3=>have n3:=bne_eq_false_iff_eq.1 n3;?_⟩<;>conv=>whnf
         ·rw [Int.toNat_natCast] at n3
          repeat refine Bi ?_
          (repeat refine Ar ?_)
          refine Dp A0 rfl rfl rfl rfl rfl rfl rfl rfl rfl rfl rfl (Ai ((l.take k).filter (fun y=>!B2 x y)++[l.getD k default])) (Bf rfl) M1 Ac (Al ?_)
          (repeat refine Ar ?_)
          refine B5 [(3,5)] (k+1) Ac Ac ⟨rfl,trivial⟩ ⟨congrArg Ai (by rw [hs,if_pos (Ny n3)]),trivial⟩ F3 Aa Dh Aa
         ·rw [Int.toNat_natCast] at n3
          repeat refine Bi ?_
          (repeat refine Ar ?_)
          refine B5 [] (k+1) Ac Ac ⟨rfl,trivial⟩ ⟨congrArg Ai (by rw [hs,if_neg (by rw [Sb n1 n2 n3];decide),List.append_nil]),trivial⟩ F3 Aa Dh Aa
      ·repeat refine Bi ?_
       obtain rfl:k=l.length:=by omega
       refine B4 (Ip ((l.take l.length).filter fun y=>!B2 x y) x (by have:=List.length_filter_le (fun y=>!B2 x y) (l.take l.length);rw [List.take_length] at *;omega)) rfl (Al ?_)
       rw [Bb,if_pos Ac,Dq,if_neg (fun p=>absurd p.2 (of_decide_eq_false h2))]
       refine Ao A0 rfl rfl ?_
       rw [List.take_length]
       exact Ca
    ·repeat refine Bi ?_
     refine G4 3 (Ai []) rfl F8 ?_
     refine Bw A0 false [48] (fun k:Nat=>[(12,.c (vi k))]) (fun k=>[⟨0,[.c (vi x.op),.c (vi x.epoch),.c (vi x.key),.c (vi x.val)]⟩]) (fun k=>[⟨3,Ai ((l.take k).filter (fun y=>!B2 x y))⟩])
      (fun k=>k≤l.length) (fun k=>l.length-k) 0 (Nat.zero_le _) ⟨by first|rfl|simp [Dl,ren2,ren1,ren0],trivial⟩ F3 ⟨by first|rfl|exact (congrArg (fun l=>Du _ _ l) (List.append_nil _)).symm|(show (_:A8)=_;simp)|simp,trivial⟩ Dh Aa (fun k hk=>?_)
     conv=>whnf
     refine G5 (fun h=>?_) fun h=>?_<;>conv=>whnf
     ·have h:k<l.length:=by omega
      have hs:=Ez (fun y=>!B2 x y) l k h
      have hb:=F0 (fun y=>!B2 x y) l k
      first|(refine B9 16 rfl [0,1,2,3,4,5,6,7,8,9,10,11,12,13,14,15,16,17,18,19,20,21,22,23,24,25,26,27] Aa (Al ?_))
      (repeat refine Ar ?_)
      refine ⟨fun n1=>have n1:=bne_iff_ne.1 n1;?_,fun n1=>have n1:=bne_eq_false_iff_eq.1 n1;?_⟩<;>conv=>whnf
      ·rw [Int.toNat_natCast] at n1
       repeat refine Bi ?_
       (repeat refine Ar ?_)
       refine Dp A0 rfl rfl rfl rfl rfl rfl rfl rfl rfl rfl rfl (Ai ((l.take k).filter (fun y=>!B2 x y)++[l.getD k default])) (Bf rfl) M1 Ac (Al ?_)
       (repeat refine Ar ?_)
       refine B5 [(3,5)] (k+1) Ac Ac ⟨rfl,trivial⟩ ⟨congrArg Ai (by rw [hs,if_pos (Nw n1)]),trivial⟩ F3 Aa Dh Aa
      ·rw [Int.toNat_natCast] at n1
       repeat refine Bi ?_
       (repeat refine Ar ?_)
       refine ⟨fun n2=>have n2:=bne_iff_ne.1 n2;?_,fun n2=>have n2:=bne_eq_false_iff_eq.1 n2;?_⟩<;>conv=>whnf
       ·rw [Int.toNat_natCast] at n2
        repeat refine Bi ?_
        (repeat refine Ar ?_)
        refine Dp A0 rfl rfl rfl rfl rfl rfl rfl rfl rfl rfl rfl (Ai ((l.take k).filter (fun y=>!B2 x y)++[l.getD k default])) (Bf rfl) M1 Ac (Al ?_)
        (repeat refine Ar ?_)
        refine B5 [(3,5)] (k+1) Ac Ac ⟨rfl,trivial⟩ ⟨congrArg Ai (by rw [hs,if_pos (Nx n2)]),trivial⟩ F3 Aa Dh Aa
       ·rw [Int.toNat_natCast] at n2
        repeat refine Bi ?_
        (repeat refine Ar ?_)
        refine ⟨fun n3=>have n3:=bne_iff_ne.1 n3;?_,fun n3=>have n3:=bne_eq_false_iff_eq.1 n3;?_⟩<;>conv=>whnf
        ·rw [Int.toNat_natCast] at n3
         repeat refine Bi ?_
         (repeat refine Ar ?_)
         refine Dp A0 rfl rfl rfl rfl rfl rfl rfl rfl rfl rfl rfl (Ai ((l.take k).filter (fun y=>!B2 x y)++[l.getD k default])) (Bf rfl) M1 Ac (Al ?_)
         (repeat refine Ar ?_)
         refine B5 [(3,5)] (k+1) Ac Ac ⟨rfl,trivial⟩ ⟨congrArg Ai (by rw [hs,if_pos (Ny n3)]),trivial⟩ F3 Aa Dh Aa
        ·rw [Int.toNat_natCast] at n3
         repeat refine Bi ?_
         (repeat refine Ar ?_)
         refine B5 [] (k+1) Ac Ac ⟨rfl,trivial⟩ ⟨congrArg Ai (by rw [hs,if_neg (by rw [Sb n1 n2 n3];decide),List.append_nil]),trivial⟩ F3 Aa Dh Aa
     ·repeat refine Bi ?_
      obtain rfl:k=l.length:=by omega
      refine B4 (Ip ((l.take l.length).filter fun y=>!B2 x y) x (by have:=List.length_filter_le (fun y=>!B2 x y) (l.take l.length);rw [List.take_length] at *;omega)) rfl (Al ?_)
      rw [Bb,if_pos Ac,Dq,if_neg (fun p=>by rw [p.1] at h1;cases h1)]
      refine Ao A0 rfl rfl ?_
      rw [List.take_length]
      exact Ca
   ·repeat refine Bi ?_
    rw [Zm h5 h8 h6]
    refine Ao A0 rfl rfl ?_
    exact Ca
end Go.Proofs.YtonodkjaoalfjaaGreat
