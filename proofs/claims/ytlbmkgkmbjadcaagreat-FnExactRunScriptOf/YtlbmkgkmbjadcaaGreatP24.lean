/- Part 24 of the proof that each of the laws FnExactRunScriptOf, FnExactSpreadResult returns true for every input. No conditions. -/
import Derived.Test.YtlbmkgkmbjadcaaGreatP5
import Derived.Test.YtlbmkgkmbjadcaaGreatP23

set_option linter.unusedSimpArgs false
set_option linter.unusedVariables false
set_option maxRecDepth 100000
namespace Go.Proofs.YtlbmkgkmbjadcaaGreat
open Go.Sx
theorem A64 (x y:Aa):Aq Tryz.prog 261 [.agg y.c,.ptr x.c] [.one (vb (Bn x y))]:=by
 refine Aj A0 false Tryz.func261 rfl Bs fun W=>?_
 conv=>whnf
 refine Ai (Ry x y) rfl (Ae ?_)
 exact Ah A0 rfl rfl ⟨rfl,trivial⟩
set_option maxHeartbeats 1000000 in
theorem Wd (l:List Aa)(x:Aa)(hl:l.length≤16000000):Aq Tryz.prog 255 [.one (Ao l),.agg x.c] [.one (Ao (Ih l x).1),.one (vb (Ih l x).2)]:=by
 refine Aj A0 false Tryz.func255 rfl Bs fun W=>?_
 conv=>whnf
 refine Ai (A29 l x.op x.epoch x.key Ad) rfl (Ae ?_)
 refine ⟨fun h1=>?_,fun h1=>?_⟩<;>conv=>whnf
 ·repeat refine B9 ?_
  refine ⟨fun h2=>?_,fun h2=>?_⟩<;>conv=>whnf
  ·repeat refine B9 ?_
   refine Av (Ex l Ad) rfl (Ae ?_)
   rw [Ih,if_pos ⟨h1,of_decide_eq_true h2⟩]
   refine Ah A0 rfl rfl ?_
   exact C1
  ·repeat refine B9 ?_
   refine Av (Ex l Ad) rfl (Ae ?_)
   refine B07 [.own 1] (P3 l _ x.c (fun y=>Bn x y) Ad (A64 x)) (fun _ _=>trivial) (fun _ h=>by cases h) C1 rfl rfl rfl (fun i _=>go A0 false ?_)
   conv=>whnf
   refine Av (Md (l.filter fun y=>!Bn x y) x (by have:=List.length_filter_le (fun y=>!Bn x y) l;omega)) rfl (Ae ?_)
   rw [Ih,if_neg (fun p=>absurd p.2 (of_decide_eq_false h2))]
   refine Ah A0 rfl rfl ?_
   exact C1
 ·repeat refine B9 ?_
  refine Av (Ex l Ad) rfl (Ae ?_)
  refine B07 [.own 1] (P3 l _ x.c (fun y=>Bn x y) Ad (A64 x)) (fun _ _=>trivial) (fun _ h=>by cases h) C1 rfl rfl rfl (fun i _=>go A0 false ?_)
  conv=>whnf
  refine Av (Md (l.filter fun y=>!Bn x y) x (by have:=List.length_filter_le (fun y=>!Bn x y) l;omega)) rfl (Ae ?_)
  rw [Ih,if_neg (fun p=>by rw [p.1] at h1;cases h1)]
  refine Ah A0 rfl rfl ?_
  exact C1
theorem A1k {l:List Aa}{x:Aa}:Db 6 l x=(Du l x,!K0 l x):=by
 unfold Db
 rw [if_neg Bs,if_pos rfl]
 cases h:K0 l x with
 |true=>rw [if_pos rfl,Du,if_pos h];rfl
 |false=>rw [if_neg Bs];rfl
theorem Tf {k:Int}{l:List Aa}{x:Aa}(h5:k≠5)(h8:k≠8)(h6:k≠6):Db k l x=(l,true):=by
 unfold Db
 rw [if_neg Ad,if_neg h6]
set_option maxHeartbeats 1000000 in
theorem Wo (kind:Int)(l:List Aa)(x:Aa)(hl:l.length≤16000000):Aq Tryz.prog 248 [.one (vi kind),.one (Ao l),.agg x.c] [.one (Ao (Db kind l x).1),.one (vb (Db kind l x).2)]:=by
 refine Aj A0 false Tryz.func248 rfl Bs fun W=>?_
 conv=>whnf
 refine ⟨fun h5=>have h5:=eq_of_beq h5;?_,fun h5=>have h5:=beq_eq_false_iff_ne.1 h5;?_⟩<;>conv=>whnf
 ·repeat refine B9 ?_
  refine Av (Wd l x hl) rfl (Ae ?_)
  rw [Db,if_pos (.inl h5)]
  refine Ah A0 rfl rfl ?_
  exact C1
 ·refine ⟨fun h8=>have h8:=eq_of_beq h8;?_,fun h8=>have h8:=beq_eq_false_iff_ne.1 h8;?_⟩<;>conv=>whnf
  ·repeat refine B9 ?_
   refine Av (Wd l x hl) rfl (Ae ?_)
   rw [Db,if_pos (.inr h8)]
   refine Ah A0 rfl rfl ?_
   exact C1
  ·repeat refine B9 ?_
   refine ⟨fun h6=>have h6:=eq_of_beq h6;?_,fun h6=>have h6:=beq_eq_false_iff_ne.1 h6;?_⟩<;>conv=>whnf
   ·first|(refine Ak 6 rfl [0,1,3,4,2,5,6,7,8] A5 (Ae ?_))
    refine Av (Md l x Ad) rfl (Ae ?_)
    refine Ai (U3 l x Ad) rfl (Ae ?_)
    rw [h6,A1k]
    refine Ah A0 rfl rfl ?_
    exact C1
   ·refine Av (Ex l Ad) rfl (Ae ?_)
    rw [Tf h5 h8 h6]
    refine Ah A0 rfl rfl ?_
    exact C1
theorem O1 {a b:Aa}(h:b.op≠a.op):(!Bn a b)=true:=by simp only [Bn,Bool.not_eq_true',decide_eq_false_iff_not];omega
theorem O2 {a b:Aa}(h:b.epoch≠a.epoch):(!Bn a b)=true:=by simp only [Bn,Bool.not_eq_true',decide_eq_false_iff_not];omega
theorem O3 {a b:Aa}(h:b.key≠a.key):(!Bn a b)=true:=by simp only [Bn,Bool.not_eq_true',decide_eq_false_iff_not];omega
theorem Si {a b:Aa}(h1:b.op=a.op)(h2:b.epoch=a.epoch)(h3:b.key=a.key):(!Bn a b)=false:=by simp only [Bn,Bool.not_eq_false',decide_eq_true_eq];omega
set_option maxHeartbeats 4000000 in
theorem Xu (kind:Int)(l:List Aa)(x:Aa)(hl:l.length≤16000000):Aq Tryz.prog 233 [.one (vi kind),.one (Ao l),.agg x.c] [.one (Ao (Db kind l x).1),.one (vb (Db kind l x).2)]:=by
 refine Aj A0 false Tryz.func233 rfl Bs fun W=>?_
 conv=>whnf
 refine Bm A0 rfl rfl rfl rfl rfl rfl rfl rfl rfl rfl rfl (Ao l) (B1) (fun _=>Fa l) Ad (Ae ?_)
 refine ⟨fun h6=>have h6:=eq_of_beq h6;?_,fun h6=>have h6:=beq_eq_false_iff_ne.1 h6;?_⟩<;>conv=>whnf
 ·refine Ai (Ui l x Ad) rfl (Ae ?_)
  refine ⟨fun hc=>?_,fun hc=>?_⟩<;>conv=>whnf
  ·rw [h6,A1k,Du,if_pos hc,hc]
   refine Ah A0 rfl rfl ?_
   exact C1
  ·refine Av (Iu l x Ad) rfl (Ae ?_)
   rw [h6,A1k,hc]
   refine Ah A0 rfl rfl ?_
   exact C1
 ·refine ⟨fun h5=>have h5:=eq_of_beq h5;?_,fun h5=>have h5:=beq_eq_false_iff_ne.1 h5;?_⟩<;>conv=>whnf
  ·repeat refine B9 ?_
   refine Ai (Uj l x.op x.epoch x.key Ad) rfl (Ae ?_)
   refine ⟨fun h1=>?_,fun h1=>?_⟩<;>conv=>whnf
   ·repeat refine B9 ?_
    refine ⟨fun h2=>?_,fun h2=>?_⟩<;>conv=>whnf
    ·repeat refine B9 ?_
     rw [Db,if_pos Ad,Ih,if_pos ⟨h1,of_decide_eq_true h2⟩]
     refine Ah A0 rfl rfl ?_
     exact C1
    ·repeat refine B9 ?_
     refine Gk 3 (Ao []) rfl Do ?_
     refine B6 A0 false [48] (fun k:Nat=>[(12,.c (vi k))]) (fun k=>[⟨0,[.c (vi x.op),.c (vi x.epoch),.c (vi x.key),.c (vi x.val)]⟩]) (fun k=>[⟨3,Ao ((l.take k).filter (fun y=>!Bn x y))⟩])
      (fun k=>k≤l.length) (fun k=>l.length-k) 0 (Nat.zero_le _) ⟨by first|rfl|simp [Cr,ren2,ren1,ren0],trivial⟩ Cp ⟨by first|rfl|exact (congrArg (fun l=>Cb _ _ l) (List.append_nil _)).symm|(show (_:Ab)=_;simp)|simp,trivial⟩ Cc A5 (fun k hk=>?_)
     conv=>whnf
     refine F2 (fun h=>?_) fun h=>?_<;>conv=>whnf
     ·have h:k<l.length:=by omega
      have hs:=Dv (fun y=>!Bn x y) l k h
      have hb:=Dn (fun y=>!Bn x y) l k
      first|(refine Ak 16 rfl [0,1,2,3,4,5,6,7,8,9,10,11,12,13,14,15,16,17,18,19,20,21,22,23,24,25,26,27] A5 (Ae ?_))
      (repeat refine An ?_)
      refine ⟨fun n1=>have n1:=bne_iff_ne.1 n1;?_,fun n1=>have n1:=bne_eq_false_iff_eq.1 n1;?_⟩<;>conv=>whnf
      ·rw [Int.toNat_natCast] at n1
       repeat refine B9 ?_
       (repeat refine An ?_)
       refine Bm A0 rfl rfl rfl rfl rfl rfl rfl rfl rfl rfl rfl (Ao ((l.take k).filter (fun y=>!Bn x y)++[l.getD k default])) (Bh rfl) Ef Ad (Ae ?_)
       (repeat refine An ?_)
       refine At [(3,5)] (k+1) Ad Ad ⟨rfl,trivial⟩ ⟨congrArg Ao (by rw [hs,if_pos (O1 n1)]),trivial⟩ Cp A5 Cc A5
      ·rw [Int.toNat_natCast] at n1
       repeat refine B9 ?_
       (repeat refine An ?_)
       refine ⟨fun n2=>have n2:=bne_iff_ne.1 n2;?_,fun n2=>have n2:=bne_eq_false_iff_eq.1 n2;?_⟩<;>conv=>whnf
       ·rw [Int.toNat_natCast] at n2
        repeat refine B9 ?_
        (repeat refine An ?_)
        refine Bm A0 rfl rfl rfl rfl rfl rfl rfl rfl rfl rfl rfl (Ao ((l.take k).filter (fun y=>!Bn x y)++[l.getD k default])) (Bh rfl) Ef Ad (Ae ?_)
        (repeat refine An ?_)
        refine At [(3,5)] (k+1) Ad Ad ⟨rfl,trivial⟩ ⟨congrArg Ao (by rw [hs,if_pos (O2 n2)]),trivial⟩ Cp A5 Cc A5
       ·rw [Int.toNat_natCast] at n2
        repeat refine B9 ?_
        (repeat refine An ?_)
        refine ⟨fun n3=>have n3:=bne_iff_ne.1 n3;?_,fun n3=>have n3:=bne_eq_false_iff_eq.1 n3;?_⟩<;>conv=>whnf
        ·rw [Int.toNat_natCast] at n3
         repeat refine B9 ?_
         (repeat refine An ?_)
         refine Bm A0 rfl rfl rfl rfl rfl rfl rfl rfl rfl rfl rfl (Ao ((l.take k).filter (fun y=>!Bn x y)++[l.getD k default])) (Bh rfl) Ef Ad (Ae ?_)
         (repeat refine An ?_)
         refine At [(3,5)] (k+1) Ad Ad ⟨rfl,trivial⟩ ⟨congrArg Ao (by rw [hs,if_pos (O3 n3)]),trivial⟩ Cp A5 Cc A5
        ·rw [Int.toNat_natCast] at n3
         repeat refine B9 ?_
         (repeat refine An ?_)
         refine At [] (k+1) Ad Ad ⟨rfl,trivial⟩ ⟨congrArg Ao (by rw [hs,if_neg (by rw [Si n1 n2 n3];decide),List.append_nil]),trivial⟩ Cp A5 Cc A5
     ·repeat refine B9 ?_
      obtain rfl:k=l.length:=by omega
      refine Av (Iu ((l.take l.length).filter fun y=>!Bn x y) x (by have:=List.length_filter_le (fun y=>!Bn x y) (l.take l.length);rw [List.take_length] at *;omega)) rfl (Ae ?_)
      rw [Db,if_pos Ad,Ih,if_neg (fun p=>absurd p.2 (of_decide_eq_false h2))]
      refine Ah A0 rfl rfl ?_
      rw [List.take_length]
      exact C1
   ·repeat refine B9 ?_
    refine Gk 3 (Ao []) rfl Do ?_
    refine B6 A0 false [48] (fun k:Nat=>[(12,.c (vi k))]) (fun k=>[⟨0,[.c (vi x.op),.c (vi x.epoch),.c (vi x.key),.c (vi x.val)]⟩]) (fun k=>[⟨3,Ao ((l.take k).filter (fun y=>!Bn x y))⟩])
     (fun k=>k≤l.length) (fun k=>l.length-k) 0 (Nat.zero_le _) ⟨by first|rfl|simp [Cr,ren2,ren1,ren0],trivial⟩ Cp ⟨by first|rfl|exact (congrArg (fun l=>Cb _ _ l) (List.append_nil _)).symm|(show (_:Ab)=_;simp)|simp,trivial⟩ Cc A5 (fun k hk=>?_)
    conv=>whnf
    refine F2 (fun h=>?_) fun h=>?_<;>conv=>whnf
    ·have h:k<l.length:=by omega
     have hs:=Dv (fun y=>!Bn x y) l k h
     have hb:=Dn (fun y=>!Bn x y) l k
     first|(refine Ak 16 rfl [0,1,2,3,4,5,6,7,8,9,10,11,12,13,14,15,16,17,18,19,20,21,22,23,24,25,26,27] A5 (Ae ?_))
     (repeat refine An ?_)
     refine ⟨fun n1=>have n1:=bne_iff_ne.1 n1;?_,fun n1=>have n1:=bne_eq_false_iff_eq.1 n1;?_⟩<;>conv=>whnf
     ·rw [Int.toNat_natCast] at n1
      repeat refine B9 ?_
      (repeat refine An ?_)
      refine Bm A0 rfl rfl rfl rfl rfl rfl rfl rfl rfl rfl rfl (Ao ((l.take k).filter (fun y=>!Bn x y)++[l.getD k default])) (Bh rfl) Ef Ad (Ae ?_)
      (repeat refine An ?_)
      refine At [(3,5)] (k+1) Ad Ad ⟨rfl,trivial⟩ ⟨congrArg Ao (by rw [hs,if_pos (O1 n1)]),trivial⟩ Cp A5 Cc A5
     ·rw [Int.toNat_natCast] at n1
      repeat refine B9 ?_
      (repeat refine An ?_)
      refine ⟨fun n2=>have n2:=bne_iff_ne.1 n2;?_,fun n2=>have n2:=bne_eq_false_iff_eq.1 n2;?_⟩<;>conv=>whnf
      ·rw [Int.toNat_natCast] at n2
       repeat refine B9 ?_
       (repeat refine An ?_)
       refine Bm A0 rfl rfl rfl rfl rfl rfl rfl rfl rfl rfl rfl (Ao ((l.take k).filter (fun y=>!Bn x y)++[l.getD k default])) (Bh rfl) Ef Ad (Ae ?_)
       (repeat refine An ?_)
       refine At [(3,5)] (k+1) Ad Ad ⟨rfl,trivial⟩ ⟨congrArg Ao (by rw [hs,if_pos (O2 n2)]),trivial⟩ Cp A5 Cc A5
      ·rw [Int.toNat_natCast] at n2
       repeat refine B9 ?_
       (repeat refine An ?_)
       refine ⟨fun n3=>have n3:=bne_iff_ne.1 n3;?_,fun n3=>have n3:=bne_eq_false_iff_eq.1 n3;?_⟩<;>conv=>whnf
       ·rw [Int.toNat_natCast] at n3
        repeat refine B9 ?_
        (repeat refine An ?_)
        refine Bm A0 rfl rfl rfl rfl rfl rfl rfl rfl rfl rfl rfl (Ao ((l.take k).filter (fun y=>!Bn x y)++[l.getD k default])) (Bh rfl) Ef Ad (Ae ?_)
        (repeat refine An ?_)
        refine At [(3,5)] (k+1) Ad Ad ⟨rfl,trivial⟩ ⟨congrArg Ao (by rw [hs,if_pos (O3 n3)]),trivial⟩ Cp A5 Cc A5
       ·rw [Int.toNat_natCast] at n3
        repeat refine B9 ?_
        (repeat refine An ?_)
        refine At [] (k+1) Ad Ad ⟨rfl,trivial⟩ ⟨congrArg Ao (by rw [hs,if_neg (by rw [Si n1 n2 n3];decide),List.append_nil]),trivial⟩ Cp A5 Cc A5
    ·repeat refine B9 ?_
     obtain rfl:k=l.length:=by omega
     refine Av (Iu ((l.take l.length).filter fun y=>!Bn x y) x (by have:=List.length_filter_le (fun y=>!Bn x y) (l.take l.length);rw [List.take_length] at *;omega)) rfl (Ae ?_)
     rw [Db,if_pos Ad,Ih,if_neg (fun p=>by rw [p.1] at h1;cases h1)]
     refine Ah A0 rfl rfl ?_
     rw [List.take_length]
     exact C1
  ·refine ⟨fun h8=>have h8:=eq_of_beq h8;?_,fun h8=>have h8:=beq_eq_false_iff_ne.1 h8;?_⟩<;>conv=>whnf
   ·repeat refine B9 ?_
    refine Ai (Uj l x.op x.epoch x.key Ad) rfl (Ae ?_)
    refine ⟨fun h1=>?_,fun h1=>?_⟩<;>conv=>whnf
    ·repeat refine B9 ?_
     refine ⟨fun h2=>?_,fun h2=>?_⟩<;>conv=>whnf
     ·repeat refine B9 ?_
      rw [Db,if_pos Ad,Ih,if_pos ⟨h1,of_decide_eq_true h2⟩]
      refine Ah A0 rfl rfl ?_
      exact C1
     ·repeat refine B9 ?_
      refine Gk 3 (Ao []) rfl Do ?_
      refine B6 A0 false [48] (fun k:Nat=>[(12,.c (vi k))]) (fun k=>[⟨0,[.c (vi x.op),.c (vi x.epoch),.c (vi x.key),.c (vi x.val)]⟩]) (fun k=>[⟨3,Ao ((l.take k).filter (fun y=>!Bn x y))⟩])
       (fun k=>k≤l.length) (fun k=>l.length-k) 0 (Nat.zero_le _) ⟨by first|rfl|simp [Cr,ren2,ren1,ren0],trivial⟩ Cp ⟨by first|rfl|exact (congrArg (fun l=>Cb _ _ l) (List.append_nil _)).symm|(show (_:Ab)=_;simp)|simp,trivial⟩ Cc A5 (fun k hk=>?_)
      conv=>whnf
      refine F2 (fun h=>?_) fun h=>?_<;>conv=>whnf
      ·have h:k<l.length:=by omega
       have hs:=Dv (fun y=>!Bn x y) l k h
       have hb:=Dn (fun y=>!Bn x y) l k
       first|(refine Ak 16 rfl [0,1,2,3,4,5,6,7,8,9,10,11,12,13,14,15,16,17,18,19,20,21,22,23,24,25,26,27] A5 (Ae ?_))
       (repeat refine An ?_)
       refine ⟨fun n1=>have n1:=bne_iff_ne.1 n1;?_,fun n1=>have n1:=bne_eq_false_iff_eq.1 n1;?_⟩<;>conv=>whnf
       ·rw [Int.toNat_natCast] at n1
        repeat refine B9 ?_
        (repeat refine An ?_)
        refine Bm A0 rfl rfl rfl rfl rfl rfl rfl rfl rfl rfl rfl (Ao ((l.take k).filter (fun y=>!Bn x y)++[l.getD k default])) (Bh rfl) Ef Ad (Ae ?_)
        (repeat refine An ?_)
        refine At [(3,5)] (k+1) Ad Ad ⟨rfl,trivial⟩ ⟨congrArg Ao (by rw [hs,if_pos (O1 n1)]),trivial⟩ Cp A5 Cc A5
       ·rw [Int.toNat_natCast] at n1
        repeat refine B9 ?_
        (repeat refine An ?_)
        refine ⟨fun n2=>have n2:=bne_iff_ne.1 n2;?_,fun n2=>have n2:=bne_eq_false_iff_eq.1 n2;?_⟩<;>conv=>whnf
        ·rw [Int.toNat_natCast] at n2
         repeat refine B9 ?_
         (repeat refine An ?_)
         refine Bm A0 rfl rfl rfl rfl rfl rfl rfl rfl rfl rfl rfl (Ao ((l.take k).filter (fun y=>!Bn x y)++[l.getD k default])) (Bh rfl) Ef Ad (Ae ?_)
         (repeat refine An ?_)
         refine At [(3,5)] (k+1) Ad Ad ⟨rfl,trivial⟩ ⟨congrArg Ao (by rw [hs,if_pos (O2 n2)]),trivial⟩ Cp A5 Cc A5
        ·rw [Int.toNat_natCast] at n2
         repeat refine B9 ?_
         (repeat refine An ?_)
         refine ⟨fun n3=>have n3:=bne_iff_ne.1 n3;?_,fun n3=>have n3:=bne_eq_false_iff_eq.1 n3;?_⟩<;>conv=>whnf
         ·rw [Int.toNat_natCast] at n3
          repeat refine B9 ?_
          (repeat refine An ?_)
          refine Bm A0 rfl rfl rfl rfl rfl rfl rfl rfl rfl rfl rfl (Ao ((l.take k).filter (fun y=>!Bn x y)++[l.getD k default])) (Bh rfl) Ef Ad (Ae ?_)
          (repeat refine An ?_)
          refine At [(3,5)] (k+1) Ad Ad ⟨rfl,trivial⟩ ⟨congrArg Ao (by rw [hs,if_pos (O3 n3)]),trivial⟩ Cp A5 Cc A5
         ·rw [Int.toNat_natCast] at n3
          repeat refine B9 ?_
          (repeat refine An ?_)
          refine At [] (k+1) Ad Ad ⟨rfl,trivial⟩ ⟨congrArg Ao (by rw [hs,if_neg (by rw [Si n1 n2 n3];decide),List.append_nil]),trivial⟩ Cp A5 Cc A5
      ·repeat refine B9 ?_
       obtain rfl:k=l.length:=by omega
       refine Av (Iu ((l.take l.length).filter fun y=>!Bn x y) x (by have:=List.length_filter_le (fun y=>!Bn x y) (l.take l.length);rw [List.take_length] at *;omega)) rfl (Ae ?_)
       rw [Db,if_pos Ad,Ih,if_neg (fun p=>absurd p.2 (of_decide_eq_false h2))]
       refine Ah A0 rfl rfl ?_
       rw [List.take_length]
       exact C1
    ·repeat refine B9 ?_
     refine Gk 3 (Ao []) rfl Do ?_
     refine B6 A0 false [48] (fun k:Nat=>[(12,.c (vi k))]) (fun k=>[⟨0,[.c (vi x.op),.c (vi x.epoch),.c (vi x.key),.c (vi x.val)]⟩]) (fun k=>[⟨3,Ao ((l.take k).filter (fun y=>!Bn x y))⟩])
      (fun k=>k≤l.length) (fun k=>l.length-k) 0 (Nat.zero_le _) ⟨by first|rfl|simp [Cr,ren2,ren1,ren0],trivial⟩ Cp ⟨by first|rfl|exact (congrArg (fun l=>Cb _ _ l) (List.append_nil _)).symm|(show (_:Ab)=_;simp)|simp,trivial⟩ Cc A5 (fun k hk=>?_)
     conv=>whnf
     refine F2 (fun h=>?_) fun h=>?_<;>conv=>whnf
     ·have h:k<l.length:=by omega
      have hs:=Dv (fun y=>!Bn x y) l k h
      have hb:=Dn (fun y=>!Bn x y) l k
      first|(refine Ak 16 rfl [0,1,2,3,4,5,6,7,8,9,10,11,12,13,14,15,16,17,18,19,20,21,22,23,24,25,26,27] A5 (Ae ?_))
      (repeat refine An ?_)
      refine ⟨fun n1=>have n1:=bne_iff_ne.1 n1;?_,fun n1=>have n1:=bne_eq_false_iff_eq.1 n1;?_⟩<;>conv=>whnf
      ·rw [Int.toNat_natCast] at n1
       repeat refine B9 ?_
       (repeat refine An ?_)
       refine Bm A0 rfl rfl rfl rfl rfl rfl rfl rfl rfl rfl rfl (Ao ((l.take k).filter (fun y=>!Bn x y)++[l.getD k default])) (Bh rfl) Ef Ad (Ae ?_)
       (repeat refine An ?_)
       refine At [(3,5)] (k+1) Ad Ad ⟨rfl,trivial⟩ ⟨congrArg Ao (by rw [hs,if_pos (O1 n1)]),trivial⟩ Cp A5 Cc A5
      ·rw [Int.toNat_natCast] at n1
       repeat refine B9 ?_
       (repeat refine An ?_)
       refine ⟨fun n2=>have n2:=bne_iff_ne.1 n2;?_,fun n2=>have n2:=bne_eq_false_iff_eq.1 n2;?_⟩<;>conv=>whnf
       ·rw [Int.toNat_natCast] at n2
        repeat refine B9 ?_
        (repeat refine An ?_)
        refine Bm A0 rfl rfl rfl rfl rfl rfl rfl rfl rfl rfl rfl (Ao ((l.take k).filter (fun y=>!Bn x y)++[l.getD k default])) (Bh rfl) Ef Ad (Ae ?_)
        (repeat refine An ?_)
        refine At [(3,5)] (k+1) Ad Ad ⟨rfl,trivial⟩ ⟨congrArg Ao (by rw [hs,if_pos (O2 n2)]),trivial⟩ Cp A5 Cc A5
       ·rw [Int.toNat_natCast] at n2
        repeat refine B9 ?_
        (repeat refine An ?_)
        refine ⟨fun n3=>have n3:=bne_iff_ne.1 n3;?_,fun n3=>have n3:=bne_eq_false_iff_eq.1 n3;?_⟩<;>conv=>whnf
        ·rw [Int.toNat_natCast] at n3
         repeat refine B9 ?_
         (repeat refine An ?_)
         refine Bm A0 rfl rfl rfl rfl rfl rfl rfl rfl rfl rfl rfl (Ao ((l.take k).filter (fun y=>!Bn x y)++[l.getD k default])) (Bh rfl) Ef Ad (Ae ?_)
         (repeat refine An ?_)
         refine At [(3,5)] (k+1) Ad Ad ⟨rfl,trivial⟩ ⟨congrArg Ao (by rw [hs,if_pos (O3 n3)]),trivial⟩ Cp A5 Cc A5
        ·rw [Int.toNat_natCast] at n3
         repeat refine B9 ?_
         (repeat refine An ?_)
         refine At [] (k+1) Ad Ad ⟨rfl,trivial⟩ ⟨congrArg Ao (by rw [hs,if_neg (by rw [Si n1 n2 n3];decide),List.append_nil]),trivial⟩ Cp A5 Cc A5
     ·repeat refine B9 ?_
      obtain rfl:k=l.length:=by omega
      refine Av (Iu ((l.take l.length).filter fun y=>!Bn x y) x (by have:=List.length_filter_le (fun y=>!Bn x y) (l.take l.length);rw [List.take_length] at *;omega)) rfl (Ae ?_)
      rw [Db,if_pos Ad,Ih,if_neg (fun p=>by rw [p.1] at h1;cases h1)]
      refine Ah A0 rfl rfl ?_
      rw [List.take_length]
      exact C1
   ·repeat refine B9 ?_
    rw [Tf h5 h8 h6]
    refine Ah A0 rfl rfl ?_
    exact C1
end Go.Proofs.YtlbmkgkmbjadcaaGreat
