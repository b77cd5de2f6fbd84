/- Part 25 of the proof that each of the laws FnExactRunScriptOf, FnExactSpreadResult returns true for every input. No conditions. -/
import Derived.Test.YtlbmkgkmbjadcaaGreatP21
import Derived.Test.YtlbmkgkmbjadcaaGreatP24
import Derived.Test.YtlbmkgkmbjadcaaGreatP20
import Derived.Test.YtlbmkgkmbjadcaaGreatP12

set_option linter.unusedSimpArgs false
set_option linter.unusedVariables false
set_option maxRecDepth 100000
namespace Go.Proofs.YtlbmkgkmbjadcaaGreat
open Go.Sx
theorem Q4 {g:Ar}{cs:List Aa}{r:A3}(h:¬ Kr g r):G1 g cs r=(cs,[],false):=if_neg h
theorem Zz {g:Ar}{cs:List Aa}{r:A3}(h:Kr g r)(h1:(Bt (Al g r.op) r.key r.val).2.2=false)(h2:(Al g r.op).kind≠8):G1 g cs r=(cs,[],true):=by
 unfold G1
 rw [if_pos h,if_pos ⟨h1,h2⟩]
theorem O6 {g:Ar}{cs:List Aa}{r:A3}(h:Kr g r)(h1:¬ ((Bt (Al g r.op) r.key r.val).2.2=false∧(Al g r.op).kind≠8))(h2:(Db (Al g r.op).kind cs (Et r)).2=false):G1 g cs r=((Db (Al g r.op).kind cs (Et r)).1,[],true):=by
 unfold G1
 rw [if_pos h,if_neg h1,if_pos h2]
theorem Jg {g:Ar}{cs:List Aa}{r:A3}(h:Kr g r)(h1:¬ ((Bt (Al g r.op) r.key r.val).2.2=false∧(Al g r.op).kind≠8))(h2:(Db (Al g r.op).kind cs (Et r)).2=true):G1 g cs r=((Db (Al g r.op).kind cs (Et r)).1,Ob g r,true):=by
 unfold G1
 rw [if_pos h,if_neg h1,if_neg (by rw [h2];decide)]
def Mv (r:A3) (s:Dq) (k v:Int) (o:Int):A3:=⟨o,s,k,v⟩
theorem Vv {g:Ar}{r:A3}(h7:(Al g r.op).kind=7)(h:(C8 r.stamp).2=false):Ob g r=[]:=by
 unfold Ob
 rw [if_pos ⟨h7,h⟩]
theorem A0m {g:Ar}{r:A3}(h7:(Al g r.op).kind=7)(h:(C8 r.stamp).2=true):Ob g r=(Al g r.op).outs.map (Mv r (C8 r.stamp).1 (Bt (Al g r.op) r.key r.val).1 (Bt (Al g r.op) r.key r.val).2.1):=by
 unfold Ob
 rw [if_neg (fun p=>by rw [p.2] at h;cases h),if_pos h7]
 rfl
theorem Rn {g:Ar}{r:A3}(h7:(Al g r.op).kind≠7):Ob g r=(Al g r.op).outs.map (Mv r r.stamp (Bt (Al g r.op) r.key r.val).1 (Bt (Al g r.op) r.key r.val).2.1):=by
 unfold Ob
 rw [if_neg (fun p=>h7 p.1),if_neg h7]
 rfl
theorem Yj {α β:Type} [Inhabited α] (f:α→β){l:List α}{k:Nat}(hk:k<l.length):(l.take (k+1)).map f=(l.take k).map f++[f (l.getD k default)]:=by
 rw [List.take_succ_eq_append_getElem hk,List.map_append]
 simp [List.getD,hk]
theorem V2 {g:Ar}{op:Int}(hg:g.w≤16777216)(hk:op.toNat<g.nodes.length):(Al g op).w≤16777216∧(Al g op).outs.length≤16777216:=by
 have:=Bz Au.w g.nodes op.toNat hk
 simp only [Ar.w,wS] at hg
 simp only [Al]
 have e:(g.nodes.getD op.toNat default).w=(g.nodes.getD op.toNat default).outs.length:=rfl
 omega
abbrev Y4 (g:Ar) (r:A3) (s:Dq) (k:Nat):List A3:=((Al g r.op).outs.take k).map (Mv r s (Bt (Al g r.op) r.key r.val).1 (Bt (Al g r.op) r.key r.val).2.1)
theorem M7 {g:Ar}{r:A3}{s:Dq}{k:Nat}(h:k<(Al g r.op).outs.length):Y4 g r s (k+1)=Y4 g r s k++[Mv r s (Bt (Al g r.op) r.key r.val).1 (Bt (Al g r.op) r.key r.val).2.1 ((Al g r.op).outs.getD k default)]:=Yj _ h
theorem Ox {g:Ar}{r:A3}{s:Dq}{k:Nat}:(Y4 g r s k).length≤k:=by
 simp only [Y4,List.length_map,List.length_take]
 omega
theorem Ov {g:Ar}{r:A3}{s:Dq}{k:Nat}(h:(Al g r.op).outs.length≤k):Y4 g r s k=(Al g r.op).outs.map (Mv r s (Bt (Al g r.op) r.key r.val).1 (Bt (Al g r.op) r.key r.val).2.1):=by
 rw [Y4,List.take_of_length_le h]
set_option maxHeartbeats 4000000 in
theorem A5o (g:Ar)(cs:List Aa)(r:A3)(hg:g.w≤16777216)(hl:cs.length≤16000000):Aq Tryz.prog 235 [.agg g.c,.one (Ao cs),.agg r.c] [.one (Ao (G1 g cs r).1),.one (A9 (G1 g cs r).2.1),.one (vb (G1 g cs r).2.2)]:=by
 refine Aj A0 false Tryz.func235 rfl Bs fun W=>?_
 conv=>whnf
 refine Ai (Ip g Ad) rfl (Ae ?_)
 refine ⟨fun h1=>?_,fun h1=>?_⟩<;>conv=>whnf
 ·have h1:Fi g=false:=by simpa using h1
  repeat refine B9 ?_
  refine Av (Ex cs Ad) rfl (Ae ?_)
  rw [Q4 (fun p=>absurd p.1 (of_decide_eq_false h1))]
  refine Ah A0 rfl rfl ?_
  exact C1
 have h1:H1 g:=of_decide_eq_true (show Fi g=true by simpa using h1)
 repeat refine B9 ?_
 refine Ai (Ht r) rfl (Ae ?_)
 repeat refine B9 ?_
 refine ⟨fun h2=>?_,fun h2=>?_⟩<;>conv=>whnf
 ·have h2:F8 r=false:=by simpa using h2
  repeat refine B9 ?_
  refine Av (Ex cs Ad) rfl (Ae ?_)
  rw [Q4 (fun p=>absurd p.2.1 (of_decide_eq_false h2))]
  refine Ah A0 rfl rfl ?_
  exact C1
 have h2:Gx r:=of_decide_eq_true (show F8 r=true by simpa using h2)
 repeat refine B9 ?_
 refine Ai (Nq g r.op hg) rfl (Ae ?_)
 repeat refine B9 ?_
 refine ⟨fun h3=>?_,fun h3=>?_⟩<;>conv=>whnf
 ·have h3:Eg r.op 0 (g.nodes.length-1)=false:=by simpa using h3
  have h4:=Go.Sx.Aw.1 h3
  repeat refine B9 ?_
  refine Av (Ex cs Ad) rfl (Ae ?_)
  rw [Q4 (fun p=>h4 ⟨h2.1.1,by have:=p.2.2;omega⟩)]
  refine Ah A0 rfl rfl ?_
  exact C1
 have h3:Eg r.op 0 (g.nodes.length-1)=true:=by simpa using h3
 have h4:=Go.Sx.Am.1 h3
 have hP:Kr g r:=⟨h1,h2,by omega⟩
 have hk:r.op.toNat<g.nodes.length:=by omega
 obtain ⟨hnw,hol⟩:=V2 hg hk
 have hoq:(g.nodes.getD r.op.toNat default).outs.length=(Al g r.op).outs.length:=rfl
 repeat refine B9 ?_
 (repeat refine An ?_)
 refine Ai (A26 (Al g r.op) r.key r.val hnw) rfl (Ae ?_)
 refine ⟨fun h5=>?_,fun h5=>?_⟩<;>conv=>whnf
 ·have h5:(Bt (Al g r.op) r.key r.val).2.2=false:=by simpa using h5
  repeat refine B9 ?_
  refine ⟨fun h8=>have h8:=bne_iff_ne.1 h8;?_,fun h8=>have h8:=bne_eq_false_iff_eq.1 h8;?_⟩<;>conv=>whnf
  ·have h8:(Al g r.op).kind≠8:=h8
   repeat refine B9 ?_
   refine Av (Ex cs Ad) rfl (Ae ?_)
   rw [Zz hP h5 h8]
   refine Ah A0 rfl rfl ?_
   exact C1
  ·have h8:(Al g r.op).kind=8:=h8
   repeat refine B9 ?_
   have hnb:¬ ((Bt (Al g r.op) r.key r.val).2.2=false∧(Al g r.op).kind≠8):=(fun p=>p.2 h8)
   refine Av (Wo (Al g r.op).kind cs (Et r) hl) rfl (Ae ?_)
   refine ⟨fun h6=>?_,fun h6=>?_⟩<;>conv=>whnf
   ·have h6:(Db (Al g r.op).kind cs (Et r)).2=false:=by simpa using h6
    repeat refine B9 ?_
    rw [O6 hP hnb h6]
    refine Ah A0 rfl rfl ?_
    exact C1
   have h6:(Db (Al g r.op).kind cs (Et r)).2=true:=by simpa using h6
   repeat refine B9 ?_
   refine ⟨fun h7=>have h7:=eq_of_beq h7;?_,fun h7=>have h7:=beq_eq_false_iff_ne.1 h7;?_⟩<;>conv=>whnf
   ·have h7:(Al g r.op).kind=7:=h7
    refine Ai (Ns r.stamp) rfl (Ae ?_)
    cases hnt:(C8 r.stamp).2
    ·refine B6 A0 false [] (fun k:Nat=>[(95,.c (vi k))]) (fun k=>[]) (fun k=>[⟨3,Ao (Db (Al g r.op).kind cs (Et r)).1⟩])
      (fun k=>k≤(Al g r.op).outs.length) (fun k=>(Al g r.op).outs.length-k) 0 (Nat.zero_le _) ⟨by first|rfl|simp [Cr,ren2,ren1,ren0],trivial⟩ trivial ⟨by first|rfl|exact (congrArg (fun l=>Cb _ _ l) (List.append_nil _)).symm|(show (_:Ab)=_;simp)|simp,trivial⟩ Cc A5 (fun k hk=>?_)
     conv=>whnf
     conv=>whnf
     refine F2 (fun h=>?_) fun h=>?_<;>conv=>whnf
     ·have h:k<(Al g r.op).outs.length:=by omega
      repeat refine B9 ?_
      (repeat refine An ?_)
      refine At [] (k+1) Ad Ad ⟨rfl,trivial⟩ ⟨rfl,trivial⟩ trivial A5 Cc A5
     ·rw [Jg hP hnb h6,Vv h7 hnt]
      refine Ah A0 rfl rfl ?_
      exact C1
    ·refine Wv 16 5 (fun i=>A3.c (([]:List A3).getD i default)) rfl ?_
     refine B6 A0 false [] (fun k:Nat=>[(95,.c (vi k))]) (fun k=>[⟨4,[.c (vi ((C8 r.stamp).1).epoch),.c (vi ((C8 r.stamp).1).turn)]⟩]) (fun k=>[⟨5,A9 (Y4 g r ((C8 r.stamp).1) k)⟩,⟨3,Ao (Db (Al g r.op).kind cs (Et r)).1⟩])
      (fun k=>k≤(Al g r.op).outs.length) (fun k=>(Al g r.op).outs.length-k) 0 (Nat.zero_le _) ⟨by first|rfl|simp [Cr,ren2,ren1,ren0],trivial⟩ Cp ⟨by first|rfl|exact (congrArg (fun l=>Cb _ _ l) (List.append_nil _)).symm|(show (_:Ab)=_;simp)|simp,by first|rfl|exact (congrArg (fun l=>Cb _ _ l) (List.append_nil _)).symm|(show (_:Ab)=_;simp)|simp,trivial⟩ Cc A5 (fun k hk=>?_)
     conv=>whnf
     conv=>whnf
     refine F2 (fun h=>?_) fun h=>?_<;>conv=>whnf
     ·have h:k<(Al g r.op).outs.length:=by omega
      have hem:=Ox (g:=g) (r:=r) (s:=(C8 r.stamp).1) (k:=k)
      repeat refine B9 ?_
      (repeat refine An ?_)
      refine Bm A0 rfl rfl rfl rfl rfl rfl rfl rfl rfl rfl rfl (A9 (Y4 g r ((C8 r.stamp).1) k++[Mv r ((C8 r.stamp).1) (Bt (Al g r.op) r.key r.val).1 (Bt (Al g r.op) r.key r.val).2.1 ((Al g r.op).outs.getD k default)])) (Bh rfl) Ef Ad (Ae ?_)
      (repeat refine An ?_)
      refine At [(5,7)] (k+1) Ad Ad ⟨rfl,trivial⟩ ⟨congrArg A9 (M7 h).symm,rfl,trivial⟩ Cp A5 Cc A5
     ·rw [Jg hP hnb h6,A0m h7 hnt,Ov Ad]
      refine Ah A0 rfl rfl ?_
      exact C1
   ·have h7:(Al g r.op).kind≠7:=h7
    refine Wv 16 5 (fun i=>A3.c (([]:List A3).getD i default)) rfl ?_
    refine B6 A0 false [] (fun k:Nat=>[(95,.c (vi k))]) (fun k=>[⟨4,[.c (vi (r.stamp).epoch),.c (vi (r.stamp).turn)]⟩]) (fun k=>[⟨5,A9 (Y4 g r (r.stamp) k)⟩,⟨3,Ao (Db (Al g r.op).kind cs (Et r)).1⟩])
     (fun k=>k≤(Al g r.op).outs.length) (fun k=>(Al g r.op).outs.length-k) 0 (Nat.zero_le _) ⟨by first|rfl|simp [Cr,ren2,ren1,ren0],trivial⟩ Cp ⟨by first|rfl|exact (congrArg (fun l=>Cb _ _ l) (List.append_nil _)).symm|(show (_:Ab)=_;simp)|simp,by first|rfl|exact (congrArg (fun l=>Cb _ _ l) (List.append_nil _)).symm|(show (_:Ab)=_;simp)|simp,trivial⟩ Cc A5 (fun k hk=>?_)
    conv=>whnf
    conv=>whnf
    refine F2 (fun h=>?_) fun h=>?_<;>conv=>whnf
    ·have h:k<(Al g r.op).outs.length:=by omega
     have hem:=Ox (g:=g) (r:=r) (s:=r.stamp) (k:=k)
     repeat refine B9 ?_
     (repeat refine An ?_)
     refine Bm A0 rfl rfl rfl rfl rfl rfl rfl rfl rfl rfl rfl (A9 (Y4 g r (r.stamp) k++[Mv r (r.stamp) (Bt (Al g r.op) r.key r.val).1 (Bt (Al g r.op) r.key r.val).2.1 ((Al g r.op).outs.getD k default)])) (Bh rfl) Ef Ad (Ae ?_)
     (repeat refine An ?_)
     refine At [(5,7)] (k+1) Ad Ad ⟨rfl,trivial⟩ ⟨congrArg A9 (M7 h).symm,rfl,trivial⟩ Cp A5 Cc A5
    ·rw [Jg hP hnb h6,Rn h7,Ov Ad]
     refine Ah A0 rfl rfl ?_
     exact C1
 ·have h5:(Bt (Al g r.op) r.key r.val).2.2=true:=by simpa using h5
  repeat refine B9 ?_
  have hnb:¬ ((Bt (Al g r.op) r.key r.val).2.2=false∧(Al g r.op).kind≠8):=(fun p=>by rw [p.1] at h5;cases h5)
  refine Av (Wo (Al g r.op).kind cs (Et r) hl) rfl (Ae ?_)
  refine ⟨fun h6=>?_,fun h6=>?_⟩<;>conv=>whnf
  ·have h6:(Db (Al g r.op).kind cs (Et r)).2=false:=by simpa using h6
   repeat refine B9 ?_
   rw [O6 hP hnb h6]
   refine Ah A0 rfl rfl ?_
   exact C1
  have h6:(Db (Al g r.op).kind cs (Et r)).2=true:=by simpa using h6
  repeat refine B9 ?_
  refine ⟨fun h7=>have h7:=eq_of_beq h7;?_,fun h7=>have h7:=beq_eq_false_iff_ne.1 h7;?_⟩<;>conv=>whnf
  ·have h7:(Al g r.op).kind=7:=h7
   refine Ai (Ns r.stamp) rfl (Ae ?_)
   cases hnt:(C8 r.stamp).2
   ·refine B6 A0 false [] (fun k:Nat=>[(95,.c (vi k))]) (fun k=>[]) (fun k=>[⟨3,Ao (Db (Al g r.op).kind cs (Et r)).1⟩])
     (fun k=>k≤(Al g r.op).outs.length) (fun k=>(Al g r.op).outs.length-k) 0 (Nat.zero_le _) ⟨by first|rfl|simp [Cr,ren2,ren1,ren0],trivial⟩ trivial ⟨by first|rfl|exact (congrArg (fun l=>Cb _ _ l) (List.append_nil _)).symm|(show (_:Ab)=_;simp)|simp,trivial⟩ Cc A5 (fun k hk=>?_)
    conv=>whnf
    conv=>whnf
    refine F2 (fun h=>?_) fun h=>?_<;>conv=>whnf
    ·have h:k<(Al g r.op).outs.length:=by omega
     repeat refine B9 ?_
     (repeat refine An ?_)
     refine At [] (k+1) Ad Ad ⟨rfl,trivial⟩ ⟨rfl,trivial⟩ trivial A5 Cc A5
    ·rw [Jg hP hnb h6,Vv h7 hnt]
     refine Ah A0 rfl rfl ?_
     exact C1
   ·refine Wv 16 5 (fun i=>A3.c (([]:List A3).getD i default)) rfl ?_
    refine B6 A0 false [] (fun k:Nat=>[(95,.c (vi k))]) (fun k=>[⟨4,[.c (vi ((C8 r.stamp).1).epoch),.c (vi ((C8 r.stamp).1).turn)]⟩]) (fun k=>[⟨5,A9 (Y4 g r ((C8 r.stamp).1) k)⟩,⟨3,Ao (Db (Al g r.op).kind cs (Et r)).1⟩])
     (fun k=>k≤(Al g r.op).outs.length) (fun k=>(Al g r.op).outs.length-k) 0 (Nat.zero_le _) ⟨by first|rfl|simp [Cr,ren2,ren1,ren0],trivial⟩ Cp ⟨by first|rfl|exact (congrArg (fun l=>Cb _ _ l) (List.append_nil _)).symm|(show (_:Ab)=_;simp)|simp,by first|rfl|exact (congrArg (fun l=>Cb _ _ l) (List.append_nil _)).symm|(show (_:Ab)=_;simp)|simp,trivial⟩ Cc A5 (fun k hk=>?_)
    conv=>whnf
    conv=>whnf
    refine F2 (fun h=>?_) fun h=>?_<;>conv=>whnf
    ·have h:k<(Al g r.op).outs.length:=by omega
     have hem:=Ox (g:=g) (r:=r) (s:=(C8 r.stamp).1) (k:=k)
     repeat refine B9 ?_
     (repeat refine An ?_)
     refine Bm A0 rfl rfl rfl rfl rfl rfl rfl rfl rfl rfl rfl (A9 (Y4 g r ((C8 r.stamp).1) k++[Mv r ((C8 r.stamp).1) (Bt (Al g r.op) r.key r.val).1 (Bt (Al g r.op) r.key r.val).2.1 ((Al g r.op).outs.getD k default)])) (Bh rfl) Ef Ad (Ae ?_)
     (repeat refine An ?_)
     refine At [(5,7)] (k+1) Ad Ad ⟨rfl,trivial⟩ ⟨congrArg A9 (M7 h).symm,rfl,trivial⟩ Cp A5 Cc A5
    ·rw [Jg hP hnb h6,A0m h7 hnt,Ov Ad]
     refine Ah A0 rfl rfl ?_
     exact C1
  ·have h7:(Al g r.op).kind≠7:=h7
   refine Wv 16 5 (fun i=>A3.c (([]:List A3).getD i default)) rfl ?_
   refine B6 A0 false [] (fun k:Nat=>[(95,.c (vi k))]) (fun k=>[⟨4,[.c (vi (r.stamp).epoch),.c (vi (r.stamp).turn)]⟩]) (fun k=>[⟨5,A9 (Y4 g r (r.stamp) k)⟩,⟨3,Ao (Db (Al g r.op).kind cs (Et r)).1⟩])
    (fun k=>k≤(Al g r.op).outs.length) (fun k=>(Al g r.op).outs.length-k) 0 (Nat.zero_le _) ⟨by first|rfl|simp [Cr,ren2,ren1,ren0],trivial⟩ Cp ⟨by first|rfl|exact (congrArg (fun l=>Cb _ _ l) (List.append_nil _)).symm|(show (_:Ab)=_;simp)|simp,by first|rfl|exact (congrArg (fun l=>Cb _ _ l) (List.append_nil _)).symm|(show (_:Ab)=_;simp)|simp,trivial⟩ Cc A5 (fun k hk=>?_)
   conv=>whnf
   conv=>whnf
   refine F2 (fun h=>?_) fun h=>?_<;>conv=>whnf
   ·have h:k<(Al g r.op).outs.length:=by omega
    have hem:=Ox (g:=g) (r:=r) (s:=r.stamp) (k:=k)
    repeat refine B9 ?_
    (repeat refine An ?_)
    refine Bm A0 rfl rfl rfl rfl rfl rfl rfl rfl rfl rfl rfl (A9 (Y4 g r (r.stamp) k++[Mv r (r.stamp) (Bt (Al g r.op) r.key r.val).1 (Bt (Al g r.op) r.key r.val).2.1 ((Al g r.op).outs.getD k default)])) (Bh rfl) Ef Ad (Ae ?_)
    (repeat refine An ?_)
    refine At [(5,7)] (k+1) Ad Ad ⟨rfl,trivial⟩ ⟨congrArg A9 (M7 h).symm,rfl,trivial⟩ Cp A5 Cc A5
   ·rw [Jg hP hnb h6,Rn h7,Ov Ad]
    refine Ah A0 rfl rfl ?_
    exact C1
theorem Jr {g:Ar}{r:A3}(h:¬ Kr g r):capped g r=false:=decide_eq_false fun p=>h p.1
theorem Z0 {g:Ar}{r:A3}(h:Kr g r):capped g r=(((Al g r.op).kind==7)&&(decide (((Al g r.op).outs.length:Int)>0)&&!(C8 r.stamp).2)):=by
 unfold capped
 rw [Bool.eq_iff_iff]
 simp only [decide_eq_true_eq,Bool.and_eq_true,beq_iff_eq,Bool.not_eq_true',h,true_and]
 constructor
 ·intro ⟨a,b,c⟩;exact ⟨a,by omega,c⟩
 ·intro ⟨a,b,c⟩;exact ⟨a,by omega,c⟩
theorem A5j (g:Ar)(r:A3)(hg:g.w≤16777216):Aq Tryz.prog 236 [.agg g.c,.agg r.c] [.one (vb (capped g r))]:=by
 refine Aj A0 false Tryz.func236 rfl Bs fun W=>?_
 conv=>whnf
 refine Ai (Ip g Ad) rfl (Ae ?_)
 refine ⟨fun h1=>?_,fun h1=>?_⟩<;>conv=>whnf
 ·have h1:Fi g=false:=by simpa using h1
  repeat refine B9 ?_
  rw [Jr (fun p=>absurd p.1 (of_decide_eq_false h1))]
  refine Ah A0 rfl rfl ?_
  exact C1
 have h1:H1 g:=of_decide_eq_true (show Fi g=true by simpa using h1)
 repeat refine B9 ?_
 refine Ai (Ht r) rfl (Ae ?_)
 repeat refine B9 ?_
 refine ⟨fun h2=>?_,fun h2=>?_⟩<;>conv=>whnf
 ·have h2:F8 r=false:=by simpa using h2
  repeat refine B9 ?_
  rw [Jr (fun p=>absurd p.2.1 (of_decide_eq_false h2))]
  refine Ah A0 rfl rfl ?_
  exact C1
 have h2:Gx r:=of_decide_eq_true (show F8 r=true by simpa using h2)
 repeat refine B9 ?_
 refine Ai (Nq g r.op hg) rfl (Ae ?_)
 repeat refine B9 ?_
 refine ⟨fun h3=>?_,fun h3=>?_⟩<;>conv=>whnf
 ·have h3:Eg r.op 0 (g.nodes.length-1)=false:=by simpa using h3
  have h4:=Go.Sx.Aw.1 h3
  repeat refine B9 ?_
  rw [Jr (fun p=>h4 ⟨h2.1.1,by have:=p.2.2;omega⟩)]
  refine Ah A0 rfl rfl ?_
  exact C1
 have h3:Eg r.op 0 (g.nodes.length-1)=true:=by simpa using h3
 have h4:=Go.Sx.Am.1 h3
 have hP:Kr g r:=⟨h1,h2,by omega⟩
 have hk:r.op.toNat<g.nodes.length:=by omega
 obtain ⟨hnw,hol⟩:=V2 hg hk
 have hoq:(g.nodes.getD r.op.toNat default).outs.length=(Al g r.op).outs.length:=rfl
 repeat refine B9 ?_
 (repeat refine An ?_)
 refine Ai (Ns r.stamp) rfl (Ae ?_)
 rw [Z0 hP]
 refine ⟨fun h7=>?_,fun h7=>?_⟩<;>conv=>whnf
 ·have h7:((Al g r.op).kind==7)=true:=h7
  rw [h7]
  repeat refine B9 ?_
  (repeat refine An ?_)
  refine ⟨fun h8=>?_,fun h8=>?_⟩<;>conv=>whnf
  ·have h8:decide (((Al g r.op).outs.length:Int)>0)=true:=h8
   rw [h8]
   repeat refine B9 ?_
   refine Ah A0 rfl rfl ?_
   exact C1
  ·have h8:decide (((Al g r.op).outs.length:Int)>0)=false:=h8
   rw [h8]
   repeat refine B9 ?_
   refine Ah A0 rfl rfl ?_
   exact C1
 ·have h7:((Al g r.op).kind==7)=false:=h7
  rw [h7]
  repeat refine B9 ?_
  refine Ah A0 rfl rfl ?_
  exact C1
end Go.Proofs.YtlbmkgkmbjadcaaGreat
