/- Part 28 of the proof that each of the laws FnExactRunScriptOf, FnExactSpreadResult returns true for every input. No conditions. -/
import Derived.Test.YtlbmkgkmbjadcaaGreatP25
import Derived.Test.YtlbmkgkmbjadcaaGreatP3
import Derived.Test.YtlbmkgkmbjadcaaGreatP8

set_option linter.unusedSimpArgs false
set_option linter.unusedVariables false
set_option maxRecDepth 100000
namespace Go.Proofs.YtlbmkgkmbjadcaaGreat
open Go.Sx
theorem Ww {g:Ar}{op:Int}(h:Eg op 0 (g.nodes.length-1)=true):Lp g op=(Al g op,true):=if_pos h
theorem Zo {g:Ar}{op:Int}(h:Eg op 0 (g.nodes.length-1)=false):Lp g op=(⟨0,0,0,[]⟩,false):=if_neg (by rw [h];decide)
theorem A55 {k:Int}{l:List Aa}{x:Aa}(h:¬ (k=5∨k=6∨k=8)):Db k l x=(l,true):=Tf (fun p=>h (.inl p)) (fun p=>h (.inr (.inr p))) (fun p=>h (.inr (.inl p)))
set_option maxHeartbeats 4000000 in
theorem A6j (g:Ar)(cs:List Aa)(r:A3)(hg:g.w≤16777216)(hl:cs.length≤16000000):Aq Tryz.prog 192 [.agg g.c,.one (Ao cs),.agg r.c] [.one (Ao (G1 g cs r).1),.one (A9 (G1 g cs r).2.1),.one (vb (G1 g cs r).2.2)]:=by
 refine Aj A0 false Tryz.func192 rfl Bs fun W=>?_
 conv=>whnf
 refine Bm A0 rfl rfl rfl rfl rfl rfl rfl rfl rfl rfl rfl (Ao cs) (B1) (fun _=>Fa cs) Ad (Ae ?_)
 refine Av (O5 g r.op hg) rfl (Ae ?_)
 cases h3:Eg r.op 0 (g.nodes.length-1)
 ·have h4:=Go.Sx.Aw.1 h3
  rw [Zo h3]
  repeat refine B9 ?_
  refine Rl 4 (A9 []) rfl Do ?_
  rw [Q4 (fun p=>h4 ⟨p.2.1.1.1,by have:=p.2.2;omega⟩)]
  refine Ah A0 rfl rfl ?_
  exact C1
 have h4:=Go.Sx.Am.1 h3
 rw [Ww h3]
 have hk:r.op.toNat<g.nodes.length:=by omega
 obtain ⟨hnw,hol⟩:=V2 hg hk
 repeat refine B9 ?_
 refine Ai (Mh g Ad) rfl (Ae ?_)
 repeat refine B9 ?_
 refine ⟨fun h1=>?_,fun h1=>?_⟩<;>conv=>whnf
 ·have h1:Fi g=false:=by simpa using h1
  repeat refine B9 ?_
  refine Rl 4 (A9 []) rfl Do ?_
  rw [Q4 (fun p=>absurd p.1 (of_decide_eq_false h1))]
  refine Ah A0 rfl rfl ?_
  exact C1
 have h1:H1 g:=of_decide_eq_true (show Fi g=true by simpa using h1)
 repeat refine B9 ?_
 refine Ai (Hy r) rfl (Ae ?_)
 repeat refine B9 ?_
 refine ⟨fun h2=>?_,fun h2=>?_⟩<;>conv=>whnf
 ·have h2:F8 r=false:=by simpa using h2
  repeat refine B9 ?_
  refine Rl 4 (A9 []) rfl Do ?_
  rw [Q4 (fun p=>absurd p.2.1 (of_decide_eq_false h2))]
  refine Ah A0 rfl rfl ?_
  exact C1
 have h2:Gx r:=of_decide_eq_true (show F8 r=true by simpa using h2)
 have hP:Kr g r:=⟨h1,h2,by omega⟩
 repeat refine B9 ?_
 refine Ai (A4f (Al g r.op) r.key r.val hnw) rfl (Ae ?_)
 refine ⟨fun h5=>?_,fun h5=>?_⟩<;>conv=>whnf
 ·have h5:(Bt (Al g r.op) r.key r.val).2.2=false:=by simpa using h5
  repeat refine B9 ?_
  refine ⟨fun h8=>have h8:=bne_iff_ne.1 h8;?_,fun h8=>have h8:=bne_eq_false_iff_eq.1 h8;?_⟩<;>conv=>whnf
  ·have h8:(Al g r.op).kind≠8:=h8
   repeat refine B9 ?_
   refine Rl 4 (A9 []) rfl Do ?_
   rw [Zz hP h5 h8]
   refine Ah A0 rfl rfl ?_
   exact C1
  ·have h8:(Al g r.op).kind=8:=h8
   repeat refine B9 ?_
   have hnb:¬ ((Bt (Al g r.op) r.key r.val).2.2=false∧(Al g r.op).kind≠8):=(fun p=>p.2 h8)
   refine Ai (Qq (Al g r.op).kind) rfl (Ae ?_)
   refine ⟨fun hr=>?_,fun hr=>?_⟩<;>conv=>whnf
   ·have hr:(Al g r.op).kind=5∨(Al g r.op).kind=6∨(Al g r.op).kind=8:=of_decide_eq_true hr
    refine Av (Xu (Al g r.op).kind cs (Et r) hl) rfl (Ae ?_)
    refine ⟨fun h6=>?_,fun h6=>?_⟩<;>conv=>whnf
    ·have h6:(Db (Al g r.op).kind cs (Et r)).2=false:=by simpa using h6
     repeat refine B9 ?_
     refine Rl 4 (A9 []) rfl Do ?_
     rw [O6 hP hnb h6]
     refine Ah A0 rfl rfl ?_
     exact C1
    have h6:(Db (Al g r.op).kind cs (Et r)).2=true:=by simpa using h6
    repeat refine B9 ?_
    have h7:(Al g r.op).kind≠7:=by omega
    refine ⟨fun h7'=>have h7':=eq_of_beq h7';?_,fun h7'=>have h7':=beq_eq_false_iff_ne.1 h7';?_⟩<;>conv=>whnf
    ·exact absurd h7' h7
    refine Gk 4 (A9 []) rfl Do ?_
    refine B6 A0 false [25] (fun k:Nat=>[(21,.c (vi k))]) (fun k=>[⟨6,[.c (vi (Al g r.op).kind),.c (vi (Al g r.op).a),.c (vi (Al g r.op).b),.own 5]⟩,⟨8,[.c (vi (r.stamp).epoch),.c (vi (r.stamp).turn)]⟩]) (fun k=>[⟨5,Eu (Al g r.op).outs⟩,⟨4,A9 (Y4 g r (r.stamp) k)⟩,⟨7,Ao (Db (Al g r.op).kind cs (Et r)).1⟩])
     (fun k=>k≤(Al g r.op).outs.length) (fun k=>(Al g r.op).outs.length-k) 0 (Nat.zero_le _) ⟨by first|rfl|simp [Cr,ren2,ren1,ren0],trivial⟩ Cp ⟨by first|rfl|exact (congrArg (fun l=>Cb _ _ l) (List.append_nil _)).symm|(show (_:Ab)=_;simp)|simp,by first|rfl|exact (congrArg (fun l=>Cb _ _ l) (List.append_nil _)).symm|(show (_:Ab)=_;simp)|simp,by first|rfl|exact (congrArg (fun l=>Cb _ _ l) (List.append_nil _)).symm|(show (_:Ab)=_;simp)|simp,trivial⟩ Cc A5 (fun k hk=>?_)
    conv=>whnf
    conv=>whnf
    refine F2 (fun h=>?_) fun h=>?_<;>conv=>whnf
    ·have h:k<(Al g r.op).outs.length:=by omega
     have hem:=Ox (g:=g) (r:=r) (s:=r.stamp) (k:=k)
     first|(refine Ak 23 rfl [0,1,2,3,4,5,6,7,8,9,10,11,12] A5 (Ae ?_))
     (repeat refine An ?_)
     refine Bm A0 rfl rfl rfl rfl rfl rfl rfl rfl rfl rfl rfl (A9 (Y4 g r (r.stamp) k++[Mv r (r.stamp) (Bt (Al g r.op) r.key r.val).1 (Bt (Al g r.op) r.key r.val).2.1 ((Al g r.op).outs.getD k default)])) (Bh rfl) Ef Ad (Ae ?_)
     (repeat refine An ?_)
     refine At [(4,10)] (k+1) Ad Ad ⟨rfl,trivial⟩ ⟨rfl,congrArg A9 (M7 h).symm,rfl,trivial⟩ Cp A5 Cc A5
    ·repeat refine B9 ?_
     rw [Jg hP hnb h6,Rn h7,Ov Ad]
     refine Ah A0 rfl rfl ?_
     exact C1
   ·exact absurd (.inr (.inr h8)) (of_decide_eq_false hr)
 ·have h5:(Bt (Al g r.op) r.key r.val).2.2=true:=by simpa using h5
  repeat refine B9 ?_
  have hnb:¬ ((Bt (Al g r.op) r.key r.val).2.2=false∧(Al g r.op).kind≠8):=(fun p=>by rw [p.1] at h5;cases h5)
  refine Ai (Qq (Al g r.op).kind) rfl (Ae ?_)
  refine ⟨fun hr=>?_,fun hr=>?_⟩<;>conv=>whnf
  ·have hr:(Al g r.op).kind=5∨(Al g r.op).kind=6∨(Al g r.op).kind=8:=of_decide_eq_true hr
   refine Av (Xu (Al g r.op).kind cs (Et r) hl) rfl (Ae ?_)
   refine ⟨fun h6=>?_,fun h6=>?_⟩<;>conv=>whnf
   ·have h6:(Db (Al g r.op).kind cs (Et r)).2=false:=by simpa using h6
    repeat refine B9 ?_
    refine Rl 4 (A9 []) rfl Do ?_
    rw [O6 hP hnb h6]
    refine Ah A0 rfl rfl ?_
    exact C1
   have h6:(Db (Al g r.op).kind cs (Et r)).2=true:=by simpa using h6
   repeat refine B9 ?_
   have h7:(Al g r.op).kind≠7:=by omega
   refine ⟨fun h7'=>have h7':=eq_of_beq h7';?_,fun h7'=>have h7':=beq_eq_false_iff_ne.1 h7';?_⟩<;>conv=>whnf
   ·exact absurd h7' h7
   refine Gk 4 (A9 []) rfl Do ?_
   refine B6 A0 false [25] (fun k:Nat=>[(21,.c (vi k))]) (fun k=>[⟨6,[.c (vi (Al g r.op).kind),.c (vi (Al g r.op).a),.c (vi (Al g r.op).b),.own 5]⟩,⟨8,[.c (vi (r.stamp).epoch),.c (vi (r.stamp).turn)]⟩]) (fun k=>[⟨5,Eu (Al g r.op).outs⟩,⟨4,A9 (Y4 g r (r.stamp) k)⟩,⟨7,Ao (Db (Al g r.op).kind cs (Et r)).1⟩])
    (fun k=>k≤(Al g r.op).outs.length) (fun k=>(Al g r.op).outs.length-k) 0 (Nat.zero_le _) ⟨by first|rfl|simp [Cr,ren2,ren1,ren0],trivial⟩ Cp ⟨by first|rfl|exact (congrArg (fun l=>Cb _ _ l) (List.append_nil _)).symm|(show (_:Ab)=_;simp)|simp,by first|rfl|exact (congrArg (fun l=>Cb _ _ l) (List.append_nil _)).symm|(show (_:Ab)=_;simp)|simp,by first|rfl|exact (congrArg (fun l=>Cb _ _ l) (List.append_nil _)).symm|(show (_:Ab)=_;simp)|simp,trivial⟩ Cc A5 (fun k hk=>?_)
   conv=>whnf
   conv=>whnf
   refine F2 (fun h=>?_) fun h=>?_<;>conv=>whnf
   ·have h:k<(Al g r.op).outs.length:=by omega
    have hem:=Ox (g:=g) (r:=r) (s:=r.stamp) (k:=k)
    first|(refine Ak 23 rfl [0,1,2,3,4,5,6,7,8,9,10,11,12] A5 (Ae ?_))
    (repeat refine An ?_)
    refine Bm A0 rfl rfl rfl rfl rfl rfl rfl rfl rfl rfl rfl (A9 (Y4 g r (r.stamp) k++[Mv r (r.stamp) (Bt (Al g r.op) r.key r.val).1 (Bt (Al g r.op) r.key r.val).2.1 ((Al g r.op).outs.getD k default)])) (Bh rfl) Ef Ad (Ae ?_)
    (repeat refine An ?_)
    refine At [(4,10)] (k+1) Ad Ad ⟨rfl,trivial⟩ ⟨rfl,congrArg A9 (M7 h).symm,rfl,trivial⟩ Cp A5 Cc A5
   ·repeat refine B9 ?_
    rw [Jg hP hnb h6,Rn h7,Ov Ad]
    refine Ah A0 rfl rfl ?_
    exact C1
  ·have hr:¬ ((Al g r.op).kind=5∨(Al g r.op).kind=6∨(Al g r.op).kind=8):=of_decide_eq_false hr
   have e6:=A55 (l:=cs) (x:=Et r) hr
   have h6:(Db (Al g r.op).kind cs (Et r)).2=true:=by rw [e6]
   have e61:(Db (Al g r.op).kind cs (Et r)).1=cs:=by rw [e6]
   repeat refine B9 ?_
   refine ⟨fun h7=>have h7:=eq_of_beq h7;?_,fun h7=>have h7:=beq_eq_false_iff_ne.1 h7;?_⟩<;>conv=>whnf
   ·have h7:(Al g r.op).kind=7:=h7
    refine Ai (Sj r.stamp) rfl (Ae ?_)
    refine ⟨fun hnt=>?_,fun hnt=>?_⟩<;>conv=>whnf
    ·have hnt:(C8 r.stamp).2=false:=by simpa using hnt
     repeat refine B9 ?_
     refine Rl 4 (A9 []) rfl Do ?_
     rw [Jg hP hnb h6,Vv h7 hnt,e61]
     refine Ah A0 rfl rfl ?_
     exact C1
    ·have hnt:(C8 r.stamp).2=true:=by simpa using hnt
     repeat refine B9 ?_
     refine Gk 4 (A9 []) rfl Do ?_
     refine B6 A0 false [25] (fun k:Nat=>[(21,.c (vi k))]) (fun k=>[⟨6,[.c (vi (Al g r.op).kind),.c (vi (Al g r.op).a),.c (vi (Al g r.op).b),.own 5]⟩,⟨7,[.c (vi ((C8 r.stamp).1).epoch),.c (vi ((C8 r.stamp).1).turn)]⟩]) (fun k=>[⟨5,Eu (Al g r.op).outs⟩,⟨4,A9 (Y4 g r ((C8 r.stamp).1) k)⟩,⟨3,Ao cs⟩])
      (fun k=>k≤(Al g r.op).outs.length) (fun k=>(Al g r.op).outs.length-k) 0 (Nat.zero_le _) ⟨by first|rfl|simp [Cr,ren2,ren1,ren0],trivial⟩ Cp ⟨by first|rfl|exact (congrArg (fun l=>Cb _ _ l) (List.append_nil _)).symm|(show (_:Ab)=_;simp)|simp,by first|rfl|exact (congrArg (fun l=>Cb _ _ l) (List.append_nil _)).symm|(show (_:Ab)=_;simp)|simp,by first|rfl|exact (congrArg (fun l=>Cb _ _ l) (List.append_nil _)).symm|(show (_:Ab)=_;simp)|simp,trivial⟩ Cc A5 (fun k hk=>?_)
     conv=>whnf
     conv=>whnf
     refine F2 (fun h=>?_) fun h=>?_<;>conv=>whnf
     ·have h:k<(Al g r.op).outs.length:=by omega
      have hem:=Ox (g:=g) (r:=r) (s:=(C8 r.stamp).1) (k:=k)
      first|(refine Ak 23 rfl [0,1,2,3,4,5,6,7,8,9,10,11,12] A5 (Ae ?_))
      (repeat refine An ?_)
      refine Bm A0 rfl rfl rfl rfl rfl rfl rfl rfl rfl rfl rfl (A9 (Y4 g r ((C8 r.stamp).1) k++[Mv r ((C8 r.stamp).1) (Bt (Al g r.op) r.key r.val).1 (Bt (Al g r.op) r.key r.val).2.1 ((Al g r.op).outs.getD k default)])) (Bh rfl) Ef Ad (Ae ?_)
      (repeat refine An ?_)
      refine At [(4,10)] (k+1) Ad Ad ⟨rfl,trivial⟩ ⟨rfl,congrArg A9 (M7 h).symm,rfl,trivial⟩ Cp A5 Cc A5
     ·repeat refine B9 ?_
      rw [Jg hP hnb h6,A0m h7 hnt,e61,Ov Ad]
      refine Ah A0 rfl rfl ?_
      exact C1
   ·have h7:(Al g r.op).kind≠7:=h7
    repeat refine B9 ?_
    refine Gk 4 (A9 []) rfl Do ?_
    refine B6 A0 false [25] (fun k:Nat=>[(21,.c (vi k))]) (fun k=>[⟨6,[.c (vi (Al g r.op).kind),.c (vi (Al g r.op).a),.c (vi (Al g r.op).b),.own 5]⟩,⟨7,[.c (vi (r.stamp).epoch),.c (vi (r.stamp).turn)]⟩]) (fun k=>[⟨5,Eu (Al g r.op).outs⟩,⟨4,A9 (Y4 g r (r.stamp) k)⟩,⟨3,Ao cs⟩])
     (fun k=>k≤(Al g r.op).outs.length) (fun k=>(Al g r.op).outs.length-k) 0 (Nat.zero_le _) ⟨by first|rfl|simp [Cr,ren2,ren1,ren0],trivial⟩ Cp ⟨by first|rfl|exact (congrArg (fun l=>Cb _ _ l) (List.append_nil _)).symm|(show (_:Ab)=_;simp)|simp,by first|rfl|exact (congrArg (fun l=>Cb _ _ l) (List.append_nil _)).symm|(show (_:Ab)=_;simp)|simp,by first|rfl|exact (congrArg (fun l=>Cb _ _ l) (List.append_nil _)).symm|(show (_:Ab)=_;simp)|simp,trivial⟩ Cc A5 (fun k hk=>?_)
    conv=>whnf
    conv=>whnf
    refine F2 (fun h=>?_) fun h=>?_<;>conv=>whnf
    ·have h:k<(Al g r.op).outs.length:=by omega
     have hem:=Ox (g:=g) (r:=r) (s:=r.stamp) (k:=k)
     first|(refine Ak 23 rfl [0,1,2,3,4,5,6,7,8,9,10,11,12] A5 (Ae ?_))
     (repeat refine An ?_)
     refine Bm A0 rfl rfl rfl rfl rfl rfl rfl rfl rfl rfl rfl (A9 (Y4 g r (r.stamp) k++[Mv r (r.stamp) (Bt (Al g r.op) r.key r.val).1 (Bt (Al g r.op) r.key r.val).2.1 ((Al g r.op).outs.getD k default)])) (Bh rfl) Ef Ad (Ae ?_)
     (repeat refine An ?_)
     refine At [(4,9)] (k+1) Ad Ad ⟨rfl,trivial⟩ ⟨rfl,congrArg A9 (M7 h).symm,rfl,trivial⟩ Cp A5 Cc A5
    ·repeat refine B9 ?_
     rw [Jg hP hnb h6,Rn h7,e61,Ov Ad]
     refine Ah A0 rfl rfl ?_
     exact C1
theorem A6e (g:Ar)(r:A3)(hg:g.w≤16777216):Aq Tryz.prog 193 [.agg g.c,.agg r.c] [.one (vb (capped g r))]:=by
 refine Aj A0 false Tryz.func193 rfl Bs fun W=>?_
 conv=>whnf
 refine Av (O5 g r.op hg) rfl (Ae ?_)
 refine Ai (Sj r.stamp) rfl (Ae ?_)
 cases h3:Eg r.op 0 (g.nodes.length-1)
 ·have h4:=Go.Sx.Aw.1 h3
  rw [Zo h3]
  repeat refine B9 ?_
  rw [Jr (fun p=>h4 ⟨p.2.1.1.1,by have:=p.2.2;omega⟩)]
  refine Ah A0 rfl rfl ?_
  exact C1
 have h4:=Go.Sx.Am.1 h3
 rw [Ww h3]
 have hk:r.op.toNat<g.nodes.length:=by omega
 obtain ⟨hnw,hol⟩:=V2 hg hk
 repeat refine B9 ?_
 refine Ai (Mh g Ad) rfl (Ae ?_)
 repeat refine B9 ?_
 refine ⟨fun h1=>?_,fun h1=>?_⟩<;>conv=>whnf
 ·have h1:H1 g:=of_decide_eq_true h1
  repeat refine B9 ?_
  refine Ai (Hy r) rfl (Ae ?_)
  repeat refine B9 ?_
  refine ⟨fun h2=>?_,fun h2=>?_⟩<;>conv=>whnf
  ·have h2:Gx r:=of_decide_eq_true h2
   have hP:Kr g r:=⟨h1,h2,by omega⟩
   rw [Z0 hP]
   repeat refine B9 ?_
   refine ⟨fun h7=>?_,fun h7=>?_⟩<;>conv=>whnf
   ·have h7:((Al g r.op).kind==7)=true:=h7
    rw [h7]
    repeat refine B9 ?_
    (repeat refine An ?_)
    refine ⟨fun h8=>?_,fun h8=>?_⟩<;>conv=>whnf
    ·have h8:decide (((Al g r.op).outs.length:Int)>0)=true:=h8
     rw [h8]
     repeat refine B9 ?_
     refine Ah A0 rfl rfl ?_
     exact C1
    ·have h8:decide (((Al g r.op).outs.length:Int)>0)=false:=h8
     rw [h8]
     repeat refine B9 ?_
     refine Ah A0 rfl rfl ?_
     exact C1
   ·have h7:((Al g r.op).kind==7)=false:=h7
    rw [h7]
    repeat refine B9 ?_
    refine Ah A0 rfl rfl ?_
    exact C1
  ·repeat refine B9 ?_
   rw [Jr (fun p=>absurd p.2.1 (of_decide_eq_false h2))]
   refine Ah A0 rfl rfl ?_
   exact C1
 ·repeat refine B9 ?_
  rw [Jr (fun p=>absurd p.1 (of_decide_eq_false h1))]
  refine Ah A0 rfl rfl ?_
  exact C1
theorem Pn (n lo hi:Int):Aq Tryz.prog 94 [.one (vi n),.one (vi lo),.one (vi hi)] [.one (vi (E7 n lo hi))]:=by
 refine Aj A0 false Tryz.func94 rfl Bs fun W=>?_
 conv=>whnf
 repeat' (first|(refine Ki ?_;conv=>whnf)|(refine Kj ?_;conv=>whnf)|(refine ⟨fun h=>?_,fun h=>?_⟩<;>conv=>whnf)|(refine Ah A0 rfl rfl ⟨?_,trivial⟩;conv=>whnf)|(refine Jn ?_;conv=>whnf)|fail)
 all_goals (refine congrArg vi ?_;simp only [decide_eq_true_eq,decide_eq_false_iff_not] at *;unfold E7;repeat' split)<;>first|contradiction|omega
theorem P1 (n lo hi:Int):Aq Tryz.prog 106 [.one (vi n),.one (vi lo),.one (vi hi)] [.one (vi (E7 n lo hi))]:=by
 refine Aj A0 false Tryz.func106 rfl Bs fun W=>?_
 conv=>whnf
 repeat' (first|(refine Ki ?_;conv=>whnf)|(refine Kj ?_;conv=>whnf)|(refine ⟨fun h=>?_,fun h=>?_⟩<;>conv=>whnf)|(refine Ah A0 rfl rfl ⟨?_,trivial⟩;conv=>whnf)|(refine Jn ?_;conv=>whnf)|fail)
 all_goals (refine congrArg vi ?_;simp only [decide_eq_true_eq,decide_eq_false_iff_not] at *;unfold E7;repeat' split)<;>first|contradiction|omega
theorem A1t (x:A4):Aq Tryz.prog 93 [.agg x.c] [.one (D5 (Lx (E7 x.graph.workers 0 4).toNat))]:=by
 have hb:=Ha x.graph.workers 0 4 Bs
 obtain ⟨n,hn⟩:∃n:Nat,E7 x.graph.workers 0 4=n:=⟨(E7 x.graph.workers 0 4).toNat,by omega⟩
 have h4:n≤4:=by omega
 refine Aj A0 false Tryz.func93 rfl Bs fun W=>?_
 conv=>whnf
 refine Ai (Pn x.graph.workers 0 4) rfl (Ae ?_)
 rw [hn]
 refine Gk 1 (D5 []) rfl Do ?_
 refine B6 A0 false [9] (fun k:Nat=>[(5,.c (vi k))]) (fun k=>[]) (fun k=>[⟨1,D5 (pA k)⟩])
  (fun k=>k≤n) (fun k=>n-k) 0 (Nat.zero_le _) ⟨by first|rfl|simp [Cr,ren2,ren1,ren0],trivial⟩ trivial ⟨by first|rfl|exact (congrArg (fun l=>Cb _ _ l) (List.append_nil _)).symm|(show (_:Ab)=_;simp)|simp,trivial⟩ Cc A5 (fun k hk=>?_)
 conv=>whnf
 refine F2 (fun h=>?_) fun h=>?_<;>conv=>whnf
 ·have h:k<n:=by omega
  have hl:=X5 k
  refine Bm A0 rfl rfl rfl rfl rfl rfl rfl rfl rfl rfl rfl (D5 (pA k++pW k)) (B3c rfl rfl rfl rfl) Ef Ad (Ae ?_)
  (repeat refine An ?_)
  refine At [(1,3)] (k+1) Ad Ad ⟨rfl,trivial⟩ ⟨congrArg D5 (A1e k).symm,trivial⟩ trivial A5 Cc A5
 have e:n=k:=by omega
 subst e
 have hl:=X5 n
 refine B6 A0 false [] (fun k:Nat=>[(6,.c (vi k))]) (fun k=>[]) (fun k=>[⟨1,D5 (pA n++pC n k)⟩])
  (fun k=>k≤n) (fun k=>n-k) 0 (Nat.zero_le _) ⟨by first|rfl|simp [Cr,ren2,ren1,ren0],trivial⟩ trivial ⟨by first|rfl|exact (congrArg (fun l=>Cb _ _ l) (List.append_nil _)).symm|(show (_:Ab)=_;simp)|simp,trivial⟩ Cc A5 (fun k hk=>?_)
 conv=>whnf
 refine F2 (fun h=>?_) fun h=>?_<;>conv=>whnf
 ·have h:k<n:=by omega
  have hc:=X6 n k h4
  refine B6 A0 false [] (fun j:Nat=>[(7,.c (vi j))]) (fun _=>[]) (fun j=>[⟨1,D5 (pA n++(pC n k++pB k j))⟩])
   (fun j=>j≤n) (fun j=>n-j) 0 (Nat.zero_le _) ⟨rfl,trivial⟩ trivial ⟨(congrArg (fun l=>Cb _ _ (pA n++l)) (List.append_nil _)).symm,trivial⟩ trivial A5 (fun j hj=>?_)
  conv=>whnf
  refine F2 (fun h'=>?_) fun h'=>?_<;>conv=>whnf
  ·have h':j<n:=by omega
   have hd:=A51 k j
   have hs:=A1f k j
   refine ⟨fun hq=>have hq:=bne_iff_ne.1 hq;?_,fun hq=>have hq:=bne_eq_false_iff_eq.1 hq;?_⟩<;>conv=>whnf
   ·(repeat refine An ?_)
    refine Bm A0 rfl rfl rfl rfl rfl rfl rfl rfl rfl rfl rfl (D5 (pA n++(pC n k++pB k j)++[⟨4,k,j⟩,⟨5,k,j⟩])) (A78 rfl rfl) Ef (by simp only [List.length_append];omega) (Ae ?_)
    (repeat refine An ?_)
    refine At [(1,3)] (j+1) Ad Ad ⟨rfl,trivial⟩ ⟨?_,trivial⟩ trivial A5 trivial A5
    exact congrArg D5 (by rw [hs,pK,if_neg hq];simp only [List.append_assoc])
   ·(repeat refine An ?_)
    refine At [] (j+1) Ad Ad ⟨rfl,trivial⟩ ⟨?_,trivial⟩ trivial A5 trivial A5
    exact congrArg D5 (by rw [hs,pK,if_pos hq,List.append_nil])
  have e:n=j:=by omega
  (repeat refine An ?_)
  refine At [] (k+1) Ad Ad ⟨rfl,trivial⟩ ⟨congrArg D5 (by rw [←e,A1g]),trivial⟩ trivial A5 Cc A5
 have e:k=n:=by omega
 subst e
 have hc:=X6 k k h4
 refine B6 A0 false [] (fun j:Nat=>[(8,.c (vi j))]) (fun _=>[]) (fun j=>[⟨1,D5 (pA k++pC k k++pE j)⟩])
  (fun j=>j≤4) (fun j=>4-j) 0 (Nat.zero_le _) ⟨rfl,trivial⟩ trivial ⟨(congrArg (fun l=>Cb _ _ l) (List.append_nil _)).symm,trivial⟩ trivial A5 (fun j hj=>?_)
 conv=>whnf
 refine F2 (fun h'=>?_) fun h'=>?_<;>conv=>whnf
 ·have h':j<4:=by omega
  have hd:=A52 j
  (repeat refine An ?_)
  refine Bm A0 rfl rfl rfl rfl rfl rfl rfl rfl rfl rfl rfl (D5 (pA k++pC k k++pE j++[⟨6,j,0⟩])) (Bh rfl) Ef (by simp only [List.length_append];omega) (Ae ?_)
  (repeat refine An ?_)
  refine At [(1,3)] (j+1) Ad Ad ⟨rfl,trivial⟩ ⟨?_,trivial⟩ trivial A5 trivial A5
  exact congrArg D5 (by rw [A7x];simp only [List.append_assoc])
 ·refine Ah A0 rfl rfl ⟨?_,trivial⟩
  have e:j=4:=by omega
  subst e
  exact congrArg D5 (by rw [Lx,Int.toNat_natCast])
theorem Rx (x:A4):Aq Tryz.prog 163 [.agg x.c] [.one (D5 (Lx (E7 x.graph.workers 0 4).toNat))]:=by
 have hb:=Ha x.graph.workers 0 4 Bs
 obtain ⟨n,hn⟩:∃n:Nat,E7 x.graph.workers 0 4=n:=⟨(E7 x.graph.workers 0 4).toNat,by omega⟩
 have h4:n≤4:=by omega
 refine Aj A0 false Tryz.func163 rfl Bs fun W=>?_
 conv=>whnf
 refine Ai (P1 x.graph.workers 0 4) rfl (Ae ?_)
 rw [hn]
 refine Wv 4 3 (fun i=>Bo.c (([]:List Bo).getD i default)) rfl ?_
 refine B6 A0 false [9] (fun k:Nat=>[(5,.c (vi k))]) (fun k=>[]) (fun k=>[⟨1,D5 (pA k)⟩])
  (fun k=>k≤n) (fun k=>n-k) 0 (Nat.zero_le _) ⟨by first|rfl|simp [Cr,ren2,ren1,ren0],trivial⟩ trivial ⟨by first|rfl|exact (congrArg (fun l=>Cb _ _ l) (List.append_nil _)).symm|(show (_:Ab)=_;simp)|simp,trivial⟩ Cc A5 (fun k hk=>?_)
 conv=>whnf
 refine F2 (fun h=>?_) fun h=>?_<;>conv=>whnf
 ·have h:k<n:=by omega
  have hl:=X5 k
  refine Gk 2 (Eu [1,3,2,7]) rfl (A8r rfl rfl rfl rfl) ?_
  refine B6 A0 false [7] (fun j:Nat=>[(22,.c (vi j))]) (fun _=>[]) (fun j=>[⟨2,Eu [1,3,2,7]⟩,⟨1,D5 (pA k++(pW k).take j)⟩])
   (fun j=>j≤4) (fun j=>4-j) 0 (Nat.zero_le _) ⟨rfl,trivial⟩ trivial ⟨rfl,(congrArg (fun l=>Cb _ _ l) (List.append_nil _)).symm,trivial⟩ trivial A5 (fun j hj=>?_)
  conv=>whnf
  refine F2 (fun h'=>?_) fun h'=>?_<;>conv=>whnf
  ·have h':j<4:=by omega
   have hd:((pW k).take j).length≤j:=List.length_take_le _ _
   refine ⟨by exact ⟨by omega,by show (j:Int)<4;omega⟩,?_⟩
   conv=>whnf
   (repeat refine An ?_)
   refine Bm A0 rfl rfl rfl rfl rfl rfl rfl rfl rfl rfl rfl (D5 (pA k++(pW k).take j++[⟨([1,3,2,7]:List Int).getD j default,k,0⟩])) (Bh rfl) Ef (by simp only [List.length_append];omega) (Ae ?_)
   (repeat refine An ?_)
   refine At [(1,4)] (j+1) Ad Ad ⟨rfl,trivial⟩ ⟨rfl,?_,trivial⟩ trivial A5 trivial A5
   exact congrArg D5 (by rw [B44 k j h',List.append_assoc])
  have e:j=4:=by omega
  subst e
  (repeat refine An ?_)
  refine At [] (k+1) Ad Ad ⟨rfl,trivial⟩ ⟨congrArg D5 (A1e k).symm,trivial⟩ trivial A5 Cc A5
 have e:n=k:=by omega
 subst e
 have hl:=X5 n
 refine B6 A0 false [] (fun k:Nat=>[(8,.c (vi k))]) (fun k=>[]) (fun k=>[⟨1,D5 (pA n++pC n k)⟩])
  (fun k=>k≤n) (fun k=>n-k) 0 (Nat.zero_le _) ⟨by first|rfl|simp [Cr,ren2,ren1,ren0],trivial⟩ trivial ⟨by first|rfl|exact (congrArg (fun l=>Cb _ _ l) (List.append_nil _)).symm|(show (_:Ab)=_;simp)|simp,trivial⟩ Cc A5 (fun k hk=>?_)
 conv=>whnf
 refine F2 (fun h=>?_) fun h=>?_<;>conv=>whnf
 ·have h:k<n:=by omega
  have hc:=X6 n k h4
  refine B6 A0 false [] (fun j:Nat=>[(9,.c (vi j))]) (fun _=>[]) (fun j=>[⟨1,D5 (pA n++(pC n k++pB k j))⟩])
   (fun j=>j≤n) (fun j=>n-j) 0 (Nat.zero_le _) ⟨rfl,trivial⟩ trivial ⟨(congrArg (fun l=>Cb _ _ (pA n++l)) (List.append_nil _)).symm,trivial⟩ trivial A5 (fun j hj=>?_)
  conv=>whnf
  refine F2 (fun h'=>?_) fun h'=>?_<;>conv=>whnf
  ·have h':j<n:=by omega
   have hd:=A51 k j
   have hs:=A1f k j
   refine ⟨fun hq=>have hq:=bne_iff_ne.1 hq;?_,fun hq=>have hq:=bne_eq_false_iff_eq.1 hq;?_⟩<;>conv=>whnf
   ·(repeat refine An ?_)
    refine Bm A0 rfl rfl rfl rfl rfl rfl rfl rfl rfl rfl rfl (D5 (pA n++(pC n k++pB k j)++[⟨4,k,j⟩,⟨5,k,j⟩])) (A78 rfl rfl) Ef (by simp only [List.length_append];omega) (Ae ?_)
    (repeat refine An ?_)
    refine At [(1,3)] (j+1) Ad Ad ⟨rfl,trivial⟩ ⟨?_,trivial⟩ trivial A5 trivial A5
    exact congrArg D5 (by rw [hs,pK,if_neg hq];simp only [List.append_assoc])
   ·(repeat refine An ?_)
    refine At [] (j+1) Ad Ad ⟨rfl,trivial⟩ ⟨?_,trivial⟩ trivial A5 trivial A5
    exact congrArg D5 (by rw [hs,pK,if_pos hq,List.append_nil])
  have e:n=j:=by omega
  (repeat refine An ?_)
  refine At [] (k+1) Ad Ad ⟨rfl,trivial⟩ ⟨congrArg D5 (by rw [←e,A1g]),trivial⟩ trivial A5 Cc A5
 have e:k=n:=by omega
 subst e
 have hc:=X6 k k h4
 refine B6 A0 false [] (fun j:Nat=>[(10,.c (vi j))]) (fun _=>[]) (fun j=>[⟨1,D5 (pA k++pC k k++pE j)⟩])
  (fun j=>j≤4) (fun j=>4-j) 0 (Nat.zero_le _) ⟨rfl,trivial⟩ trivial ⟨(congrArg (fun l=>Cb _ _ l) (List.append_nil _)).symm,trivial⟩ trivial A5 (fun j hj=>?_)
 conv=>whnf
 refine F2 (fun h'=>?_) fun h'=>?_<;>conv=>whnf
 ·have h':j<4:=by omega
  have hd:=A52 j
  (repeat refine An ?_)
  refine Bm A0 rfl rfl rfl rfl rfl rfl rfl rfl rfl rfl rfl (D5 (pA k++pC k k++pE j++[⟨6,j,0⟩])) (Bh rfl) Ef (by simp only [List.length_append];omega) (Ae ?_)
  (repeat refine An ?_)
  refine At [(1,3)] (j+1) Ad Ad ⟨rfl,trivial⟩ ⟨?_,trivial⟩ trivial A5 trivial A5
  exact congrArg D5 (by rw [A7x];simp only [List.append_assoc])
 ·refine Ah A0 rfl rfl ⟨?_,trivial⟩
  have e:j=4:=by omega
  subst e
  exact congrArg D5 (by rw [Lx,Int.toNat_natCast])
end Go.Proofs.YtlbmkgkmbjadcaaGreat
