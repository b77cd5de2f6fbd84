/- Part 16 of the proof that each of the laws FnTold returns true for every input. No conditions. -/
import Derived.Test.YtdendlkeiaccpaaGreatDoorP15
import Derived.Test.YtdendlkeiaccpaaGreatDoorP3
import Derived.Test.YtdendlkeiaccpaaGreatDoorP6

set_option linter.unusedSimpArgs false
set_option linter.unusedVariables false
set_option maxRecDepth 100000
namespace Go.Proofs.YtdendlkeiaccpaaGreatDoor
open Go.Sx
theorem Us {g:Ap}{op:Int}(h:Do op 0 (g.nodes.length-1)=true):K4 g op=(Al g op,true):=if_pos h
theorem Xt {g:Ap}{op:Int}(h:Do op 0 (g.nodes.length-1)=false):K4 g op=(⟨0,0,0,[]⟩,false):=if_neg (by rw [h];decide)
theorem A37 {k:Int}{l:List Ag}{x:Ag}(h:¬ (k=5∨k=6∨k=8)):Dv k l x=(l,true):=Y1 (fun p=>h (.inl p)) (fun p=>h (.inr (.inr p))) (fun p=>h (.inr (.inl p)))
set_option maxHeartbeats 4000000 in
theorem Vs (g:Ap)(cs:List Ag)(r:Ae)(hg:g.w≤16777216)(hl:cs.length≤16000000):Bo Tryz.prog 151 [.agg g.c,.one (Ak cs),.agg r.c] [.one (Ak (F3 g cs r).1),.one (Ah (F3 g cs r).2.1),.one (vb (F3 g cs r).2.2)]:=by
 refine Bh A0 false Tryz.func151 rfl Aw fun W=>?_
 conv=>whnf
 refine B1 A0 rfl rfl rfl rfl rfl rfl rfl rfl rfl rfl rfl (Ak cs) (Ci) (fun _=>Eo cs) Ab (A8 ?_)
 refine Cq (Mf g r.op hg) rfl (A8 ?_)
 cases h3:Do r.op 0 (g.nodes.length-1)
 ·have h4:=Go.Sx.Bn.1 h3
  rw [Xt h3]
  repeat refine Bj ?_
  refine L9 4 (Ah []) rfl De ?_
  rw [Zy (fun p=>h4 ⟨p.2.1.1.1,by have:=p.2.2;omega⟩)]
  refine B3 A0 rfl rfl ?_
  exact Ay
 have h4:=Go.Sx.As.1 h3
 rw [Us h3]
 have hk:r.op.toNat<g.nodes.length:=by omega
 obtain ⟨hnw,hol⟩:=A5p hg hk
 repeat refine Bj ?_
 refine B5 (I0 g Ab) rfl (A8 ?_)
 repeat refine Bj ?_
 refine ⟨fun h1=>?_,fun h1=>?_⟩<;>conv=>whnf
 ·have h1:Ib g=false:=by simpa using h1
  repeat refine Bj ?_
  refine L9 4 (Ah []) rfl De ?_
  rw [Zy (fun p=>absurd p.1 (of_decide_eq_false h1))]
  refine B3 A0 rfl rfl ?_
  exact Ay
 have h1:Fj g:=of_decide_eq_true (show Ib g=true by simpa using h1)
 repeat refine Bj ?_
 refine B5 (Hb r) rfl (A8 ?_)
 repeat refine Bj ?_
 refine ⟨fun h2=>?_,fun h2=>?_⟩<;>conv=>whnf
 ·have h2:Ig r=false:=by simpa using h2
  repeat refine Bj ?_
  refine L9 4 (Ah []) rfl De ?_
  rw [Zy (fun p=>absurd p.2.1 (of_decide_eq_false h2))]
  refine B3 A0 rfl rfl ?_
  exact Ay
 have h2:Hs r:=of_decide_eq_true (show Ig r=true by simpa using h2)
 have hP:Kh g r:=⟨h1,h2,by omega⟩
 repeat refine Bj ?_
 refine B5 (A2m (Al g r.op) r.key r.val hnw) rfl (A8 ?_)
 refine ⟨fun h5=>?_,fun h5=>?_⟩<;>conv=>whnf
 ·have h5:(C8 (Al g r.op) r.key r.val).2.2=false:=by simpa using h5
  repeat refine Bj ?_
  refine ⟨fun h8=>have h8:=bne_iff_ne.1 h8;?_,fun h8=>have h8:=bne_eq_false_iff_eq.1 h8;?_⟩<;>conv=>whnf
  ·have h8:(Al g r.op).kind≠8:=h8
   repeat refine Bj ?_
   refine L9 4 (Ah []) rfl De ?_
   rw [A8a hP h5 h8]
   refine B3 A0 rfl rfl ?_
   exact Ay
  have h8:(Al g r.op).kind=8:=h8
  repeat refine Bj ?_
  have hnb:¬ ((C8 (Al g r.op) r.key r.val).2.2=false∧(Al g r.op).kind≠8):=(fun p=>p.2 h8)
  refine B5 (Oo (Al g r.op).kind) rfl (A8 ?_)
  refine ⟨fun hr=>?_,fun hr=>?_⟩<;>conv=>whnf
  ·have hr:(Al g r.op).kind=5∨(Al g r.op).kind=6∨(Al g r.op).kind=8:=of_decide_eq_true hr
   refine Cq (Vq (Al g r.op).kind cs (G4 r) hl) rfl (A8 ?_)
   refine ⟨fun h6=>?_,fun h6=>?_⟩<;>conv=>whnf
   ·have h6:(Dv (Al g r.op).kind cs (G4 r)).2=false:=by simpa using h6
    repeat refine Bj ?_
    refine L9 4 (Ah []) rfl De ?_
    rw [Vv hP hnb h6]
    refine B3 A0 rfl rfl ?_
    exact Ay
   have h6:(Dv (Al g r.op).kind cs (G4 r)).2=true:=by simpa using h6
   repeat refine Bj ?_
   have h7:(Al g r.op).kind≠7:=by omega
   refine ⟨fun h7'=>have h7':=eq_of_beq h7';?_,fun h7'=>have h7':=beq_eq_false_iff_ne.1 h7';?_⟩<;>conv=>whnf
   ·exact absurd h7' h7
   refine Ed 4 (Ah []) rfl De ?_
   refine C0 A0 false [25] (fun k:Nat=>[(21,.c (vi k))]) (fun k=>[⟨6,[.c (vi (Al g r.op).kind),.c (vi (Al g r.op).a),.c (vi (Al g r.op).b),.own 5]⟩,⟨8,[.c (vi (r.stamp).epoch),.c (vi (r.stamp).turn)]⟩]) (fun k=>[⟨5,At (Al g r.op).outs⟩,⟨4,Ah (emL g r (r.stamp) k)⟩,⟨7,Ak (Dv (Al g r.op).kind cs (G4 r)).1⟩])
    (fun k=>k≤(Al g r.op).outs.length) (fun k=>(Al g r.op).outs.length-k) 0 (Nat.zero_le _) ⟨G9,trivial⟩ Cf ⟨Eu,Eu,Eu,trivial⟩ Cr A7 (fun k hk=>?_)
   conv=>whnf
   conv=>whnf
   refine Fi (fun h=>?_) fun h=>?_<;>conv=>whnf
   ·have h:k<(Al g r.op).outs.length:=by omega
    have hem:=Yv (g:=g) (r:=r) (s:=r.stamp) (k:=k)
    first|(refine B7 23 rfl [0,1,2,3,4,5,6,7,8,9,10,11,12] A7 (A8 ?_))
    (repeat refine An ?_)
    refine B1 A0 rfl rfl rfl rfl rfl rfl rfl rfl rfl rfl rfl (Ah (emL g r (r.stamp) k++[Qa r (r.stamp) (C8 (Al g r.op) r.key r.val).1 (C8 (Al g r.op) r.key r.val).2.1 ((Al g r.op).outs.getD k default)])) (Aa rfl) Bg Ab (A8 ?_)
    (repeat refine An ?_)
    refine B9 [(4,10)] (k+1) Ab Ab ⟨rfl,trivial⟩ ⟨rfl,congrArg Ah (T7 h).symm,rfl,trivial⟩ Cf A7 Cr A7
   repeat refine Bj ?_
   rw [R4 hP hnb h6,Yw h7,Yu Ab]
   refine B3 A0 rfl rfl ?_
   exact Ay
  exact absurd (.inr (.inr h8)) (of_decide_eq_false hr)
 have h5:(C8 (Al g r.op) r.key r.val).2.2=true:=by simpa using h5
 repeat refine Bj ?_
 have hnb:¬ ((C8 (Al g r.op) r.key r.val).2.2=false∧(Al g r.op).kind≠8):=(fun p=>by rw [p.1] at h5;cases h5)
 refine B5 (Oo (Al g r.op).kind) rfl (A8 ?_)
 refine ⟨fun hr=>?_,fun hr=>?_⟩<;>conv=>whnf
 ·have hr:(Al g r.op).kind=5∨(Al g r.op).kind=6∨(Al g r.op).kind=8:=of_decide_eq_true hr
  refine Cq (Vq (Al g r.op).kind cs (G4 r) hl) rfl (A8 ?_)
  refine ⟨fun h6=>?_,fun h6=>?_⟩<;>conv=>whnf
  ·have h6:(Dv (Al g r.op).kind cs (G4 r)).2=false:=by simpa using h6
   repeat refine Bj ?_
   refine L9 4 (Ah []) rfl De ?_
   rw [Vv hP hnb h6]
   refine B3 A0 rfl rfl ?_
   exact Ay
  have h6:(Dv (Al g r.op).kind cs (G4 r)).2=true:=by simpa using h6
  repeat refine Bj ?_
  have h7:(Al g r.op).kind≠7:=by omega
  refine ⟨fun h7'=>have h7':=eq_of_beq h7';?_,fun h7'=>have h7':=beq_eq_false_iff_ne.1 h7';?_⟩<;>conv=>whnf
  ·exact absurd h7' h7
  refine Ed 4 (Ah []) rfl De ?_
  refine C0 A0 false [25] (fun k:Nat=>[(21,.c (vi k))]) (fun k=>[⟨6,[.c (vi (Al g r.op).kind),.c (vi (Al g r.op).a),.c (vi (Al g r.op).b),.own 5]⟩,⟨8,[.c (vi (r.stamp).epoch),.c (vi (r.stamp).turn)]⟩]) (fun k=>[⟨5,At (Al g r.op).outs⟩,⟨4,Ah (emL g r (r.stamp) k)⟩,⟨7,Ak (Dv (Al g r.op).kind cs (G4 r)).1⟩])
   (fun k=>k≤(Al g r.op).outs.length) (fun k=>(Al g r.op).outs.length-k) 0 (Nat.zero_le _) ⟨G9,trivial⟩ Cf ⟨Eu,Eu,Eu,trivial⟩ Cr A7 (fun k hk=>?_)
  conv=>whnf
  conv=>whnf
  refine Fi (fun h=>?_) fun h=>?_<;>conv=>whnf
  ·have h:k<(Al g r.op).outs.length:=by omega
   have hem:=Yv (g:=g) (r:=r) (s:=r.stamp) (k:=k)
   first|(refine B7 23 rfl [0,1,2,3,4,5,6,7,8,9,10,11,12] A7 (A8 ?_))
   (repeat refine An ?_)
   refine B1 A0 rfl rfl rfl rfl rfl rfl rfl rfl rfl rfl rfl (Ah (emL g r (r.stamp) k++[Qa r (r.stamp) (C8 (Al g r.op) r.key r.val).1 (C8 (Al g r.op) r.key r.val).2.1 ((Al g r.op).outs.getD k default)])) (Aa rfl) Bg Ab (A8 ?_)
   (repeat refine An ?_)
   refine B9 [(4,10)] (k+1) Ab Ab ⟨rfl,trivial⟩ ⟨rfl,congrArg Ah (T7 h).symm,rfl,trivial⟩ Cf A7 Cr A7
  repeat refine Bj ?_
  rw [R4 hP hnb h6,Yw h7,Yu Ab]
  refine B3 A0 rfl rfl ?_
  exact Ay
 have hr:¬ ((Al g r.op).kind=5∨(Al g r.op).kind=6∨(Al g r.op).kind=8):=of_decide_eq_false hr
 have e6:=A37 (l:=cs) (x:=G4 r) hr
 have h6:(Dv (Al g r.op).kind cs (G4 r)).2=true:=by rw [e6]
 have e61:(Dv (Al g r.op).kind cs (G4 r)).1=cs:=by rw [e6]
 repeat refine Bj ?_
 refine ⟨fun h7=>have h7:=eq_of_beq h7;?_,fun h7=>have h7:=beq_eq_false_iff_ne.1 h7;?_⟩<;>conv=>whnf
 ·have h7:(Al g r.op).kind=7:=h7
  refine B5 (R0 r.stamp) rfl (A8 ?_)
  refine ⟨fun hnt=>?_,fun hnt=>?_⟩<;>conv=>whnf
  ·have hnt:(Dd r.stamp).2=false:=by simpa using hnt
   repeat refine Bj ?_
   refine L9 4 (Ah []) rfl De ?_
   rw [R4 hP hnb h6,A9k h7 hnt,e61]
   refine B3 A0 rfl rfl ?_
   exact Ay
  have hnt:(Dd r.stamp).2=true:=by simpa using hnt
  repeat refine Bj ?_
  refine Ed 4 (Ah []) rfl De ?_
  refine C0 A0 false [25] (fun k:Nat=>[(21,.c (vi k))]) (fun k=>[⟨6,[.c (vi (Al g r.op).kind),.c (vi (Al g r.op).a),.c (vi (Al g r.op).b),.own 5]⟩,⟨7,[.c (vi ((Dd r.stamp).1).epoch),.c (vi ((Dd r.stamp).1).turn)]⟩]) (fun k=>[⟨5,At (Al g r.op).outs⟩,⟨4,Ah (emL g r ((Dd r.stamp).1) k)⟩,⟨3,Ak cs⟩])
   (fun k=>k≤(Al g r.op).outs.length) (fun k=>(Al g r.op).outs.length-k) 0 (Nat.zero_le _) ⟨G9,trivial⟩ Cf ⟨Eu,Eu,Eu,trivial⟩ Cr A7 (fun k hk=>?_)
  conv=>whnf
  conv=>whnf
  refine Fi (fun h=>?_) fun h=>?_<;>conv=>whnf
  ·have h:k<(Al g r.op).outs.length:=by omega
   have hem:=Yv (g:=g) (r:=r) (s:=(Dd r.stamp).1) (k:=k)
   first|(refine B7 23 rfl [0,1,2,3,4,5,6,7,8,9,10,11,12] A7 (A8 ?_))
   (repeat refine An ?_)
   refine B1 A0 rfl rfl rfl rfl rfl rfl rfl rfl rfl rfl rfl (Ah (emL g r ((Dd r.stamp).1) k++[Qa r ((Dd r.stamp).1) (C8 (Al g r.op) r.key r.val).1 (C8 (Al g r.op) r.key r.val).2.1 ((Al g r.op).outs.getD k default)])) (Aa rfl) Bg Ab (A8 ?_)
   (repeat refine An ?_)
   refine B9 [(4,10)] (k+1) Ab Ab ⟨rfl,trivial⟩ ⟨rfl,congrArg Ah (T7 h).symm,rfl,trivial⟩ Cf A7 Cr A7
  repeat refine Bj ?_
  rw [R4 hP hnb h6,B2z h7 hnt,e61,Yu Ab]
  refine B3 A0 rfl rfl ?_
  exact Ay
 have h7:(Al g r.op).kind≠7:=h7
 repeat refine Bj ?_
 refine Ed 4 (Ah []) rfl De ?_
 refine C0 A0 false [25] (fun k:Nat=>[(21,.c (vi k))]) (fun k=>[⟨6,[.c (vi (Al g r.op).kind),.c (vi (Al g r.op).a),.c (vi (Al g r.op).b),.own 5]⟩,⟨7,[.c (vi (r.stamp).epoch),.c (vi (r.stamp).turn)]⟩]) (fun k=>[⟨5,At (Al g r.op).outs⟩,⟨4,Ah (emL g r (r.stamp) k)⟩,⟨3,Ak cs⟩])
  (fun k=>k≤(Al g r.op).outs.length) (fun k=>(Al g r.op).outs.length-k) 0 (Nat.zero_le _) ⟨G9,trivial⟩ Cf ⟨Eu,Eu,Eu,trivial⟩ Cr A7 (fun k hk=>?_)
 conv=>whnf
 conv=>whnf
 refine Fi (fun h=>?_) fun h=>?_<;>conv=>whnf
 ·have h:k<(Al g r.op).outs.length:=by omega
  have hem:=Yv (g:=g) (r:=r) (s:=r.stamp) (k:=k)
  first|(refine B7 23 rfl [0,1,2,3,4,5,6,7,8,9,10,11,12] A7 (A8 ?_))
  (repeat refine An ?_)
  refine B1 A0 rfl rfl rfl rfl rfl rfl rfl rfl rfl rfl rfl (Ah (emL g r (r.stamp) k++[Qa r (r.stamp) (C8 (Al g r.op) r.key r.val).1 (C8 (Al g r.op) r.key r.val).2.1 ((Al g r.op).outs.getD k default)])) (Aa rfl) Bg Ab (A8 ?_)
  (repeat refine An ?_)
  refine B9 [(4,9)] (k+1) Ab Ab ⟨rfl,trivial⟩ ⟨rfl,congrArg Ah (T7 h).symm,rfl,trivial⟩ Cf A7 Cr A7
 repeat refine Bj ?_
 rw [R4 hP hnb h6,Yw h7,e61,Yu Ab]
 refine B3 A0 rfl rfl ?_
 exact Ay
theorem Vl (g:Ap)(r:Ae)(hg:g.w≤16777216):Bo Tryz.prog 152 [.agg g.c,.agg r.c] [.one (vb (capped g r))]:=by
 refine Bh A0 false Tryz.func152 rfl Aw fun W=>?_
 conv=>whnf
 refine Cq (Mf g r.op hg) rfl (A8 ?_)
 refine B5 (R0 r.stamp) rfl (A8 ?_)
 cases h3:Do r.op 0 (g.nodes.length-1)
 ·have h4:=Go.Sx.Bn.1 h3
  rw [Xt h3]
  repeat refine Bj ?_
  rw [P3 (fun p=>h4 ⟨p.2.1.1.1,by have:=p.2.2;omega⟩)]
  refine B3 A0 rfl rfl ?_
  exact Ay
 have h4:=Go.Sx.As.1 h3
 rw [Us h3]
 have hk:r.op.toNat<g.nodes.length:=by omega
 obtain ⟨hnw,hol⟩:=A5p hg hk
 repeat refine Bj ?_
 refine B5 (I0 g Ab) rfl (A8 ?_)
 repeat refine Bj ?_
 refine ⟨fun h1=>?_,fun h1=>?_⟩<;>conv=>whnf
 ·have h1:Fj g:=of_decide_eq_true h1
  repeat refine Bj ?_
  refine B5 (Hb r) rfl (A8 ?_)
  repeat refine Bj ?_
  refine ⟨fun h2=>?_,fun h2=>?_⟩<;>conv=>whnf
  ·have h2:Hs r:=of_decide_eq_true h2
   have hP:Kh g r:=⟨h1,h2,by omega⟩
   rw [A6q hP]
   repeat refine Bj ?_
   refine ⟨fun h7=>?_,fun h7=>?_⟩<;>conv=>whnf
   ·have h7:((Al g r.op).kind==7)=true:=h7
    rw [h7]
    repeat refine Bj ?_
    (repeat refine An ?_)
    refine ⟨fun h8=>?_,fun h8=>?_⟩<;>conv=>whnf
    ·have h8:decide (((Al g r.op).outs.length:Int)>0)=true:=h8
     rw [h8]
     repeat refine Bj ?_
     refine B3 A0 rfl rfl ?_
     exact Ay
    have h8:decide (((Al g r.op).outs.length:Int)>0)=false:=h8
    rw [h8]
    repeat refine Bj ?_
    refine B3 A0 rfl rfl ?_
    exact Ay
   have h7:((Al g r.op).kind==7)=false:=h7
   rw [h7]
   repeat refine Bj ?_
   refine B3 A0 rfl rfl ?_
   exact Ay
  repeat refine Bj ?_
  rw [P3 (fun p=>absurd p.2.1 (of_decide_eq_false h2))]
  refine B3 A0 rfl rfl ?_
  exact Ay
 repeat refine Bj ?_
 rw [P3 (fun p=>absurd p.1 (of_decide_eq_false h1))]
 refine B3 A0 rfl rfl ?_
 exact Ay
theorem Ku (n lo hi:Int):Bo Tryz.prog 66 [.one (vi n),.one (vi lo),.one (vi hi)] [.one (vi (Em n lo hi))]:=by
 refine Bh A0 false Tryz.func66 rfl Aw fun W=>?_
 conv=>whnf
 repeat' (first|(refine L6 ?_;conv=>whnf)|(refine L7 ?_;conv=>whnf)|(refine ⟨fun h=>?_,fun h=>?_⟩<;>conv=>whnf)|(refine B3 A0 rfl rfl ⟨?_,trivial⟩;conv=>whnf)|(refine Ft ?_;conv=>whnf)|fail)
 all_goals (refine congrArg vi ?_;simp only [decide_eq_true_eq,decide_eq_false_iff_not] at *;unfold Em;repeat' split)<;>first|contradiction|omega
theorem Zt (x:A5):Bo Tryz.prog 65 [.agg x.c] [.one (Fg (Rd (Em x.graph.workers 0 4).toNat))]:=by
 have hb:=Gm x.graph.workers 0 4 Aw
 obtain ⟨n,hn⟩:∃n:Nat,Em x.graph.workers 0 4=n:=⟨(Em x.graph.workers 0 4).toNat,by omega⟩
 have h4:n≤4:=by omega
 refine Bh A0 false Tryz.func65 rfl Aw fun W=>?_
 conv=>whnf
 refine B5 (Ku x.graph.workers 0 4) rfl (A8 ?_)
 rw [hn]
 refine Ed 1 (Fg []) rfl De ?_
 refine C0 A0 false [9] (fun k:Nat=>[(5,.c (vi k))]) (fun k=>[]) (fun k=>[⟨1,Fg (pA k)⟩])
  (fun k=>k≤n) (fun k=>n-k) 0 (Nat.zero_le _) ⟨G9,trivial⟩ trivial ⟨Eu,trivial⟩ Cr A7 (fun k hk=>?_)
 conv=>whnf
 refine Fi (fun h=>?_) fun h=>?_<;>conv=>whnf
 ·have h:k<n:=by omega
  have hl:=A35 k
  refine B1 A0 rfl rfl rfl rfl rfl rfl rfl rfl rfl rfl rfl (Fg (pA k++pW k)) (B1o rfl rfl rfl rfl) Bg Ab (A8 ?_)
  (repeat refine An ?_)
  refine B9 [(1,3)] (k+1) Ab Ab ⟨rfl,trivial⟩ ⟨congrArg Fg (A5u k).symm,trivial⟩ trivial A7 Cr A7
 have e:n=k:=by omega
 subst e
 have hl:=A35 n
 refine C0 A0 false [] (fun k:Nat=>[(6,.c (vi k))]) (fun k=>[]) (fun k=>[⟨1,Fg (pA n++pC n k)⟩])
  (fun k=>k≤n) (fun k=>n-k) 0 (Nat.zero_le _) ⟨G9,trivial⟩ trivial ⟨Eu,trivial⟩ Cr A7 (fun k hk=>?_)
 conv=>whnf
 refine Fi (fun h=>?_) fun h=>?_<;>conv=>whnf
 ·have h:k<n:=by omega
  have hc:=A36 n k h4
  refine C0 A0 false [] (fun j:Nat=>[(7,.c (vi j))]) (fun _=>[]) (fun j=>[⟨1,Fg (pA n++(pC n k++pB k j))⟩])
   (fun j=>j≤n) (fun j=>n-j) 0 (Nat.zero_le _) ⟨rfl,trivial⟩ trivial ⟨(congrArg (fun l=>Is _ _ (pA n++l)) (List.append_nil _)).symm,trivial⟩ trivial A7 (fun j hj=>?_)
  conv=>whnf
  refine Fi (fun h'=>?_) fun h'=>?_<;>conv=>whnf
  ·have h':j<n:=by omega
   have hd:=B07 k j
   have hs:=A5v k j
   refine ⟨fun hq=>have hq:=bne_iff_ne.1 hq;?_,fun hq=>have hq:=bne_eq_false_iff_eq.1 hq;?_⟩<;>conv=>whnf
   ·(repeat refine An ?_)
    refine B1 A0 rfl rfl rfl rfl rfl rfl rfl rfl rfl rfl rfl (Fg (pA n++(pC n k++pB k j)++[⟨4,k,j⟩,⟨5,k,j⟩])) (B4h rfl rfl) Bg (by simp only [List.length_append];omega) (A8 ?_)
    (repeat refine An ?_)
    refine B9 [(1,3)] (j+1) Ab Ab ⟨rfl,trivial⟩ ⟨?_,trivial⟩ trivial A7 trivial A7
    exact congrArg Fg (by rw [hs,pK,if_neg hq];simp only [List.append_assoc])
   (repeat refine An ?_)
   refine B9 [] (j+1) Ab Ab ⟨rfl,trivial⟩ ⟨?_,trivial⟩ trivial A7 trivial A7
   exact congrArg Fg (by rw [hs,pK,if_pos hq,List.append_nil])
  have e:n=j:=by omega
  (repeat refine An ?_)
  refine B9 [] (k+1) Ab Ab ⟨rfl,trivial⟩ ⟨congrArg Fg (by rw [←e,A5w]),trivial⟩ trivial A7 Cr A7
 have e:k=n:=by omega
 subst e
 have hc:=A36 k k h4
 refine C0 A0 false [] (fun j:Nat=>[(8,.c (vi j))]) (fun _=>[]) (fun j=>[⟨1,Fg (pA k++pC k k++pE j)⟩])
  (fun j=>j≤4) (fun j=>4-j) 0 (Nat.zero_le _) ⟨rfl,trivial⟩ trivial ⟨(congrArg (fun l=>Is _ _ l) (List.append_nil _)).symm,trivial⟩ trivial A7 (fun j hj=>?_)
 conv=>whnf
 refine Fi (fun h'=>?_) fun h'=>?_<;>conv=>whnf
 ·have h':j<4:=by omega
  have hd:=B08 j
  (repeat refine An ?_)
  refine B1 A0 rfl rfl rfl rfl rfl rfl rfl rfl rfl rfl rfl (Fg (pA k++pC k k++pE j++[⟨6,j,0⟩])) (Aa rfl) Bg (by simp only [List.length_append];omega) (A8 ?_)
  (repeat refine An ?_)
  refine B9 [(1,3)] (j+1) Ab Ab ⟨rfl,trivial⟩ ⟨?_,trivial⟩ trivial A7 trivial A7
  exact congrArg Fg (by rw [B35];simp only [List.append_assoc])
 refine B3 A0 rfl rfl ⟨?_,trivial⟩
 have e:j=4:=by omega
 subst e
 exact congrArg Fg (by rw [Rd,Int.toNat_natCast])
end Go.Proofs.YtdendlkeiaccpaaGreatDoor
