/- Part 17 of the proof that each of the laws FnColours returns true for every input. No conditions. -/
import Derived.Test.YtdendlkeiaccpaaGreatDoorP16
import Derived.Test.YtdendlkeiaccpaaGreatDoorP3
import Derived.Test.YtdendlkeiaccpaaGreatDoorP6

set_option linter.unusedSimpArgs false
set_option linter.unusedVariables false
set_option maxRecDepth 100000
namespace Go.Proofs.YtdendlkeiaccpaaGreatDoor
open Go.Sx
theorem Wo {g:Aq}{op:Int}(h:Di op 0 (g.nodes.length-1)=true):Tb g op=(Ar g op,true):=if_pos h
theorem Ze {g:Aq}{op:Int}(h:Di op 0 (g.nodes.length-1)=false):Tb g op=(⟨0,0,0,[]⟩,false):=if_neg (by rw [h];decide)
theorem A6i {k:Int}{l:List Bj}{x:Bj}(h:¬ (k=5∨k=6∨k=8)):Dx k l x=(l,true):=Zp (fun p=>h (.inl p)) (fun p=>h (.inr (.inr p))) (fun p=>h (.inr (.inl p)))
set_option maxHeartbeats 4000000 in
theorem Xn (g:Aq)(cs:List Bj)(r:Ae)(hg:g.w≤16777216)(hl:cs.length≤16000000):Be Tryz.prog 151 [.agg g.c,.one (Bm cs),.agg r.c] [.one (Bm (F0 g cs r).1),.one (Ag (F0 g cs r).2.1),.one (vb (F0 g cs r).2.2)]:=by
 refine B5 A0 false Tryz.func151 rfl Az fun W=>?_
 conv=>whnf
 refine B6 A0 rfl rfl rfl rfl rfl rfl rfl rfl rfl rfl rfl (Bm cs) (C1) (fun _=>Es cs) Ac (A8 ?_)
 refine Cn (Xk g r.op hg) rfl (A8 ?_)
 cases h3:Di r.op 0 (g.nodes.length-1)
 ·have h4:=Go.Sx.Aw.1 h3
  rw [Ze h3]
  repeat refine Bd ?_
  refine Ml 4 (Ag []) rfl Du ?_
  rw [A13 (fun p=>h4 ⟨p.2.1.1.1,by have:=p.2.2;omega⟩)]
  refine Ap A0 rfl rfl ?_
  exact B1
 have h4:=Go.Sx.Ah.1 h3
 rw [Wo h3]
 have hk:r.op.toNat<g.nodes.length:=by omega
 obtain ⟨hnw,hol⟩:=A78 hg hk
 repeat refine Bd ?_
 refine At (Iz g Ac) rfl (A8 ?_)
 repeat refine Bd ?_
 refine ⟨fun h1=>?_,fun h1=>?_⟩<;>conv=>whnf
 ·have h1:Hi g=false:=by simpa using h1
  repeat refine Bd ?_
  refine Ml 4 (Ag []) rfl Du ?_
  rw [A13 (fun p=>absurd p.1 (of_decide_eq_false h1))]
  refine Ap A0 rfl rfl ?_
  exact B1
 have h1:Ft g:=of_decide_eq_true (show Hi g=true by simpa using h1)
 repeat refine Bd ?_
 refine At (Hx r) rfl (A8 ?_)
 repeat refine Bd ?_
 refine ⟨fun h2=>?_,fun h2=>?_⟩<;>conv=>whnf
 ·have h2:Ib r=false:=by simpa using h2
  repeat refine Bd ?_
  refine Ml 4 (Ag []) rfl Du ?_
  rw [A13 (fun p=>absurd p.2.1 (of_decide_eq_false h2))]
  refine Ap A0 rfl rfl ?_
  exact B1
 have h2:H2 r:=of_decide_eq_true (show Ib r=true by simpa using h2)
 have hP:Lo g r:=⟨h1,h2,by omega⟩
 repeat refine Bd ?_
 refine At (A4o (Ar g r.op) r.key r.val hnw) rfl (A8 ?_)
 refine ⟨fun h5=>?_,fun h5=>?_⟩<;>conv=>whnf
 ·have h5:(Cj (Ar g r.op) r.key r.val).2.2=false:=by simpa using h5
  repeat refine Bd ?_
  refine ⟨fun h8=>have h8:=bne_iff_ne.1 h8;?_,fun h8=>have h8:=bne_eq_false_iff_eq.1 h8;?_⟩<;>conv=>whnf
  ·have h8:(Ar g r.op).kind≠8:=h8
   repeat refine Bd ?_
   refine Ml 4 (Ag []) rfl Du ?_
   rw [B0v hP h5 h8]
   refine Ap A0 rfl rfl ?_
   exact B1
  have h8:(Ar g r.op).kind=8:=h8
  repeat refine Bd ?_
  have hnb:¬ ((Cj (Ar g r.op) r.key r.val).2.2=false∧(Ar g r.op).kind≠8):=(fun p=>p.2 h8)
  refine At (Qd (Ar g r.op).kind) rfl (A8 ?_)
  refine ⟨fun hr=>?_,fun hr=>?_⟩<;>conv=>whnf
  ·have hr:(Ar g r.op).kind=5∨(Ar g r.op).kind=6∨(Ar g r.op).kind=8:=of_decide_eq_true hr
   refine Cn (Xm (Ar g r.op).kind cs (Gn r) hl) rfl (A8 ?_)
   refine ⟨fun h6=>?_,fun h6=>?_⟩<;>conv=>whnf
   ·have h6:(Dx (Ar g r.op).kind cs (Gn r)).2=false:=by simpa using h6
    repeat refine Bd ?_
    refine Ml 4 (Ag []) rfl Du ?_
    rw [Xq hP hnb h6]
    refine Ap A0 rfl rfl ?_
    exact B1
   have h6:(Dx (Ar g r.op).kind cs (Gn r)).2=true:=by simpa using h6
   repeat refine Bd ?_
   have h7:(Ar g r.op).kind≠7:=by omega
   refine ⟨fun h7'=>have h7':=eq_of_beq h7';?_,fun h7'=>have h7':=beq_eq_false_iff_ne.1 h7';?_⟩<;>conv=>whnf
   ·exact absurd h7' h7
   refine Eo 4 (Ag []) rfl Du ?_
   refine C0 A0 false [25] (fun k:Nat=>[(21,.c (vi k))]) (fun k=>[⟨6,[.c (vi (Ar g r.op).kind),.c (vi (Ar g r.op).a),.c (vi (Ar g r.op).b),.own 5]⟩,⟨8,[.c (vi (r.stamp).epoch),.c (vi (r.stamp).turn)]⟩]) (fun k=>[⟨5,Au (Ar g r.op).outs⟩,⟨4,Ag (emL g r (r.stamp) k)⟩,⟨7,Bm (Dx (Ar g r.op).kind cs (Gn r)).1⟩])
    (fun k=>k≤(Ar g r.op).outs.length) (fun k=>(Ar g r.op).outs.length-k) 0 (Nat.zero_le _) ⟨G3,trivial⟩ Cg ⟨Ek,Ek,Ek,trivial⟩ Co A7 (fun k hk=>?_)
   conv=>whnf
   conv=>whnf
   refine F4 (fun h=>?_) fun h=>?_<;>conv=>whnf
   ·have h:k<(Ar g r.op).outs.length:=by omega
    have hem:=A0w (g:=g) (r:=r) (s:=r.stamp) (k:=k)
    first|(refine Ax 23 rfl [0,1,2,3,4,5,6,7,8,9,10,11,12] A7 (A8 ?_))
    (repeat refine An ?_)
    refine B6 A0 rfl rfl rfl rfl rfl rfl rfl rfl rfl rfl rfl (Ag (emL g r (r.stamp) k++[Rn r (r.stamp) (Cj (Ar g r.op) r.key r.val).1 (Cj (Ar g r.op) r.key r.val).2.1 ((Ar g r.op).outs.getD k default)])) (Ad rfl) Bp Ac (A8 ?_)
    (repeat refine An ?_)
    refine B8 [(4,10)] (k+1) Ac Ac ⟨rfl,trivial⟩ ⟨rfl,congrArg Ag (Us h).symm,rfl,trivial⟩ Cg A7 Co A7
   repeat refine Bd ?_
   rw [Sj hP hnb h6,A0x h7,A0v Ac]
   refine Ap A0 rfl rfl ?_
   exact B1
  exact absurd (.inr (.inr h8)) (of_decide_eq_false hr)
 have h5:(Cj (Ar g r.op) r.key r.val).2.2=true:=by simpa using h5
 repeat refine Bd ?_
 have hnb:¬ ((Cj (Ar g r.op) r.key r.val).2.2=false∧(Ar g r.op).kind≠8):=(fun p=>by rw [p.1] at h5;cases h5)
 refine At (Qd (Ar g r.op).kind) rfl (A8 ?_)
 refine ⟨fun hr=>?_,fun hr=>?_⟩<;>conv=>whnf
 ·have hr:(Ar g r.op).kind=5∨(Ar g r.op).kind=6∨(Ar g r.op).kind=8:=of_decide_eq_true hr
  refine Cn (Xm (Ar g r.op).kind cs (Gn r) hl) rfl (A8 ?_)
  refine ⟨fun h6=>?_,fun h6=>?_⟩<;>conv=>whnf
  ·have h6:(Dx (Ar g r.op).kind cs (Gn r)).2=false:=by simpa using h6
   repeat refine Bd ?_
   refine Ml 4 (Ag []) rfl Du ?_
   rw [Xq hP hnb h6]
   refine Ap A0 rfl rfl ?_
   exact B1
  have h6:(Dx (Ar g r.op).kind cs (Gn r)).2=true:=by simpa using h6
  repeat refine Bd ?_
  have h7:(Ar g r.op).kind≠7:=by omega
  refine ⟨fun h7'=>have h7':=eq_of_beq h7';?_,fun h7'=>have h7':=beq_eq_false_iff_ne.1 h7';?_⟩<;>conv=>whnf
  ·exact absurd h7' h7
  refine Eo 4 (Ag []) rfl Du ?_
  refine C0 A0 false [25] (fun k:Nat=>[(21,.c (vi k))]) (fun k=>[⟨6,[.c (vi (Ar g r.op).kind),.c (vi (Ar g r.op).a),.c (vi (Ar g r.op).b),.own 5]⟩,⟨8,[.c (vi (r.stamp).epoch),.c (vi (r.stamp).turn)]⟩]) (fun k=>[⟨5,Au (Ar g r.op).outs⟩,⟨4,Ag (emL g r (r.stamp) k)⟩,⟨7,Bm (Dx (Ar g r.op).kind cs (Gn r)).1⟩])
   (fun k=>k≤(Ar g r.op).outs.length) (fun k=>(Ar g r.op).outs.length-k) 0 (Nat.zero_le _) ⟨G3,trivial⟩ Cg ⟨Ek,Ek,Ek,trivial⟩ Co A7 (fun k hk=>?_)
  conv=>whnf
  conv=>whnf
  refine F4 (fun h=>?_) fun h=>?_<;>conv=>whnf
  ·have h:k<(Ar g r.op).outs.length:=by omega
   have hem:=A0w (g:=g) (r:=r) (s:=r.stamp) (k:=k)
   first|(refine Ax 23 rfl [0,1,2,3,4,5,6,7,8,9,10,11,12] A7 (A8 ?_))
   (repeat refine An ?_)
   refine B6 A0 rfl rfl rfl rfl rfl rfl rfl rfl rfl rfl rfl (Ag (emL g r (r.stamp) k++[Rn r (r.stamp) (Cj (Ar g r.op) r.key r.val).1 (Cj (Ar g r.op) r.key r.val).2.1 ((Ar g r.op).outs.getD k default)])) (Ad rfl) Bp Ac (A8 ?_)
   (repeat refine An ?_)
   refine B8 [(4,10)] (k+1) Ac Ac ⟨rfl,trivial⟩ ⟨rfl,congrArg Ag (Us h).symm,rfl,trivial⟩ Cg A7 Co A7
  repeat refine Bd ?_
  rw [Sj hP hnb h6,A0x h7,A0v Ac]
  refine Ap A0 rfl rfl ?_
  exact B1
 have hr:¬ ((Ar g r.op).kind=5∨(Ar g r.op).kind=6∨(Ar g r.op).kind=8):=of_decide_eq_false hr
 have e6:=A6i (l:=cs) (x:=Gn r) hr
 have h6:(Dx (Ar g r.op).kind cs (Gn r)).2=true:=by rw [e6]
 have e61:(Dx (Ar g r.op).kind cs (Gn r)).1=cs:=by rw [e6]
 repeat refine Bd ?_
 refine ⟨fun h7=>have h7:=eq_of_beq h7;?_,fun h7=>have h7:=beq_eq_false_iff_ne.1 h7;?_⟩<;>conv=>whnf
 ·have h7:(Ar g r.op).kind=7:=h7
  refine At (Sh r.stamp) rfl (A8 ?_)
  refine ⟨fun hnt=>?_,fun hnt=>?_⟩<;>conv=>whnf
  ·have hnt:(Dk r.stamp).2=false:=by simpa using hnt
   repeat refine Bd ?_
   refine Ml 4 (Ag []) rfl Du ?_
   rw [Sj hP hnb h6,B2c h7 hnt,e61]
   refine Ap A0 rfl rfl ?_
   exact B1
  have hnt:(Dk r.stamp).2=true:=by simpa using hnt
  repeat refine Bd ?_
  refine Eo 4 (Ag []) rfl Du ?_
  refine C0 A0 false [25] (fun k:Nat=>[(21,.c (vi k))]) (fun k=>[⟨6,[.c (vi (Ar g r.op).kind),.c (vi (Ar g r.op).a),.c (vi (Ar g r.op).b),.own 5]⟩,⟨7,[.c (vi ((Dk r.stamp).1).epoch),.c (vi ((Dk r.stamp).1).turn)]⟩]) (fun k=>[⟨5,Au (Ar g r.op).outs⟩,⟨4,Ag (emL g r ((Dk r.stamp).1) k)⟩,⟨3,Bm cs⟩])
   (fun k=>k≤(Ar g r.op).outs.length) (fun k=>(Ar g r.op).outs.length-k) 0 (Nat.zero_le _) ⟨G3,trivial⟩ Cg ⟨Ek,Ek,Ek,trivial⟩ Co A7 (fun k hk=>?_)
  conv=>whnf
  conv=>whnf
  refine F4 (fun h=>?_) fun h=>?_<;>conv=>whnf
  ·have h:k<(Ar g r.op).outs.length:=by omega
   have hem:=A0w (g:=g) (r:=r) (s:=(Dk r.stamp).1) (k:=k)
   first|(refine Ax 23 rfl [0,1,2,3,4,5,6,7,8,9,10,11,12] A7 (A8 ?_))
   (repeat refine An ?_)
   refine B6 A0 rfl rfl rfl rfl rfl rfl rfl rfl rfl rfl rfl (Ag (emL g r ((Dk r.stamp).1) k++[Rn r ((Dk r.stamp).1) (Cj (Ar g r.op) r.key r.val).1 (Cj (Ar g r.op) r.key r.val).2.1 ((Ar g r.op).outs.getD k default)])) (Ad rfl) Bp Ac (A8 ?_)
   (repeat refine An ?_)
   refine B8 [(4,10)] (k+1) Ac Ac ⟨rfl,trivial⟩ ⟨rfl,congrArg Ag (Us h).symm,rfl,trivial⟩ Cg A7 Co A7
  repeat refine Bd ?_
  rw [Sj hP hnb h6,B5j h7 hnt,e61,A0v Ac]
  refine Ap A0 rfl rfl ?_
  exact B1
 have h7:(Ar g r.op).kind≠7:=h7
 repeat refine Bd ?_
 refine Eo 4 (Ag []) rfl Du ?_
 refine C0 A0 false [25] (fun k:Nat=>[(21,.c (vi k))]) (fun k=>[⟨6,[.c (vi (Ar g r.op).kind),.c (vi (Ar g r.op).a),.c (vi (Ar g r.op).b),.own 5]⟩,⟨7,[.c (vi (r.stamp).epoch),.c (vi (r.stamp).turn)]⟩]) (fun k=>[⟨5,Au (Ar g r.op).outs⟩,⟨4,Ag (emL g r (r.stamp) k)⟩,⟨3,Bm cs⟩])
  (fun k=>k≤(Ar g r.op).outs.length) (fun k=>(Ar g r.op).outs.length-k) 0 (Nat.zero_le _) ⟨G3,trivial⟩ Cg ⟨Ek,Ek,Ek,trivial⟩ Co A7 (fun k hk=>?_)
 conv=>whnf
 conv=>whnf
 refine F4 (fun h=>?_) fun h=>?_<;>conv=>whnf
 ·have h:k<(Ar g r.op).outs.length:=by omega
  have hem:=A0w (g:=g) (r:=r) (s:=r.stamp) (k:=k)
  first|(refine Ax 23 rfl [0,1,2,3,4,5,6,7,8,9,10,11,12] A7 (A8 ?_))
  (repeat refine An ?_)
  refine B6 A0 rfl rfl rfl rfl rfl rfl rfl rfl rfl rfl rfl (Ag (emL g r (r.stamp) k++[Rn r (r.stamp) (Cj (Ar g r.op) r.key r.val).1 (Cj (Ar g r.op) r.key r.val).2.1 ((Ar g r.op).outs.getD k default)])) (Ad rfl) Bp Ac (A8 ?_)
  (repeat refine An ?_)
  refine B8 [(4,9)] (k+1) Ac Ac ⟨rfl,trivial⟩ ⟨rfl,congrArg Ag (Us h).symm,rfl,trivial⟩ Cg A7 Co A7
 repeat refine Bd ?_
 rw [Sj hP hnb h6,A0x h7,e61,A0v Ac]
 refine Ap A0 rfl rfl ?_
 exact B1
theorem Xh (g:Aq)(r:Ae)(hg:g.w≤16777216):Be Tryz.prog 152 [.agg g.c,.agg r.c] [.one (vb (capped g r))]:=by
 refine B5 A0 false Tryz.func152 rfl Az fun W=>?_
 conv=>whnf
 refine Cn (Xk g r.op hg) rfl (A8 ?_)
 refine At (Sh r.stamp) rfl (A8 ?_)
 cases h3:Di r.op 0 (g.nodes.length-1)
 ·have h4:=Go.Sx.Aw.1 h3
  rw [Ze h3]
  repeat refine Bd ?_
  rw [Qn (fun p=>h4 ⟨p.2.1.1.1,by have:=p.2.2;omega⟩)]
  refine Ap A0 rfl rfl ?_
  exact B1
 have h4:=Go.Sx.Ah.1 h3
 rw [Wo h3]
 have hk:r.op.toNat<g.nodes.length:=by omega
 obtain ⟨hnw,hol⟩:=A78 hg hk
 repeat refine Bd ?_
 refine At (Iz g Ac) rfl (A8 ?_)
 repeat refine Bd ?_
 refine ⟨fun h1=>?_,fun h1=>?_⟩<;>conv=>whnf
 ·have h1:Ft g:=of_decide_eq_true h1
  repeat refine Bd ?_
  refine At (Hx r) rfl (A8 ?_)
  repeat refine Bd ?_
  refine ⟨fun h2=>?_,fun h2=>?_⟩<;>conv=>whnf
  ·have h2:H2 r:=of_decide_eq_true h2
   have hP:Lo g r:=⟨h1,h2,by omega⟩
   rw [A85 hP]
   repeat refine Bd ?_
   refine ⟨fun h7=>?_,fun h7=>?_⟩<;>conv=>whnf
   ·have h7:((Ar g r.op).kind==7)=true:=h7
    rw [h7]
    repeat refine Bd ?_
    (repeat refine An ?_)
    refine ⟨fun h8=>?_,fun h8=>?_⟩<;>conv=>whnf
    ·have h8:decide (((Ar g r.op).outs.length:Int)>0)=true:=h8
     rw [h8]
     repeat refine Bd ?_
     refine Ap A0 rfl rfl ?_
     exact B1
    have h8:decide (((Ar g r.op).outs.length:Int)>0)=false:=h8
    rw [h8]
    repeat refine Bd ?_
    refine Ap A0 rfl rfl ?_
    exact B1
   have h7:((Ar g r.op).kind==7)=false:=h7
   rw [h7]
   repeat refine Bd ?_
   refine Ap A0 rfl rfl ?_
   exact B1
  repeat refine Bd ?_
  rw [Qn (fun p=>absurd p.2.1 (of_decide_eq_false h2))]
  refine Ap A0 rfl rfl ?_
  exact B1
 repeat refine Bd ?_
 rw [Qn (fun p=>absurd p.1 (of_decide_eq_false h1))]
 refine Ap A0 rfl rfl ?_
 exact B1
theorem M5 (n lo hi:Int):Be Tryz.prog 66 [.one (vi n),.one (vi lo),.one (vi hi)] [.one (vi (Dw n lo hi))]:=by
 refine B5 A0 false Tryz.func66 rfl Az fun W=>?_
 conv=>whnf
 repeat' (first|(refine J1 ?_;conv=>whnf)|(refine J2 ?_;conv=>whnf)|(refine ⟨fun h=>?_,fun h=>?_⟩<;>conv=>whnf)|(refine Ap A0 rfl rfl ⟨?_,trivial⟩;conv=>whnf)|(refine Ex ?_;conv=>whnf)|fail)
 all_goals (refine congrArg vi ?_;simp only [decide_eq_true_eq,decide_eq_false_iff_not] at *;unfold Dw;repeat' split)<;>first|contradiction|omega
theorem A1z (x:A3):Be Tryz.prog 65 [.agg x.c] [.one (Ez (Kl (Dw x.graph.workers 0 4).toNat))]:=by
 have hb:=H8 x.graph.workers 0 4 Az
 obtain ⟨n,hn⟩:∃n:Nat,Dw x.graph.workers 0 4=n:=⟨(Dw x.graph.workers 0 4).toNat,by omega⟩
 have h4:n≤4:=by omega
 refine B5 A0 false Tryz.func65 rfl Az fun W=>?_
 conv=>whnf
 refine At (M5 x.graph.workers 0 4) rfl (A8 ?_)
 rw [hn]
 refine Eo 1 (Ez []) rfl Du ?_
 refine C0 A0 false [9] (fun k:Nat=>[(5,.c (vi k))]) (fun k=>[]) (fun k=>[⟨1,Ez (pA k)⟩])
  (fun k=>k≤n) (fun k=>n-k) 0 (Nat.zero_le _) ⟨G3,trivial⟩ trivial ⟨Ek,trivial⟩ Co A7 (fun k hk=>?_)
 conv=>whnf
 refine F4 (fun h=>?_) fun h=>?_<;>conv=>whnf
 ·have h:k<n:=by omega
  have hl:=A6g k
  refine B6 A0 rfl rfl rfl rfl rfl rfl rfl rfl rfl rfl rfl (Ez (pA k++pW k)) (B4a rfl rfl rfl rfl) Bp Ac (A8 ?_)
  (repeat refine An ?_)
  refine B8 [(1,3)] (k+1) Ac Ac ⟨rfl,trivial⟩ ⟨congrArg Ez (A8c k).symm,trivial⟩ trivial A7 Co A7
 have e:n=k:=by omega
 subst e
 have hl:=A6g n
 refine C0 A0 false [] (fun k:Nat=>[(6,.c (vi k))]) (fun k=>[]) (fun k=>[⟨1,Ez (pA n++pC n k)⟩])
  (fun k=>k≤n) (fun k=>n-k) 0 (Nat.zero_le _) ⟨G3,trivial⟩ trivial ⟨Ek,trivial⟩ Co A7 (fun k hk=>?_)
 conv=>whnf
 refine F4 (fun h=>?_) fun h=>?_<;>conv=>whnf
 ·have h:k<n:=by omega
  have hc:=A6h n k h4
  refine C0 A0 false [] (fun j:Nat=>[(7,.c (vi j))]) (fun _=>[]) (fun j=>[⟨1,Ez (pA n++(pC n k++pB k j))⟩])
   (fun j=>j≤n) (fun j=>n-j) 0 (Nat.zero_le _) ⟨rfl,trivial⟩ trivial ⟨(congrArg (fun l=>Kq _ _ (pA n++l)) (List.append_nil _)).symm,trivial⟩ trivial A7 (fun j hj=>?_)
  conv=>whnf
  refine F4 (fun h'=>?_) fun h'=>?_<;>conv=>whnf
  ·have h':j<n:=by omega
   have hd:=B3w k j
   have hs:=A8d k j
   refine ⟨fun hq=>have hq:=bne_iff_ne.1 hq;?_,fun hq=>have hq:=bne_eq_false_iff_eq.1 hq;?_⟩<;>conv=>whnf
   ·(repeat refine An ?_)
    refine B6 A0 rfl rfl rfl rfl rfl rfl rfl rfl rfl rfl rfl (Ez (pA n++(pC n k++pB k j)++[⟨4,k,j⟩,⟨5,k,j⟩])) (B64 rfl rfl) Bp (by simp only [List.length_append];omega) (A8 ?_)
    (repeat refine An ?_)
    refine B8 [(1,3)] (j+1) Ac Ac ⟨rfl,trivial⟩ ⟨?_,trivial⟩ trivial A7 trivial A7
    exact congrArg Ez (by rw [hs,pK,if_neg hq];simp only [List.append_assoc])
   (repeat refine An ?_)
   refine B8 [] (j+1) Ac Ac ⟨rfl,trivial⟩ ⟨?_,trivial⟩ trivial A7 trivial A7
   exact congrArg Ez (by rw [hs,pK,if_pos hq,List.append_nil])
  have e:n=j:=by omega
  (repeat refine An ?_)
  refine B8 [] (k+1) Ac Ac ⟨rfl,trivial⟩ ⟨congrArg Ez (by rw [←e,A8e]),trivial⟩ trivial A7 Co A7
 have e:k=n:=by omega
 subst e
 have hc:=A6h k k h4
 refine C0 A0 false [] (fun j:Nat=>[(8,.c (vi j))]) (fun _=>[]) (fun j=>[⟨1,Ez (pA k++pC k k++pE j)⟩])
  (fun j=>j≤4) (fun j=>4-j) 0 (Nat.zero_le _) ⟨rfl,trivial⟩ trivial ⟨(congrArg (fun l=>Kq _ _ l) (List.append_nil _)).symm,trivial⟩ trivial A7 (fun j hj=>?_)
 conv=>whnf
 refine F4 (fun h'=>?_) fun h'=>?_<;>conv=>whnf
 ·have h':j<4:=by omega
  have hd:=B3x j
  (repeat refine An ?_)
  refine B6 A0 rfl rfl rfl rfl rfl rfl rfl rfl rfl rfl rfl (Ez (pA k++pC k k++pE j++[⟨6,j,0⟩])) (Ad rfl) Bp (by simp only [List.length_append];omega) (A8 ?_)
  (repeat refine An ?_)
  refine B8 [(1,3)] (j+1) Ac Ac ⟨rfl,trivial⟩ ⟨?_,trivial⟩ trivial A7 trivial A7
  exact congrArg Ez (by rw [B6q];simp only [List.append_assoc])
 refine Ap A0 rfl rfl ⟨?_,trivial⟩
 have e:j=4:=by omega
 subst e
 exact congrArg Ez (by rw [Kl,Int.toNat_natCast])
end Go.Proofs.YtdendlkeiaccpaaGreatDoor
