/- Part 30 of the proof that each of the laws FnTight returns true for every input. No conditions. -/
import Derived.Test.YtonodkjaoalfjaaP29
import Derived.Test.YtonodkjaoalfjaaP24
import Derived.Test.YtonodkjaoalfjaaP10

set_option linter.unusedSimpArgs false
set_option linter.unusedVariables false
set_option maxRecDepth 100000
namespace Go.Proofs.Ytonodkjaoalfjaa
open Go.Sx
theorem Le {w f t:Int}(hw:1≤w∧w≤4)(hf:0≤f∧f<w)(ht:0≤t∧t<w):Gd w f t=f * w+t:=by
 unfold Gd
 rw [if_pos Ag]
 have e:w=1∨w=2∨w=3∨w=4:=by omega
 rcases e with rfl|rfl|rfl|rfl<;>rw [Fo (k:= .i64) (n:=f * _) (by show _∧_;omega),Fo (by show _∧_;omega)]
theorem Tx {w f t:Int}(h:¬ ((0≤f∧f<w)∧(0≤t∧t<w))):Gd w f t= -1:=by
 unfold Gd
 rw [if_neg Ag]
theorem Nw {c:A3}{f t:Int}(h:Ar c)(hf:0≤f∧f<c.graph.workers)(ht:0≤t∧t<c.graph.workers):0≤Ai c f t∧Ai c f t<c.links.length:=by
 have hl:=h.1.2.2.1
 have hw:=h.1.1.2.1
 clear h
 unfold Ai
 generalize c.graph.workers=n at *
 have e:n=1∨n=2∨n=3∨n=4:=by omega
 rcases e with rfl|rfl|rfl|rfl<;>omega
theorem Vk {c:A3}{w:Int}(h:¬ Fi c w):Df c w=(c,false):=if_neg h
theorem N5 {c:A3}{w:Int}(h:Fi c w):Df c w=(Av c w (H4 c.graph (A9 c w)).1,(H4 c.graph (A9 c w)).2):=if_pos h
theorem U4 {c:A3}{w:Int}(h:¬ Fi c w):Ct c w=(c,false):=if_neg h
theorem Lg {c:A3}{w:Int}(h:Fi c w):Ct c w=(Av c w (Et c.graph (A9 c w)).1,(Et c.graph (A9 c w)).2):=if_pos h
theorem Ot {c:A3}{w:Int}(h:¬ (Fi c w∧0<(A9 c w).staged.length)):Br c w=(c,false):=if_neg h
theorem U6 {c:A3}{w:Int}(h:Fi c w∧0<(A9 c w).staged.length)(h1:As c w=w):Br c w=(Av c w (kept (Dv (A9 c w)) (Au c w)),true):=by
 unfold Br
 rw [if_pos h,if_pos h1]
theorem S0 {c:A3}{w:Int}(h:Fi c w∧0<(A9 c w).staged.length)(h1:As c w≠w)(h2:(C6 (Bc c (Ai c w (As c w))) (Au c w)).2=false):Br c w=(c,false):=by
 unfold Br
 rw [if_pos h,if_neg h1,if_neg (by rw [h2];decide)]
theorem S2 {c:A3}{w:Int}(h:Fi c w∧0<(A9 c w).staged.length)(h1:As c w≠w)(h2:(C6 (Bc c (Ai c w (As c w))) (Au c w)).2=true):Br c w=(Av (Bo c (Ai c w (As c w)) (C6 (Bc c (Ai c w (As c w))) (Au c w)).1) w (G3 (Dv (A9 c w)) (Au c w).stamp.epoch),true):=by
 unfold Br
 rw [if_pos h,if_neg h1,if_pos h2]
theorem A28 {k n:Int}(hk:0≤k)(hn:1≤n):0≤De k n∧De k n<n:=by
 have h1:=Int.tmod_lt_of_pos k (show 0<n by omega)
 have h2:=Int.tmod_nonneg n hk
 unfold De
 (repeat' split)<;>omega
theorem Iq {c:A3}{f t:Int}(h:¬ Jb c f t):Ck c f t=(c,false):=if_neg fun p=>h p.1
theorem S3 {c:A3}{f t:Int}(h:(Bn (Bc c (Ai c f t))).2.2=false):Ck c f t=(c,false):=if_neg fun p=>by rw [p.2] at h;cases h
theorem U7 {c:A3}{f t:Int}(h:Jb c f t)(h1:(Bn (Bc c (Ai c f t))).2.2=true):Ck c f t=(Av (Bo c (Ai c f t) (Bn (Bc c (Ai c f t))).1) t (F1 (A9 c t) (Bn (Bc c (Ai c f t))).2.1),true):=if_pos ⟨h,h1⟩
theorem H6 {c:A3}{f t:Int}(h:¬ Jb c f t):Cq c f t=(c,false):=if_neg h
theorem Qw {c:A3}{f t:Int}(h:Jb c f t):Cq c f t=(Bo c (Ai c f t) (D4 (Bc c (Ai c f t))).1,(D4 (Bc c (Ai c f t))).2):=if_pos h
def Nv (c:A3) (f t:Int):Int:=if Jb c f t then Ai c f t else-1
theorem Vc {c:A3}{f t:Int}(hC:Ar c)(hne:f≠t):Gd c.graph.workers f t=Nv c f t:=by
 unfold Nv
 by_cases h:Jb c f t
 ·rw [if_pos h,Le hC.1.1.2.1 h.2.2.1 h.2.2.2]
  rfl
 ·rw [if_neg h,Tx (fun p=>h ⟨hC,hne,p⟩)]
theorem Qm {g:An}{op:Int}(h:Ek op 0 (g.nodes.length-1)=true):O1 g op=(Ae g op,true):=if_pos h
theorem Sv {g:An}{op:Int}(h:Ek op 0 (g.nodes.length-1)=false):O1 g op=(⟨0,0,0,[]⟩,false):=if_neg (by rw [h];decide)
theorem X3 {k:Int}{l:List Ax}{x:Ax}(h:¬ (k=5∨k=6∨k=8)):Cz k l x=(l,true):=T2 (fun p=>h (.inl p)) (fun p=>h (.inr (.inr p))) (fun p=>h (.inr (.inl p)))
set_option maxHeartbeats 4000000 in
theorem Xf (g:An)(cs:List Ax)(r:Ac)(hg:g.w≤16777216)(hl:cs.length≤16000000):Bp Try.prog 75 [.agg g.c,.one (Aw cs),.agg r.c] [.one (Aw (Es g cs r).1),.one (A8 (Es g cs r).2.1),.one (vb (Es g cs r).2.2)]:=by
 refine Bm A0 false Try.func75 rfl Cb fun W=>?_
 conv=>whnf
 refine B4 A0 rfl rfl rfl rfl rfl rfl rfl rfl rfl rfl rfl (Aw cs) (Ah) (fun _=>Dr cs) Ag (Af ?_)
 refine Dk (Rf g r.op hg) rfl (Af ?_)
 cases h3:Ek r.op 0 (g.nodes.length-1)
 ·have h4:=Go.Sx.B3.1 h3
  rw [Sv h3]
  repeat refine Bg ?_
  refine Mn 4 (A8 []) rfl Da ?_
  rw [Uf (fun p=>h4 ⟨p.2.1.1.1,by have:=p.2.2;omega⟩)]
  refine B1 A0 rfl rfl ?_
  exact C1
 have h4:=Go.Sx.Al.1 h3
 rw [Qm h3]
 have hk:r.op.toNat<g.nodes.length:=by omega
 obtain ⟨hnw,hol⟩:=Yq hg hk
 repeat refine Bg ?_
 refine B7 (Is g Ag) rfl (Af ?_)
 repeat refine Bg ?_
 refine ⟨fun h1=>?_,fun h1=>?_⟩<;>conv=>whnf
 ·have h1:Jq g=false:=by simpa using h1
  repeat refine Bg ?_
  refine Mn 4 (A8 []) rfl Da ?_
  rw [Uf (fun p=>absurd p.1 (of_decide_eq_false h1))]
  refine B1 A0 rfl rfl ?_
  exact C1
 have h1:Fh g:=of_decide_eq_true (show Jq g=true by simpa using h1)
 repeat refine Bg ?_
 refine B7 (Ft r) rfl (Af ?_)
 repeat refine Bg ?_
 refine ⟨fun h2=>?_,fun h2=>?_⟩<;>conv=>whnf
 ·have h2:Gp r=false:=by simpa using h2
  repeat refine Bg ?_
  refine Mn 4 (A8 []) rfl Da ?_
  rw [Uf (fun p=>absurd p.2.1 (of_decide_eq_false h2))]
  refine B1 A0 rfl rfl ?_
  exact C1
 have h2:Gt r:=of_decide_eq_true (show Gp r=true by simpa using h2)
 have hP:Ig g r:=⟨h1,h2,by omega⟩
 repeat refine Bg ?_
 refine B7 (Vy (Ae g r.op) r.key r.val hnw) rfl (Af ?_)
 refine ⟨fun h5=>?_,fun h5=>?_⟩<;>conv=>whnf
 ·have h5:(Bh (Ae g r.op) r.key r.val).2.2=false:=by simpa using h5
  repeat refine Bg ?_
  refine ⟨fun h8=>have h8:=bne_iff_ne.1 h8;?_,fun h8=>have h8:=bne_eq_false_iff_eq.1 h8;?_⟩<;>conv=>whnf
  ·have h8:(Ae g r.op).kind≠8:=h8
   repeat refine Bg ?_
   refine Mn 4 (A8 []) rfl Da ?_
   rw [A07 hP h5 h8]
   refine B1 A0 rfl rfl ?_
   exact C1
  ·have h8:(Ae g r.op).kind=8:=h8
   repeat refine Bg ?_
   have hnb:¬ ((Bh (Ae g r.op) r.key r.val).2.2=false∧(Ae g r.op).kind≠8):=(fun p=>p.2 h8)
   refine B7 (Lm (Ae g r.op).kind) rfl (Af ?_)
   refine ⟨fun hr=>?_,fun hr=>?_⟩<;>conv=>whnf
   ·have hr:(Ae g r.op).kind=5∨(Ae g r.op).kind=6∨(Ae g r.op).kind=8:=of_decide_eq_true hr
    refine Dk (Ri (Ae g r.op).kind cs (F9 r) hl) rfl (Af ?_)
    refine ⟨fun h6=>?_,fun h6=>?_⟩<;>conv=>whnf
    ·have h6:(Cz (Ae g r.op).kind cs (F9 r)).2=false:=by simpa using h6
     repeat refine Bg ?_
     refine Mn 4 (A8 []) rfl Da ?_
     rw [Rk hP hnb h6]
     refine B1 A0 rfl rfl ?_
     exact C1
    have h6:(Cz (Ae g r.op).kind cs (F9 r)).2=true:=by simpa using h6
    repeat refine Bg ?_
    have h7:(Ae g r.op).kind≠7:=by omega
    refine ⟨fun h7'=>have h7':=eq_of_beq h7';?_,fun h7'=>have h7':=beq_eq_false_iff_ne.1 h7';?_⟩<;>conv=>whnf
    ·exact absurd h7' h7
    refine Du 4 (A8 []) rfl Da ?_
    refine Cc A0 false [25] (fun k:Nat=>[(21,.c (vi k))]) (fun k=>[⟨6,[.c (vi (Ae g r.op).kind),.c (vi (Ae g r.op).a),.c (vi (Ae g r.op).b),.own 5]⟩,⟨8,[.c (vi (r.stamp).epoch),.c (vi (r.stamp).turn)]⟩]) (fun k=>[⟨5,Ds (Ae g r.op).outs⟩,⟨4,A8 (Ya g r (r.stamp) k)⟩,⟨7,Aw (Cz (Ae g r.op).kind cs (F9 r)).1⟩])
     (fun k=>k≤(Ae g r.op).outs.length) (fun k=>(Ae g r.op).outs.length-k) 0 (Nat.zero_le _) ⟨by first|rfl|simp [Dc,ren2,ren1,ren0],trivial⟩ D8 ⟨by first|rfl|exact (congrArg (fun l=>Dz _ _ l) (List.append_nil _)).symm|(show (_:A7)=_;simp)|simp,by first|rfl|exact (congrArg (fun l=>Dz _ _ l) (List.append_nil _)).symm|(show (_:A7)=_;simp)|simp,by first|rfl|exact (congrArg (fun l=>Dz _ _ l) (List.append_nil _)).symm|(show (_:A7)=_;simp)|simp,trivial⟩ Dg A6 (fun k hk=>?_)
    conv=>whnf
    conv=>whnf
    refine G2 (fun h=>?_) fun h=>?_<;>conv=>whnf
    ·have h:k<(Ae g r.op).outs.length:=by omega
     have hem:=Tn (g:=g) (r:=r) (s:=r.stamp) (k:=k)
     first|(refine At 23 rfl [0,1,2,3,4,5,6,7,8,9,10,11,12] A6 (Af ?_))
     (repeat refine Ak ?_)
     refine B4 A0 rfl rfl rfl rfl rfl rfl rfl rfl rfl rfl rfl (A8 (Ya g r (r.stamp) k++[Mr r (r.stamp) (Bh (Ae g r.op) r.key r.val).1 (Bh (Ae g r.op) r.key r.val).2.1 ((Ae g r.op).outs.getD k default)])) (B5 rfl) Rt Ag (Af ?_)
     (repeat refine Ak ?_)
     refine B8 [(4,10)] (k+1) Ag Ag ⟨rfl,trivial⟩ ⟨rfl,congrArg A8 (Pd h).symm,rfl,trivial⟩ D8 A6 Dg A6
    ·repeat refine Bg ?_
     rw [Nd hP hnb h6,To h7,Tm Ag]
     refine B1 A0 rfl rfl ?_
     exact C1
   ·exact absurd (.inr (.inr h8)) (of_decide_eq_false hr)
 ·have h5:(Bh (Ae g r.op) r.key r.val).2.2=true:=by simpa using h5
  repeat refine Bg ?_
  have hnb:¬ ((Bh (Ae g r.op) r.key r.val).2.2=false∧(Ae g r.op).kind≠8):=(fun p=>by rw [p.1] at h5;cases h5)
  refine B7 (Lm (Ae g r.op).kind) rfl (Af ?_)
  refine ⟨fun hr=>?_,fun hr=>?_⟩<;>conv=>whnf
  ·have hr:(Ae g r.op).kind=5∨(Ae g r.op).kind=6∨(Ae g r.op).kind=8:=of_decide_eq_true hr
   refine Dk (Ri (Ae g r.op).kind cs (F9 r) hl) rfl (Af ?_)
   refine ⟨fun h6=>?_,fun h6=>?_⟩<;>conv=>whnf
   ·have h6:(Cz (Ae g r.op).kind cs (F9 r)).2=false:=by simpa using h6
    repeat refine Bg ?_
    refine Mn 4 (A8 []) rfl Da ?_
    rw [Rk hP hnb h6]
    refine B1 A0 rfl rfl ?_
    exact C1
   have h6:(Cz (Ae g r.op).kind cs (F9 r)).2=true:=by simpa using h6
   repeat refine Bg ?_
   have h7:(Ae g r.op).kind≠7:=by omega
   refine ⟨fun h7'=>have h7':=eq_of_beq h7';?_,fun h7'=>have h7':=beq_eq_false_iff_ne.1 h7';?_⟩<;>conv=>whnf
   ·exact absurd h7' h7
   refine Du 4 (A8 []) rfl Da ?_
   refine Cc A0 false [25] (fun k:Nat=>[(21,.c (vi k))]) (fun k=>[⟨6,[.c (vi (Ae g r.op).kind),.c (vi (Ae g r.op).a),.c (vi (Ae g r.op).b),.own 5]⟩,⟨8,[.c (vi (r.stamp).epoch),.c (vi (r.stamp).turn)]⟩]) (fun k=>[⟨5,Ds (Ae g r.op).outs⟩,⟨4,A8 (Ya g r (r.stamp) k)⟩,⟨7,Aw (Cz (Ae g r.op).kind cs (F9 r)).1⟩])
    (fun k=>k≤(Ae g r.op).outs.length) (fun k=>(Ae g r.op).outs.length-k) 0 (Nat.zero_le _) ⟨by first|rfl|simp [Dc,ren2,ren1,ren0],trivial⟩ D8 ⟨by first|rfl|exact (congrArg (fun l=>Dz _ _ l) (List.append_nil _)).symm|(show (_:A7)=_;simp)|simp,by first|rfl|exact (congrArg (fun l=>Dz _ _ l) (List.append_nil _)).symm|(show (_:A7)=_;simp)|simp,by first|rfl|exact (congrArg (fun l=>Dz _ _ l) (List.append_nil _)).symm|(show (_:A7)=_;simp)|simp,trivial⟩ Dg A6 (fun k hk=>?_)
   conv=>whnf
   conv=>whnf
   refine G2 (fun h=>?_) fun h=>?_<;>conv=>whnf
   ·have h:k<(Ae g r.op).outs.length:=by omega
    have hem:=Tn (g:=g) (r:=r) (s:=r.stamp) (k:=k)
    first|(refine At 23 rfl [0,1,2,3,4,5,6,7,8,9,10,11,12] A6 (Af ?_))
    (repeat refine Ak ?_)
    refine B4 A0 rfl rfl rfl rfl rfl rfl rfl rfl rfl rfl rfl (A8 (Ya g r (r.stamp) k++[Mr r (r.stamp) (Bh (Ae g r.op) r.key r.val).1 (Bh (Ae g r.op) r.key r.val).2.1 ((Ae g r.op).outs.getD k default)])) (B5 rfl) Rt Ag (Af ?_)
    (repeat refine Ak ?_)
    refine B8 [(4,10)] (k+1) Ag Ag ⟨rfl,trivial⟩ ⟨rfl,congrArg A8 (Pd h).symm,rfl,trivial⟩ D8 A6 Dg A6
   ·repeat refine Bg ?_
    rw [Nd hP hnb h6,To h7,Tm Ag]
    refine B1 A0 rfl rfl ?_
    exact C1
  ·have hr:¬ ((Ae g r.op).kind=5∨(Ae g r.op).kind=6∨(Ae g r.op).kind=8):=of_decide_eq_false hr
   have e6:=X3 (l:=cs) (x:=F9 r) hr
   have h6:(Cz (Ae g r.op).kind cs (F9 r)).2=true:=by rw [e6]
   have e61:(Cz (Ae g r.op).kind cs (F9 r)).1=cs:=by rw [e6]
   repeat refine Bg ?_
   refine ⟨fun h7=>have h7:=eq_of_beq h7;?_,fun h7=>have h7:=beq_eq_false_iff_ne.1 h7;?_⟩<;>conv=>whnf
   ·have h7:(Ae g r.op).kind=7:=h7
    refine B7 (Nb r.stamp) rfl (Af ?_)
    refine ⟨fun hnt=>?_,fun hnt=>?_⟩<;>conv=>whnf
    ·have hnt:(Cd r.stamp).2=false:=by simpa using hnt
     repeat refine Bg ?_
     refine Mn 4 (A8 []) rfl Da ?_
     rw [Nd hP hnb h6,A13 h7 hnt,e61]
     refine B1 A0 rfl rfl ?_
     exact C1
    ·have hnt:(Cd r.stamp).2=true:=by simpa using hnt
     repeat refine Bg ?_
     refine Du 4 (A8 []) rfl Da ?_
     refine Cc A0 false [25] (fun k:Nat=>[(21,.c (vi k))]) (fun k=>[⟨6,[.c (vi (Ae g r.op).kind),.c (vi (Ae g r.op).a),.c (vi (Ae g r.op).b),.own 5]⟩,⟨7,[.c (vi ((Cd r.stamp).1).epoch),.c (vi ((Cd r.stamp).1).turn)]⟩]) (fun k=>[⟨5,Ds (Ae g r.op).outs⟩,⟨4,A8 (Ya g r ((Cd r.stamp).1) k)⟩,⟨3,Aw cs⟩])
      (fun k=>k≤(Ae g r.op).outs.length) (fun k=>(Ae g r.op).outs.length-k) 0 (Nat.zero_le _) ⟨by first|rfl|simp [Dc,ren2,ren1,ren0],trivial⟩ D8 ⟨by first|rfl|exact (congrArg (fun l=>Dz _ _ l) (List.append_nil _)).symm|(show (_:A7)=_;simp)|simp,by first|rfl|exact (congrArg (fun l=>Dz _ _ l) (List.append_nil _)).symm|(show (_:A7)=_;simp)|simp,by first|rfl|exact (congrArg (fun l=>Dz _ _ l) (List.append_nil _)).symm|(show (_:A7)=_;simp)|simp,trivial⟩ Dg A6 (fun k hk=>?_)
     conv=>whnf
     conv=>whnf
     refine G2 (fun h=>?_) fun h=>?_<;>conv=>whnf
     ·have h:k<(Ae g r.op).outs.length:=by omega
      have hem:=Tn (g:=g) (r:=r) (s:=(Cd r.stamp).1) (k:=k)
      first|(refine At 23 rfl [0,1,2,3,4,5,6,7,8,9,10,11,12] A6 (Af ?_))
      (repeat refine Ak ?_)
      refine B4 A0 rfl rfl rfl rfl rfl rfl rfl rfl rfl rfl rfl (A8 (Ya g r ((Cd r.stamp).1) k++[Mr r ((Cd r.stamp).1) (Bh (Ae g r.op) r.key r.val).1 (Bh (Ae g r.op) r.key r.val).2.1 ((Ae g r.op).outs.getD k default)])) (B5 rfl) Rt Ag (Af ?_)
      (repeat refine Ak ?_)
      refine B8 [(4,10)] (k+1) Ag Ag ⟨rfl,trivial⟩ ⟨rfl,congrArg A8 (Pd h).symm,rfl,trivial⟩ D8 A6 Dg A6
     ·repeat refine Bg ?_
      rw [Nd hP hnb h6,A4s h7 hnt,e61,Tm Ag]
      refine B1 A0 rfl rfl ?_
      exact C1
   ·have h7:(Ae g r.op).kind≠7:=h7
    repeat refine Bg ?_
    refine Du 4 (A8 []) rfl Da ?_
    refine Cc A0 false [25] (fun k:Nat=>[(21,.c (vi k))]) (fun k=>[⟨6,[.c (vi (Ae g r.op).kind),.c (vi (Ae g r.op).a),.c (vi (Ae g r.op).b),.own 5]⟩,⟨7,[.c (vi (r.stamp).epoch),.c (vi (r.stamp).turn)]⟩]) (fun k=>[⟨5,Ds (Ae g r.op).outs⟩,⟨4,A8 (Ya g r (r.stamp) k)⟩,⟨3,Aw cs⟩])
     (fun k=>k≤(Ae g r.op).outs.length) (fun k=>(Ae g r.op).outs.length-k) 0 (Nat.zero_le _) ⟨by first|rfl|simp [Dc,ren2,ren1,ren0],trivial⟩ D8 ⟨by first|rfl|exact (congrArg (fun l=>Dz _ _ l) (List.append_nil _)).symm|(show (_:A7)=_;simp)|simp,by first|rfl|exact (congrArg (fun l=>Dz _ _ l) (List.append_nil _)).symm|(show (_:A7)=_;simp)|simp,by first|rfl|exact (congrArg (fun l=>Dz _ _ l) (List.append_nil _)).symm|(show (_:A7)=_;simp)|simp,trivial⟩ Dg A6 (fun k hk=>?_)
    conv=>whnf
    conv=>whnf
    refine G2 (fun h=>?_) fun h=>?_<;>conv=>whnf
    ·have h:k<(Ae g r.op).outs.length:=by omega
     have hem:=Tn (g:=g) (r:=r) (s:=r.stamp) (k:=k)
     first|(refine At 23 rfl [0,1,2,3,4,5,6,7,8,9,10,11,12] A6 (Af ?_))
     (repeat refine Ak ?_)
     refine B4 A0 rfl rfl rfl rfl rfl rfl rfl rfl rfl rfl rfl (A8 (Ya g r (r.stamp) k++[Mr r (r.stamp) (Bh (Ae g r.op) r.key r.val).1 (Bh (Ae g r.op) r.key r.val).2.1 ((Ae g r.op).outs.getD k default)])) (B5 rfl) Rt Ag (Af ?_)
     (repeat refine Ak ?_)
     refine B8 [(4,9)] (k+1) Ag Ag ⟨rfl,trivial⟩ ⟨rfl,congrArg A8 (Pd h).symm,rfl,trivial⟩ D8 A6 Dg A6
    ·repeat refine Bg ?_
     rw [Nd hP hnb h6,To h7,e61,Tm Ag]
     refine B1 A0 rfl rfl ?_
     exact C1
theorem Xc (g:An)(r:Ac)(hg:g.w≤16777216):Bp Try.prog 76 [.agg g.c,.agg r.c] [.one (vb (capped g r))]:=by
 refine Bm A0 false Try.func76 rfl Cb fun W=>?_
 conv=>whnf
 refine Dk (Rf g r.op hg) rfl (Af ?_)
 refine B7 (Nb r.stamp) rfl (Af ?_)
 cases h3:Ek r.op 0 (g.nodes.length-1)
 ·have h4:=Go.Sx.B3.1 h3
  rw [Sv h3]
  repeat refine Bg ?_
  rw [Lx (fun p=>h4 ⟨p.2.1.1.1,by have:=p.2.2;omega⟩)]
  refine B1 A0 rfl rfl ?_
  exact C1
 have h4:=Go.Sx.Al.1 h3
 rw [Qm h3]
 have hk:r.op.toNat<g.nodes.length:=by omega
 obtain ⟨hnw,hol⟩:=Yq hg hk
 repeat refine Bg ?_
 refine B7 (Is g Ag) rfl (Af ?_)
 repeat refine Bg ?_
 refine ⟨fun h1=>?_,fun h1=>?_⟩<;>conv=>whnf
 ·have h1:Fh g:=of_decide_eq_true h1
  repeat refine Bg ?_
  refine B7 (Ft r) rfl (Af ?_)
  repeat refine Bg ?_
  refine ⟨fun h2=>?_,fun h2=>?_⟩<;>conv=>whnf
  ·have h2:Gt r:=of_decide_eq_true h2
   have hP:Ig g r:=⟨h1,h2,by omega⟩
   rw [Zl hP]
   repeat refine Bg ?_
   refine ⟨fun h7=>?_,fun h7=>?_⟩<;>conv=>whnf
   ·have h7:((Ae g r.op).kind==7)=true:=h7
    rw [h7]
    repeat refine Bg ?_
    (repeat refine Ak ?_)
    refine ⟨fun h8=>?_,fun h8=>?_⟩<;>conv=>whnf
    ·have h8:decide (((Ae g r.op).outs.length:Int)>0)=true:=h8
     rw [h8]
     repeat refine Bg ?_
     refine B1 A0 rfl rfl ?_
     exact C1
    ·have h8:decide (((Ae g r.op).outs.length:Int)>0)=false:=h8
     rw [h8]
     repeat refine Bg ?_
     refine B1 A0 rfl rfl ?_
     exact C1
   ·have h7:((Ae g r.op).kind==7)=false:=h7
    rw [h7]
    repeat refine Bg ?_
    refine B1 A0 rfl rfl ?_
    exact C1
  ·repeat refine Bg ?_
   rw [Lx (fun p=>absurd p.2.1 (of_decide_eq_false h2))]
   refine B1 A0 rfl rfl ?_
   exact C1
 ·repeat refine Bg ?_
  rw [Lx (fun p=>absurd p.1 (of_decide_eq_false h1))]
  refine B1 A0 rfl rfl ?_
  exact C1
end Go.Proofs.Ytonodkjaoalfjaa
