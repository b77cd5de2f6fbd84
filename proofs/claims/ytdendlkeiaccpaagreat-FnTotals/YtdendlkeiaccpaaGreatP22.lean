/- Part 22 of the proof that each of the laws FnTotals returns true for every input. No conditions. -/
import Derived.Test.YtdendlkeiaccpaaGreatP18
import Derived.Test.YtdendlkeiaccpaaGreatP4
import Derived.Test.YtdendlkeiaccpaaGreatP6
import Derived.Test.YtdendlkeiaccpaaGreatP14

set_option linter.unusedSimpArgs false
set_option linter.unusedVariables false
set_option maxRecDepth 100000
namespace Go.Proofs.YtdendlkeiaccpaaGreat
open Go.Sx
theorem Ue {g:Ao}{op:Int}(h:Eb op 0 (g.nodes.length-1)=true):R9 g op=(Ak g op,true):=if_pos h
theorem Xa {g:Ao}{op:Int}(h:Eb op 0 (g.nodes.length-1)=false):R9 g op=(⟨0,0,0,[]⟩,false):=if_neg (by rw [h];decide)
theorem A3a {k:Int}{l:List Be}{x:Be}(h:¬ (k=5∨k=6∨k=8)):Do k l x=(l,true):=Xg (fun p=>h (.inl p)) (fun p=>h (.inr (.inr p))) (fun p=>h (.inr (.inl p)))
set_option maxHeartbeats 4000000 in
theorem Vg (g:Ao)(cs:List Be)(r:A9)(hg:g.w≤16777216)(hl:cs.length≤16000000):Bi Tryz.prog 181 [.agg g.c,.one (Bg cs),.agg r.c] [.one (Bg (Er g cs r).1),.one (Aa (Er g cs r).2.1),.one (vb (Er g cs r).2.2)]:=by
 refine Bd A0 false Tryz.func181 rfl Aw fun W=>?_
 conv=>whnf
 refine Av A0 rfl rfl rfl rfl rfl rfl rfl rfl rfl rfl rfl (Bg cs) (Cc) (fun _=>Ej cs) Ab (A8 ?_)
 refine Cx (Vc g r.op hg) rfl (A8 ?_)
 cases h3:Eb r.op 0 (g.nodes.length-1)
 ·have h4:=Go.Sx.Bo.1 h3
  rw [Xa h3]
  repeat refine B7 ?_
  refine L7 4 (Aa []) rfl Ds ?_
  rw [Z8 (fun p=>h4 ⟨p.2.1.1.1,by have:=p.2.2;omega⟩)]
  refine B2 A0 rfl rfl ?_
  exact At
 have h4:=Go.Sx.Au.1 h3
 rw [Ue h3]
 have hk:r.op.toNat<g.nodes.length:=by omega
 obtain ⟨hnw,hol⟩:=A40 hg hk
 repeat refine B7 ?_
 refine Az (Hr g Ab) rfl (A8 ?_)
 repeat refine B7 ?_
 refine ⟨fun h1=>?_,fun h1=>?_⟩<;>conv=>whnf
 ·have h1:I3 g=false:=by simpa using h1
  repeat refine B7 ?_
  refine L7 4 (Aa []) rfl Ds ?_
  rw [Z8 (fun p=>absurd p.1 (of_decide_eq_false h1))]
  refine B2 A0 rfl rfl ?_
  exact At
 have h1:Fa g:=of_decide_eq_true (show I3 g=true by simpa using h1)
 repeat refine B7 ?_
 refine Az (H2 r) rfl (A8 ?_)
 repeat refine B7 ?_
 refine ⟨fun h2=>?_,fun h2=>?_⟩<;>conv=>whnf
 ·have h2:I6 r=false:=by simpa using h2
  repeat refine B7 ?_
  refine L7 4 (Aa []) rfl Ds ?_
  rw [Z8 (fun p=>absurd p.2.1 (of_decide_eq_false h2))]
  refine B2 A0 rfl rfl ?_
  exact At
 have h2:H7 r:=of_decide_eq_true (show I6 r=true by simpa using h2)
 have hP:Kg g r:=⟨h1,h2,by omega⟩
 repeat refine B7 ?_
 refine Az (A1p (Ak g r.op) r.key r.val hnw) rfl (A8 ?_)
 refine ⟨fun h5=>?_,fun h5=>?_⟩<;>conv=>whnf
 ·have h5:(C8 (Ak g r.op) r.key r.val).2.2=false:=by simpa using h5
  repeat refine B7 ?_
  refine ⟨fun h8=>have h8:=bne_iff_ne.1 h8;?_,fun h8=>have h8:=bne_eq_false_iff_eq.1 h8;?_⟩<;>conv=>whnf
  ·have h8:(Ak g r.op).kind≠8:=h8
   repeat refine B7 ?_
   refine L7 4 (Aa []) rfl Ds ?_
   rw [A7l hP h5 h8]
   refine B2 A0 rfl rfl ?_
   exact At
  have h8:(Ak g r.op).kind=8:=h8
  repeat refine B7 ?_
  have hnb:¬ ((C8 (Ak g r.op) r.key r.val).2.2=false∧(Ak g r.op).kind≠8):=(fun p=>p.2 h8)
  refine Az (Of (Ak g r.op).kind) rfl (A8 ?_)
  refine ⟨fun hr=>?_,fun hr=>?_⟩<;>conv=>whnf
  ·have hr:(Ak g r.op).kind=5∨(Ak g r.op).kind=6∨(Ak g r.op).kind=8:=of_decide_eq_true hr
   refine Cx (Ve (Ak g r.op).kind cs (Fs r) hl) rfl (A8 ?_)
   refine ⟨fun h6=>?_,fun h6=>?_⟩<;>conv=>whnf
   ·have h6:(Do (Ak g r.op).kind cs (Fs r)).2=false:=by simpa using h6
    repeat refine B7 ?_
    refine L7 4 (Aa []) rfl Ds ?_
    rw [Vm hP hnb h6]
    refine B2 A0 rfl rfl ?_
    exact At
   have h6:(Do (Ak g r.op).kind cs (Fs r)).2=true:=by simpa using h6
   repeat refine B7 ?_
   have h7:(Ak g r.op).kind≠7:=by omega
   refine ⟨fun h7'=>have h7':=eq_of_beq h7';?_,fun h7'=>have h7':=beq_eq_false_iff_ne.1 h7';?_⟩<;>conv=>whnf
   ·exact absurd h7' h7
   refine Dv 4 (Aa []) rfl Ds ?_
   refine Bv A0 false [25] (fun k:Nat=>[(21,.c (vi k))]) (fun k=>[⟨6,[.c (vi (Ak g r.op).kind),.c (vi (Ak g r.op).a),.c (vi (Ak g r.op).b),.own 5]⟩,⟨8,[.c (vi (r.stamp).epoch),.c (vi (r.stamp).turn)]⟩]) (fun k=>[⟨5,Ap (Ak g r.op).outs⟩,⟨4,Aa (emL g r (r.stamp) k)⟩,⟨7,Bg (Do (Ak g r.op).kind cs (Fs r)).1⟩])
    (fun k=>k≤(Ak g r.op).outs.length) (fun k=>(Ak g r.op).outs.length-k) 0 (Nat.zero_le _) ⟨F3,trivial⟩ Cf ⟨F2,F2,F2,trivial⟩ Cj A7 (fun k hk=>?_)
   conv=>whnf
   conv=>whnf
   refine Es (fun h=>?_) fun h=>?_<;>conv=>whnf
   ·have h:k<(Ak g r.op).outs.length:=by omega
    have hem:=Y6 (g:=g) (r:=r) (s:=r.stamp) (k:=k)
    first|(refine B5 23 rfl [0,1,2,3,4,5,6,7,8,9,10,11,12] A7 (A8 ?_))
    (repeat refine Am ?_)
    refine Av A0 rfl rfl rfl rfl rfl rfl rfl rfl rfl rfl rfl (Aa (emL g r (r.stamp) k++[Px r (r.stamp) (C8 (Ak g r.op) r.key r.val).1 (C8 (Ak g r.op) r.key r.val).2.1 ((Ak g r.op).outs.getD k default)])) (Ad rfl) Bj Ab (A8 ?_)
    (repeat refine Am ?_)
    refine B6 [(4,10)] (k+1) Ab Ab ⟨rfl,trivial⟩ ⟨rfl,congrArg Aa (Sv h).symm,rfl,trivial⟩ Cf A7 Cj A7
   repeat refine B7 ?_
   rw [Qm hP hnb h6,Y7 h7,Y5 Ab]
   refine B2 A0 rfl rfl ?_
   exact At
  exact absurd (.inr (.inr h8)) (of_decide_eq_false hr)
 have h5:(C8 (Ak g r.op) r.key r.val).2.2=true:=by simpa using h5
 repeat refine B7 ?_
 have hnb:¬ ((C8 (Ak g r.op) r.key r.val).2.2=false∧(Ak g r.op).kind≠8):=(fun p=>by rw [p.1] at h5;cases h5)
 refine Az (Of (Ak g r.op).kind) rfl (A8 ?_)
 refine ⟨fun hr=>?_,fun hr=>?_⟩<;>conv=>whnf
 ·have hr:(Ak g r.op).kind=5∨(Ak g r.op).kind=6∨(Ak g r.op).kind=8:=of_decide_eq_true hr
  refine Cx (Ve (Ak g r.op).kind cs (Fs r) hl) rfl (A8 ?_)
  refine ⟨fun h6=>?_,fun h6=>?_⟩<;>conv=>whnf
  ·have h6:(Do (Ak g r.op).kind cs (Fs r)).2=false:=by simpa using h6
   repeat refine B7 ?_
   refine L7 4 (Aa []) rfl Ds ?_
   rw [Vm hP hnb h6]
   refine B2 A0 rfl rfl ?_
   exact At
  have h6:(Do (Ak g r.op).kind cs (Fs r)).2=true:=by simpa using h6
  repeat refine B7 ?_
  have h7:(Ak g r.op).kind≠7:=by omega
  refine ⟨fun h7'=>have h7':=eq_of_beq h7';?_,fun h7'=>have h7':=beq_eq_false_iff_ne.1 h7';?_⟩<;>conv=>whnf
  ·exact absurd h7' h7
  refine Dv 4 (Aa []) rfl Ds ?_
  refine Bv A0 false [25] (fun k:Nat=>[(21,.c (vi k))]) (fun k=>[⟨6,[.c (vi (Ak g r.op).kind),.c (vi (Ak g r.op).a),.c (vi (Ak g r.op).b),.own 5]⟩,⟨8,[.c (vi (r.stamp).epoch),.c (vi (r.stamp).turn)]⟩]) (fun k=>[⟨5,Ap (Ak g r.op).outs⟩,⟨4,Aa (emL g r (r.stamp) k)⟩,⟨7,Bg (Do (Ak g r.op).kind cs (Fs r)).1⟩])
   (fun k=>k≤(Ak g r.op).outs.length) (fun k=>(Ak g r.op).outs.length-k) 0 (Nat.zero_le _) ⟨F3,trivial⟩ Cf ⟨F2,F2,F2,trivial⟩ Cj A7 (fun k hk=>?_)
  conv=>whnf
  conv=>whnf
  refine Es (fun h=>?_) fun h=>?_<;>conv=>whnf
  ·have h:k<(Ak g r.op).outs.length:=by omega
   have hem:=Y6 (g:=g) (r:=r) (s:=r.stamp) (k:=k)
   first|(refine B5 23 rfl [0,1,2,3,4,5,6,7,8,9,10,11,12] A7 (A8 ?_))
   (repeat refine Am ?_)
   refine Av A0 rfl rfl rfl rfl rfl rfl rfl rfl rfl rfl rfl (Aa (emL g r (r.stamp) k++[Px r (r.stamp) (C8 (Ak g r.op) r.key r.val).1 (C8 (Ak g r.op) r.key r.val).2.1 ((Ak g r.op).outs.getD k default)])) (Ad rfl) Bj Ab (A8 ?_)
   (repeat refine Am ?_)
   refine B6 [(4,10)] (k+1) Ab Ab ⟨rfl,trivial⟩ ⟨rfl,congrArg Aa (Sv h).symm,rfl,trivial⟩ Cf A7 Cj A7
  repeat refine B7 ?_
  rw [Qm hP hnb h6,Y7 h7,Y5 Ab]
  refine B2 A0 rfl rfl ?_
  exact At
 have hr:¬ ((Ak g r.op).kind=5∨(Ak g r.op).kind=6∨(Ak g r.op).kind=8):=of_decide_eq_false hr
 have e6:=A3a (l:=cs) (x:=Fs r) hr
 have h6:(Do (Ak g r.op).kind cs (Fs r)).2=true:=by rw [e6]
 have e61:(Do (Ak g r.op).kind cs (Fs r)).1=cs:=by rw [e6]
 repeat refine B7 ?_
 refine ⟨fun h7=>have h7:=eq_of_beq h7;?_,fun h7=>have h7:=beq_eq_false_iff_ne.1 h7;?_⟩<;>conv=>whnf
 ·have h7:(Ak g r.op).kind=7:=h7
  refine Az (Qj r.stamp) rfl (A8 ?_)
  refine ⟨fun hnt=>?_,fun hnt=>?_⟩<;>conv=>whnf
  ·have hnt:(D8 r.stamp).2=false:=by simpa using hnt
   repeat refine B7 ?_
   refine L7 4 (Aa []) rfl Ds ?_
   rw [Qm hP hnb h6,A8t h7 hnt,e61]
   refine B2 A0 rfl rfl ?_
   exact At
  have hnt:(D8 r.stamp).2=true:=by simpa using hnt
  repeat refine B7 ?_
  refine Dv 4 (Aa []) rfl Ds ?_
  refine Bv A0 false [25] (fun k:Nat=>[(21,.c (vi k))]) (fun k=>[⟨6,[.c (vi (Ak g r.op).kind),.c (vi (Ak g r.op).a),.c (vi (Ak g r.op).b),.own 5]⟩,⟨7,[.c (vi ((D8 r.stamp).1).epoch),.c (vi ((D8 r.stamp).1).turn)]⟩]) (fun k=>[⟨5,Ap (Ak g r.op).outs⟩,⟨4,Aa (emL g r ((D8 r.stamp).1) k)⟩,⟨3,Bg cs⟩])
   (fun k=>k≤(Ak g r.op).outs.length) (fun k=>(Ak g r.op).outs.length-k) 0 (Nat.zero_le _) ⟨F3,trivial⟩ Cf ⟨F2,F2,F2,trivial⟩ Cj A7 (fun k hk=>?_)
  conv=>whnf
  conv=>whnf
  refine Es (fun h=>?_) fun h=>?_<;>conv=>whnf
  ·have h:k<(Ak g r.op).outs.length:=by omega
   have hem:=Y6 (g:=g) (r:=r) (s:=(D8 r.stamp).1) (k:=k)
   first|(refine B5 23 rfl [0,1,2,3,4,5,6,7,8,9,10,11,12] A7 (A8 ?_))
   (repeat refine Am ?_)
   refine Av A0 rfl rfl rfl rfl rfl rfl rfl rfl rfl rfl rfl (Aa (emL g r ((D8 r.stamp).1) k++[Px r ((D8 r.stamp).1) (C8 (Ak g r.op) r.key r.val).1 (C8 (Ak g r.op) r.key r.val).2.1 ((Ak g r.op).outs.getD k default)])) (Ad rfl) Bj Ab (A8 ?_)
   (repeat refine Am ?_)
   refine B6 [(4,10)] (k+1) Ab Ab ⟨rfl,trivial⟩ ⟨rfl,congrArg Aa (Sv h).symm,rfl,trivial⟩ Cf A7 Cj A7
  repeat refine B7 ?_
  rw [Qm hP hnb h6,B17 h7 hnt,e61,Y5 Ab]
  refine B2 A0 rfl rfl ?_
  exact At
 have h7:(Ak g r.op).kind≠7:=h7
 repeat refine B7 ?_
 refine Dv 4 (Aa []) rfl Ds ?_
 refine Bv A0 false [25] (fun k:Nat=>[(21,.c (vi k))]) (fun k=>[⟨6,[.c (vi (Ak g r.op).kind),.c (vi (Ak g r.op).a),.c (vi (Ak g r.op).b),.own 5]⟩,⟨7,[.c (vi (r.stamp).epoch),.c (vi (r.stamp).turn)]⟩]) (fun k=>[⟨5,Ap (Ak g r.op).outs⟩,⟨4,Aa (emL g r (r.stamp) k)⟩,⟨3,Bg cs⟩])
  (fun k=>k≤(Ak g r.op).outs.length) (fun k=>(Ak g r.op).outs.length-k) 0 (Nat.zero_le _) ⟨F3,trivial⟩ Cf ⟨F2,F2,F2,trivial⟩ Cj A7 (fun k hk=>?_)
 conv=>whnf
 conv=>whnf
 refine Es (fun h=>?_) fun h=>?_<;>conv=>whnf
 ·have h:k<(Ak g r.op).outs.length:=by omega
  have hem:=Y6 (g:=g) (r:=r) (s:=r.stamp) (k:=k)
  first|(refine B5 23 rfl [0,1,2,3,4,5,6,7,8,9,10,11,12] A7 (A8 ?_))
  (repeat refine Am ?_)
  refine Av A0 rfl rfl rfl rfl rfl rfl rfl rfl rfl rfl rfl (Aa (emL g r (r.stamp) k++[Px r (r.stamp) (C8 (Ak g r.op) r.key r.val).1 (C8 (Ak g r.op) r.key r.val).2.1 ((Ak g r.op).outs.getD k default)])) (Ad rfl) Bj Ab (A8 ?_)
  (repeat refine Am ?_)
  refine B6 [(4,9)] (k+1) Ab Ab ⟨rfl,trivial⟩ ⟨rfl,congrArg Aa (Sv h).symm,rfl,trivial⟩ Cf A7 Cj A7
 repeat refine B7 ?_
 rw [Qm hP hnb h6,Y7 h7,e61,Y5 Ab]
 refine B2 A0 rfl rfl ?_
 exact At
theorem V9 (g:Ao)(r:A9)(hg:g.w≤16777216):Bi Tryz.prog 182 [.agg g.c,.agg r.c] [.one (vb (capped g r))]:=by
 refine Bd A0 false Tryz.func182 rfl Aw fun W=>?_
 conv=>whnf
 refine Cx (Vc g r.op hg) rfl (A8 ?_)
 refine Az (Qj r.stamp) rfl (A8 ?_)
 cases h3:Eb r.op 0 (g.nodes.length-1)
 ·have h4:=Go.Sx.Bo.1 h3
  rw [Xa h3]
  repeat refine B7 ?_
  rw [Ov (fun p=>h4 ⟨p.2.1.1.1,by have:=p.2.2;omega⟩)]
  refine B2 A0 rfl rfl ?_
  exact At
 have h4:=Go.Sx.Au.1 h3
 rw [Ue h3]
 have hk:r.op.toNat<g.nodes.length:=by omega
 obtain ⟨hnw,hol⟩:=A40 hg hk
 repeat refine B7 ?_
 refine Az (Hr g Ab) rfl (A8 ?_)
 repeat refine B7 ?_
 refine ⟨fun h1=>?_,fun h1=>?_⟩<;>conv=>whnf
 ·have h1:Fa g:=of_decide_eq_true h1
  repeat refine B7 ?_
  refine Az (H2 r) rfl (A8 ?_)
  repeat refine B7 ?_
  refine ⟨fun h2=>?_,fun h2=>?_⟩<;>conv=>whnf
  ·have h2:H7 r:=of_decide_eq_true h2
   have hP:Kg g r:=⟨h1,h2,by omega⟩
   rw [A5x hP]
   repeat refine B7 ?_
   refine ⟨fun h7=>?_,fun h7=>?_⟩<;>conv=>whnf
   ·have h7:((Ak g r.op).kind==7)=true:=h7
    rw [h7]
    repeat refine B7 ?_
    (repeat refine Am ?_)
    refine ⟨fun h8=>?_,fun h8=>?_⟩<;>conv=>whnf
    ·have h8:decide (((Ak g r.op).outs.length:Int)>0)=true:=h8
     rw [h8]
     repeat refine B7 ?_
     refine B2 A0 rfl rfl ?_
     exact At
    have h8:decide (((Ak g r.op).outs.length:Int)>0)=false:=h8
    rw [h8]
    repeat refine B7 ?_
    refine B2 A0 rfl rfl ?_
    exact At
   have h7:((Ak g r.op).kind==7)=false:=h7
   rw [h7]
   repeat refine B7 ?_
   refine B2 A0 rfl rfl ?_
   exact At
  repeat refine B7 ?_
  rw [Ov (fun p=>absurd p.2.1 (of_decide_eq_false h2))]
  refine B2 A0 rfl rfl ?_
  exact At
 repeat refine B7 ?_
 rw [Ov (fun p=>absurd p.1 (of_decide_eq_false h1))]
 refine B2 A0 rfl rfl ?_
 exact At
structure Dy where
 a:Option Addr
 n:Nat
 c:Nat
 b:Nat→Nat
 hb:∀i,b i≤255
 hn:n≤16777216
abbrev Dy.v (d:Dy):Value:= .slice d.a d.n d.c
abbrev Dy.cell (d:Dy):Ae:= .sl d.n 1 fun i=>[.val (.int .u8 (d.b i))]
abbrev Dy.pins (d:Dy):List (Ae×Value):=[(d.cell,d.v)]
abbrev Dy.cur (d:Dy) (i h:Int):List Ae:=[.val d.v,vi i,vi h]
abbrev HT:World→Prop:=fun _=>True
theorem Pt (d:Dy)(i h:Int)(hi:0≤i∧i≤d.n):Cr Tryz.prog HT 79 d.pins (d.cur i h) [] (fun r:Int×Int×Int=>(0≤r.1∧r.1≤d.n)∧0≤r.2.2∧r.2.2≤255) (fun r=>d.cur r.1 r.2.1) (fun r=>[.one (vi r.2.2)]):=by
 have hn:=d.hn
 refine Df A0 true Tryz.func79 rfl Aw fun B b hH hp=>?_
 conv=>whnf
 first|(refine B5 2 rfl [0,1,2,3,4,5,6,7,8,9,10,11,12] A7 (go A0 true ?_);conv=>whnf)|(refine B5 3 rfl [0,1,2,3,4,5,6,7,8,9] A7 (go A0 true ?_);conv=>whnf)|(refine B5 4 rfl [0,1,2,3,4,5,6,7,8,9,10,11,12,13,14] A7 (go A0 true ?_);conv=>whnf)
 refine B51 rfl rfl rfl rfl Aw (fun r=>go A0 true ?_)
 conv=>whnf
 refine B51 rfl rfl rfl rfl Aw (fun r2=>go A0 true ?_)
 conv=>whnf
 refine B6n rfl rfl rfl rfl (fun r3=>go A0 true ?_)
 conv=>whnf
 refine B38 rfl rfl rfl rfl Aw Aw (fun x0 h0 h1=>go A0 true ?_)
 conv=>whnf
 first|(refine B5 2 rfl [0,1,2,3,4,5,6,7,8,9,10,11,12] A7 (go A0 true ?_);conv=>whnf)|(refine B5 3 rfl [0,1,2,3,4,5,6,7,8,9] A7 (go A0 true ?_);conv=>whnf)|(refine B5 4 rfl [0,1,2,3,4,5,6,7,8,9,10,11,12,13,14] A7 (go A0 true ?_);conv=>whnf)
 refine Es (fun hlt=>?_) fun hlt=>?_<;>conv=>whnf
 ·first|(refine B5 2 rfl [0,1,2,3,4,5,6,7,8,9,10,11,12] A7 (go A0 true ?_);conv=>whnf)|(refine B5 3 rfl [0,1,2,3,4,5,6,7,8,9] A7 (go A0 true ?_);conv=>whnf)|(refine B5 4 rfl [0,1,2,3,4,5,6,7,8,9,10,11,12,13,14] A7 (go A0 true ?_);conv=>whnf)
  refine B5k A0 hp 0 rfl rfl rfl rfl rfl rfl rfl rfl rfl (⟨hi.1,hlt⟩) (go A0 true ?_)
  conv=>whnf
  refine B38 rfl rfl rfl rfl Aw Aw (fun x1 g0 g1=>go A0 true ?_)
  conv=>whnf
  exact Bm A0 (i+1,_,x1) ⟨⟨by omega,by show i+1≤_;omega⟩,g0,g1⟩ rfl rfl rfl rfl ⟨⟨Ui _ _,by show Ae.val _=_;rw [show IntKind.i64.wrap (i+1)=i+1 by rw [IntKind.wrap_i64];omega],rfl,trivial⟩,rfl,trivial⟩
 exact Bm A0 (i,_,x0) ⟨hi,h0,h1⟩ rfl rfl rfl rfl At
theorem B3t {i:Int}(h: -9223372036854775808≤i∧i≤9223372036854775807):IntKind.i64.wrap i=i:=by rw [IntKind.wrap_i64];omega
theorem A8n (d:Dy):Xs Tryz.prog 46 d.pins [.one (.val d.v)] (fun _:Int=>True) (fun h=>d.cur 0 h):=by
 have hn:=d.hn
 refine A8y A0 true Tryz.func46 rfl Aw fun W hp=>?_
 conv=>whnf
 refine Bv A0 true [] (fun j:Nat×Int=>[(3,.c (vi j.2)),(4,.c (vi j.1))]) (fun j=>[]) (fun j=>[]) (fun j=>(j.1:Int)≤d.n) (fun j=>d.n-j.1) ((0,_)) (Int.natCast_nonneg _) ⟨F3,F3,trivial⟩ trivial trivial Cj A7 (fun j hj=>?_)
 conv=>whnf
 refine Es (fun h=>?_) fun h=>?_<;>conv=>whnf
 ·refine X4 (by first|with_reducible rfl|assumption|(simp only [decide_eq_true_eq];omega)|simp) ?_
  conv=>whnf
  refine X4 (by first|with_reducible rfl|assumption|(simp only [decide_eq_true_eq];omega)|simp) ?_
  conv=>whnf
  refine Es (fun h2=>?_) fun h2=>?_<;>conv=>whnf
  ·refine B5k A0 hp 0 rfl rfl rfl rfl rfl rfl rfl rfl rfl (⟨by omega,h⟩) (go A0 true ?_)
   conv=>whnf
   refine B38 rfl rfl rfl rfl Aw Aw (fun r r0 r1=>go A0 true ?_)
   conv=>whnf
   refine B6 [] ((j.1+1,r)) ((by show ((j.1+1:Nat):Int)≤_;omega)) (by show d.n-(j.1+1)<_;omega) ⟨rfl,(by show AV.c (vi _)=AV.c (vi _);rw [B3t Ab];rfl),trivial⟩ trivial trivial A7 Cj A7
  exact B4w A0 j.2 trivial rfl rfl rfl At
 repeat' (first|(refine Oo ?_;conv=>whnf)|(refine Oq ?_;conv=>whnf)|(refine ⟨fun h=>?_,fun h=>?_⟩<;>conv=>whnf)|(refine Gl ?_;conv=>whnf)|fail)
 exact B4w A0 j.2 trivial rfl rfl rfl At
theorem Ah (d:Dy)(i h n:Int)(hi:0≤i∧i≤d.n)(hn:n≤1099511627776):Cr Tryz.prog HT 49 d.pins (d.cur i h) [.one (vi n)] (fun r:Int×Int×Int=>(0≤r.1∧r.1≤d.n)∧0≤r.2.2∧(n≤0→r.2.2=0)∧(0<n→r.2.2<n)) (fun r=>d.cur r.1 r.2.1) (fun r=>[.one (vi r.2.2)]):=by
 have hdn:=d.hn
 refine Df A0 false Tryz.func49 rfl Aw fun B b hH hp=>?_
 conv=>whnf
 refine Es (fun h0=>?_) fun h0=>?_<;>conv=>whnf
 ·exact Bm A0 (i,h,0) ⟨hi,Int.le_refl _,fun _=>rfl,fun h=>by omega⟩ rfl rfl rfl rfl At
 refine Es (fun h1=>?_) fun h1=>?_<;>conv=>whnf
 ·refine Ai (Pt d i h hi) hH hp rfl At rfl rfl (fun r hr=>go A0 false ?_)
  conv=>whnf
  (repeat refine Am ?_)
  exact Bm A0 (r.1,r.2.1,r.2.2.tmod n) ⟨hr.1,Int.tmod_nonneg _ hr.2.1,fun h=>by omega,fun h=>Int.tmod_lt_of_pos _ h⟩ rfl rfl rfl rfl At
 refine Ai (Pt d i h hi) hH hp rfl At rfl rfl (fun r hr=>go A0 false ?_)
 conv=>whnf
 refine Ai (Pt d r.1 r.2.1 hr.1) hH hp rfl At rfl rfl (fun r2 hr2=>go A0 false ?_)
 conv=>whnf
 refine Ai (Pt d r2.1 r2.2.1 hr2.1) hH hp rfl At rfl rfl (fun r3 hr3=>go A0 false ?_)
 conv=>whnf
 refine Ai (Pt d r3.1 r3.2.1 hr3.1) hH hp rfl At rfl rfl (fun r4 hr4=>go A0 false ?_)
 conv=>whnf
 (repeat refine Am ?_)
 exact Bm A0 (r4.1,r4.2.1,(r.2.2 * 16777216+r2.2.2 * 65536+r3.2.2 * 256+r4.2.2).tmod n) ⟨hr4.1,Int.tmod_nonneg _ Ab,fun h=>by omega,fun h=>Int.tmod_lt_of_pos _ h⟩ rfl rfl rfl rfl At
theorem Pu (d:Dy)(i h n:Int)(hi:0≤i∧i≤d.n)(hn:n≤1099511627776):Cr Tryz.prog HT 78 d.pins (d.cur i h) [.one (vi n)] (fun r:Int×Int×Bool=>0≤r.1∧r.1≤d.n) (fun r=>d.cur r.1 r.2.1) (fun r=>[.one (vb r.2.2)]):=by
 refine Df A0 false Tryz.func78 rfl Aw fun B b hH hp=>?_
 conv=>whnf
 refine Ai (Ah d i h n hi hn) hH hp rfl At rfl rfl (fun r hr=>go A0 false ?_)
 conv=>whnf
 exact Bm A0 (r.1,r.2.1,_) hr.1 rfl rfl rfl rfl At
theorem D4 (d:Dy)(i h:Int)(xs:List Int)(hi:0≤i∧i≤d.n)(hx:0<xs.length∧xs.length≤16777216):Cr Tryz.prog HT 50 d.pins (d.cur i h) [.one (Ap xs)] (fun r:Int×Int×Nat=>(0≤r.1∧r.1≤d.n)∧r.2.2<xs.length) (fun r=>d.cur r.1 r.2.1) (fun r=>[.one (vi (xs.getD r.2.2 0))]):=by
 refine Df A0 false Tryz.func50 rfl Aw fun B b hH hp=>?_
 conv=>whnf
 refine Ai (Ah d i h xs.length hi Ab) hH hp rfl At rfl rfl (fun r hr=>go A0 false ?_)
 conv=>whnf
 (repeat refine Am ?_)
 exact Bm A0 (r.1,r.2.1,r.2.2.toNat) ⟨hr.1,by have:=hr.2.2.2 Ab;show r.2.2.toNat<_;omega⟩ rfl rfl rfl rfl At
def B1s (ins:List A9):Prop:=ins.length≤5∧∀r∈ins,r.op=0∧r.stamp.turn=0∧(0≤r.stamp.epoch∧r.stamp.epoch≤3)∧(0≤r.key∧r.key≤11)∧(0≤r.val∧r.val≤39)
theorem A6n {xs:List A9}{e k v:Int}(h:∀r∈xs,r.op=0∧r.stamp.turn=0∧(0≤r.stamp.epoch∧r.stamp.epoch≤3)∧(0≤r.key∧r.key≤11)∧(0≤r.val∧r.val≤39))(he:0≤e∧e≤3)(hk:0≤k∧k≤11)(hv:0≤v∧v≤39):
  ∀r∈xs++[(⟨0,⟨e,0⟩,k,v⟩:A9)],r.op=0∧r.stamp.turn=0∧(0≤r.stamp.epoch∧r.stamp.epoch≤3)∧(0≤r.key∧r.key≤11)∧(0≤r.val∧r.val≤39):=fun r hr=>by
 rcases List.mem_append.1 hr with hr|hr
 ·exact h r hr
 rw [List.mem_singleton.1 hr]
 exact ⟨rfl,rfl,he,hk,hv⟩
structure JIn where
 k:Nat
 i:Int
 h:Int
 e:Int
 xs:List A9
theorem Wv (d:Dy)(i h:Int)(hi:0≤i∧i≤d.n):Cr Tryz.prog HT 48 d.pins (d.cur i h) [] (fun r:Int×Int×List A9=>(0≤r.1∧r.1≤d.n)∧B1s r.2.2) (fun r=>d.cur r.1 r.2.1) (fun r=>[.one (Aa r.2.2)]):=by
 refine Df A0 false Tryz.func48 rfl Aw fun B b hH hp=>?_
 conv=>whnf
 refine Dv 1 (Aa []) rfl (Ba rfl Cf) ?_
 refine Bv A0 false [6] (fun j:JIn=>[(4,.c (vi j.e)),(5,.c (vi j.k))]) (fun j=>[⟨0,[.c (.val d.v),.c (vi j.i),.c (vi j.h)]⟩]) (fun j=>[⟨1,Aa j.xs⟩]) (fun j=>(0≤j.i∧j.i≤d.n)∧j.k≤5∧j.xs.length=j.k∧(0≤j.e∧j.e≤2)∧∀r∈j.xs,r.op=0∧r.stamp.turn=0∧(0≤r.stamp.epoch∧r.stamp.epoch≤3)∧(0≤r.key∧r.key≤11)∧(0≤r.val∧r.val≤39)) (fun j=>5-j.k) (⟨0,i,h,0,[]⟩) (⟨hi,Nat.zero_le _,rfl,⟨Int.le_refl _,(by decide:(0:Int)≤2)⟩,fun r hr=>(List.not_mem_nil hr).elim⟩) ⟨F3,F3,trivial⟩ Cf ⟨F2,trivial⟩ Cj A7 (fun j hj=>?_)
 conv=>whnf
 obtain ⟨hi,hk,hx,he,hA⟩:=hj
 refine Ai (Ah d j.i j.h 6 hi Aw) hH hp rfl At rfl rfl (fun r hr=>go A0 false ?_)
 conv=>whnf
 refine Es (fun hlt=>?_) fun hlt=>?_<;>conv=>whnf
 ·have hlt2:r.2.2<6:=hr.2.2.2 Ab
  refine Ai (Ah d r.1 r.2.1 2 hr.1 Aw) hH hp rfl At rfl rfl (fun r2 hr2=>go A0 false ?_)
  conv=>whnf
  have hr2b:r2.2.2<2:=hr2.2.2.2 Ab
  (repeat refine Am ?_)
  refine Az (Ku (j.e+r2.2.2) 0 2) rfl (A8 ?_)
  have hB:=G8 (j.e+r2.2.2) 0 2 Aw
  refine Ai (Ah d r2.1 r2.2.1 12 hr2.1 Aw) hH hp rfl At rfl rfl (fun r3 hr3=>go A0 false ?_)
  conv=>whnf
  refine Ai (Ah d r3.1 r3.2.1 40 hr3.1 Aw) hH hp rfl At rfl rfl (fun r4 hr4=>go A0 false ?_)
  conv=>whnf
  have hk3:=hr3.2.2.2 Ab
  have hv4:=hr4.2.2.2 Ab
  refine Av A0 rfl rfl rfl rfl rfl rfl rfl rfl rfl rfl rfl (Aa (j.xs++[⟨0,⟨Ed (j.e+r2.2.2) 0 2,0⟩,r3.2.2,r4.2.2⟩])) (Ad rfl) Bj Ab (A8 ?_)
  (repeat refine Am ?_)
  refine B6 [(1,3)] (⟨j.k+1,r4.1,r4.2.1,Ed (j.e+r2.2.2) 0 2,j.xs++[⟨0,⟨Ed (j.e+r2.2.2) 0 2,0⟩,r3.2.2,r4.2.2⟩]⟩) (⟨hr4.1,by show j.k+1≤5;omega,by simp [hx],hB,A6n hA ⟨hB.1,by omega⟩ ⟨hr3.2.1,by omega⟩ ⟨hr4.2.1,by omega⟩⟩) (by show 5-(j.k+1)<_;omega) ⟨rfl,rfl,trivial⟩ ⟨rfl,trivial⟩ Cf A7 Cj A7
 exact Bm A0 (r.1,r.2.1,j.xs) ⟨hr.1,by show j.xs.length≤5;omega,hA⟩ rfl rfl rfl rfl At
end Go.Proofs.YtdendlkeiaccpaaGreat
