/- Part 13 of the proof that each of the laws FnStalls returns true for every input. No conditions. -/
import Derived.Test.YtonodkjaoalfjaaGreatP12
import Derived.Test.YtonodkjaoalfjaaGreatP11
import Derived.Test.YtonodkjaoalfjaaGreatP8

set_option linter.unusedSimpArgs false
set_option linter.unusedVariables false
set_option maxRecDepth 100000
namespace Go.Proofs.YtonodkjaoalfjaaGreat
open Go.Sx
theorem A2b {g:Ad}{cs:List A7}{r:A5}(h:¬ Jx g r):Bv g cs r=(cs,[],false):=if_neg h
theorem B1o {g:Ad}{cs:List A7}{r:A5}(h:Jx g r)(h1:(As (A9 g r.op) r.key r.val).2.2=false)(h2:(A9 g r.op).kind≠8):Bv g cs r=(cs,[],true):=by
 unfold Bv
 rw [if_pos h,if_pos ⟨h1,h2⟩]
theorem Xl {g:Ad}{cs:List A7}{r:A5}(h:Jx g r)(h1:¬ ((As (A9 g r.op) r.key r.val).2.2=false∧(A9 g r.op).kind≠8))(h2:(Bb (A9 g r.op).kind cs (Cq r)).2=false):Bv g cs r=((Bb (A9 g r.op).kind cs (Cq r)).1,[],true):=by
 unfold Bv
 rw [if_pos h,if_neg h1,if_pos h2]
theorem Q2 {g:Ad}{cs:List A7}{r:A5}(h:Jx g r)(h1:¬ ((As (A9 g r.op) r.key r.val).2.2=false∧(A9 g r.op).kind≠8))(h2:(Bb (A9 g r.op).kind cs (Cq r)).2=true):Bv g cs r=((Bb (A9 g r.op).kind cs (Cq r)).1,Gf g r,true):=by
 unfold Bv
 rw [if_pos h,if_neg h1,if_neg (by rw [h2];decide)]
def Ro (r:A5) (s:F5) (k v:Int) (o:Int):A5:=⟨o,s,k,v⟩
theorem A27 {g:Ad}{r:A5}(h7:(A9 g r.op).kind=7)(h:(Cc r.stamp).2=false):Gf g r=[]:=by
 unfold Gf
 rw [if_pos ⟨h7,h⟩]
theorem A8e {g:Ad}{r:A5}(h7:(A9 g r.op).kind=7)(h:(Cc r.stamp).2=true):Gf g r=(A9 g r.op).outs.map (Ro r (Cc r.stamp).1 (As (A9 g r.op) r.key r.val).1 (As (A9 g r.op) r.key r.val).2.1):=by
 unfold Gf
 rw [if_neg (fun p=>by rw [p.2] at h;cases h),if_pos h7]
 rfl
theorem A8f {g:Ad}{r:A5}(h7:(A9 g r.op).kind≠7):Gf g r=(A9 g r.op).outs.map (Ro r r.stamp (As (A9 g r.op) r.key r.val).1 (As (A9 g r.op) r.key r.val).2.1):=by
 unfold Gf
 rw [if_neg (fun p=>h7 p.1),if_neg h7]
 rfl
theorem Y6 {α β:Type} [Inhabited α] (f:α→β){l:List α}{k:Nat}(hk:k<l.length):(l.take (k+1)).map f=(l.take k).map f++[f (l.getD k default)]:=by
 rw [List.take_succ_eq_append_getElem hk,List.map_append]
 simp [List.getD,hk]
theorem A1k {g:Ad}{op:Int}(hg:g.w≤16777216)(hk:op.toNat<g.nodes.length):(A9 g op).w≤16777216∧(A9 g op).outs.length≤16777216:=by
 have:=Hg Cb.w g.nodes op.toNat hk
 simp only [Ad.w,wS] at hg
 simp only [A9]
 have e:(g.nodes.getD op.toNat default).w=(g.nodes.getD op.toNat default).outs.length:=rfl
 omega
abbrev emL (g:Ad) (r:A5) (s:F5) (k:Nat):List A5:=((A9 g r.op).outs.take k).map (Ro r s (As (A9 g r.op) r.key r.val).1 (As (A9 g r.op) r.key r.val).2.1)
theorem Uf {g:Ad}{r:A5}{s:F5}{k:Nat}(h:k<(A9 g r.op).outs.length):emL g r s (k+1)=emL g r s k++[Ro r s (As (A9 g r.op) r.key r.val).1 (As (A9 g r.op) r.key r.val).2.1 ((A9 g r.op).outs.getD k default)]:=Y6 _ h
theorem A0u {g:Ad}{r:A5}{s:F5}{k:Nat}:(emL g r s k).length≤k:=by
 simp only [emL,List.length_map,List.length_take]
 omega
theorem A0t {g:Ad}{r:A5}{s:F5}{k:Nat}(h:(A9 g r.op).outs.length≤k):emL g r s k=(A9 g r.op).outs.map (Ro r s (As (A9 g r.op) r.key r.val).1 (As (A9 g r.op) r.key r.val).2.1):=by
 rw [emL,List.take_of_length_le h]
theorem Qq {g:Ad}{r:A5}(h:¬ Jx g r):capped g r=false:=decide_eq_false fun p=>h p.1
theorem A9q {g:Ad}{r:A5}(h:Jx g r):capped g r=(((A9 g r.op).kind==7)&&(decide (((A9 g r.op).outs.length:Int)>0)&&!(Cc r.stamp).2)):=by
 unfold capped
 rw [Bool.eq_iff_iff]
 simp only [decide_eq_true_eq,Bool.and_eq_true,beq_iff_eq,Bool.not_eq_true',h,true_and]
 constructor
 ·intro ⟨a,b,c⟩;exact ⟨a,by omega,c⟩
 ·intro ⟨a,b,c⟩;exact ⟨a,by omega,c⟩
theorem A61 {g:Ad}{op:Int}(h:Eg op 0 (g.nodes.length-1)=true):Np g op=(A9 g op,true):=if_pos h
theorem B0r {g:Ad}{op:Int}(h:Eg op 0 (g.nodes.length-1)=false):Np g op=(⟨0,0,0,[]⟩,false):=if_neg (by rw [h];decide)
theorem C3r {k:Int}{l:List A7}{x:A7}(h:¬ (k=5∨k=6∨k=8)):Bb k l x=(l,true):=Zm (fun p=>h (.inl p)) (fun p=>h (.inr (.inr p))) (fun p=>h (.inr (.inl p)))
set_option maxHeartbeats 4000000 in
theorem C2h (g:Ad)(cs:List A7)(r:A5)(hg:g.w≤16777216)(hl:cs.length≤16000000):B0 Tryz.prog 217 [.agg g.c,.one (Ai cs),.agg r.c] [.one (Ai (Bv g cs r).1),.one (Ax (Bv g cs r).2.1),.one (vb (Bv g cs r).2.2)]:=by
 refine Ay A0 false Tryz.func217 rfl Bu fun W=>?_
 conv=>whnf
 refine Dp A0 rfl rfl rfl rfl rfl rfl rfl rfl rfl rfl rfl (Ai cs) (Eh) (fun _=>Eu cs) Ac (Al ?_)
 refine B4 (R9 g r.op hg) rfl (Al ?_)
 cases h3:Eg r.op 0 (g.nodes.length-1)
 ·have h4:=Go.Sx.Az.1 h3
  rw [B0r h3]
  repeat refine Bi ?_
  refine To 4 (Ax []) rfl F8 ?_
  rw [A2b (fun p=>h4 ⟨p.2.1.1.1,by have:=p.2.2;omega⟩)]
  refine Ao A0 rfl rfl ?_
  exact Ca
 have h4:=Go.Sx.Am.1 h3
 rw [A61 h3]
 have hk:r.op.toNat<g.nodes.length:=by omega
 obtain ⟨hnw,hol⟩:=A1k hg hk
 repeat refine Bi ?_
 refine Aw (A49 g Ac) rfl (Al ?_)
 repeat refine Bi ?_
 refine ⟨fun h1=>?_,fun h1=>?_⟩<;>conv=>whnf
 ·have h1:Ga g=false:=by simpa using h1
  repeat refine Bi ?_
  refine To 4 (Ax []) rfl F8 ?_
  rw [A2b (fun p=>absurd p.1 (of_decide_eq_false h1))]
  refine Ao A0 rfl rfl ?_
  exact Ca
 have h1:E7 g:=of_decide_eq_true (show Ga g=true by simpa using h1)
 repeat refine Bi ?_
 refine Aw (A19 r) rfl (Al ?_)
 repeat refine Bi ?_
 refine ⟨fun h2=>?_,fun h2=>?_⟩<;>conv=>whnf
 ·have h2:F9 r=false:=by simpa using h2
  repeat refine Bi ?_
  refine To 4 (Ax []) rfl F8 ?_
  rw [A2b (fun p=>absurd p.2.1 (of_decide_eq_false h2))]
  refine Ao A0 rfl rfl ?_
  exact Ca
 have h2:Ja r:=of_decide_eq_true (show F9 r=true by simpa using h2)
 have hP:Jx g r:=⟨h1,h2,by omega⟩
 repeat refine Bi ?_
 refine Aw (A48 (A9 g r.op) r.key r.val hnw) rfl (Al ?_)
 refine ⟨fun h5=>?_,fun h5=>?_⟩<;>conv=>whnf
 ·have h5:(As (A9 g r.op) r.key r.val).2.2=false:=by simpa using h5
  repeat refine Bi ?_
  refine ⟨fun h8=>have h8:=bne_iff_ne.1 h8;?_,fun h8=>have h8:=bne_eq_false_iff_eq.1 h8;?_⟩<;>conv=>whnf
  ·have h8:(A9 g r.op).kind≠8:=h8
   repeat refine Bi ?_
   refine To 4 (Ax []) rfl F8 ?_
   rw [B1o hP h5 h8]
   refine Ao A0 rfl rfl ?_
   exact Ca
  ·have h8:(A9 g r.op).kind=8:=h8
   repeat refine Bi ?_
   have hnb:¬ ((As (A9 g r.op) r.key r.val).2.2=false∧(A9 g r.op).kind≠8):=(fun p=>p.2 h8)
   refine Aw (C1g (A9 g r.op).kind) rfl (Al ?_)
   refine ⟨fun hr=>?_,fun hr=>?_⟩<;>conv=>whnf
   ·have hr:(A9 g r.op).kind=5∨(A9 g r.op).kind=6∨(A9 g r.op).kind=8:=of_decide_eq_true hr
    refine B4 (A7h (A9 g r.op).kind cs (Cq r) hl) rfl (Al ?_)
    refine ⟨fun h6=>?_,fun h6=>?_⟩<;>conv=>whnf
    ·have h6:(Bb (A9 g r.op).kind cs (Cq r)).2=false:=by simpa using h6
     repeat refine Bi ?_
     refine To 4 (Ax []) rfl F8 ?_
     rw [Xl hP hnb h6]
     refine Ao A0 rfl rfl ?_
     exact Ca
    have h6:(Bb (A9 g r.op).kind cs (Cq r)).2=true:=by simpa using h6
    repeat refine Bi ?_
    have h7:(A9 g r.op).kind≠7:=by omega
    refine ⟨fun h7'=>have h7':=eq_of_beq h7';?_,fun h7'=>have h7':=beq_eq_false_iff_ne.1 h7';?_⟩<;>conv=>whnf
    ·exact absurd h7' h7
    refine G4 4 (Ax []) rfl F8 ?_
    refine Bw A0 false [25] (fun k:Nat=>[(21,.c (vi k))]) (fun k=>[⟨6,[.c (vi (A9 g r.op).kind),.c (vi (A9 g r.op).a),.c (vi (A9 g r.op).b),.own 5]⟩,⟨8,[.c (vi (r.stamp).epoch),.c (vi (r.stamp).turn)]⟩]) (fun k=>[⟨5,F1 (A9 g r.op).outs⟩,⟨4,Ax (emL g r (r.stamp) k)⟩,⟨7,Ai (Bb (A9 g r.op).kind cs (Cq r)).1⟩])
     (fun k=>k≤(A9 g r.op).outs.length) (fun k=>(A9 g r.op).outs.length-k) 0 (Nat.zero_le _) ⟨by first|rfl|simp [Dl,ren2,ren1,ren0],trivial⟩ F3 ⟨by first|rfl|exact (congrArg (fun l=>Du _ _ l) (List.append_nil _)).symm|(show (_:A8)=_;simp)|simp,by first|rfl|exact (congrArg (fun l=>Du _ _ l) (List.append_nil _)).symm|(show (_:A8)=_;simp)|simp,by first|rfl|exact (congrArg (fun l=>Du _ _ l) (List.append_nil _)).symm|(show (_:A8)=_;simp)|simp,trivial⟩ Dh Aa (fun k hk=>?_)
    conv=>whnf
    conv=>whnf
    refine G5 (fun h=>?_) fun h=>?_<;>conv=>whnf
    ·have h:k<(A9 g r.op).outs.length:=by omega
     have hem:=A0u (g:=g) (r:=r) (s:=r.stamp) (k:=k)
     first|(refine B9 23 rfl [0,1,2,3,4,5,6,7,8,9,10,11,12] Aa (Al ?_))
     (repeat refine Ar ?_)
     refine Dp A0 rfl rfl rfl rfl rfl rfl rfl rfl rfl rfl rfl (Ax (emL g r (r.stamp) k++[Ro r (r.stamp) (As (A9 g r.op) r.key r.val).1 (As (A9 g r.op) r.key r.val).2.1 ((A9 g r.op).outs.getD k default)])) (Bf rfl) M1 Ac (Al ?_)
     (repeat refine Ar ?_)
     refine B5 [(4,10)] (k+1) Ac Ac ⟨rfl,trivial⟩ ⟨rfl,congrArg Ax (Uf h).symm,rfl,trivial⟩ F3 Aa Dh Aa
    ·repeat refine Bi ?_
     rw [Q2 hP hnb h6,A8f h7,A0t Ac]
     refine Ao A0 rfl rfl ?_
     exact Ca
   ·exact absurd (.inr (.inr h8)) (of_decide_eq_false hr)
 ·have h5:(As (A9 g r.op) r.key r.val).2.2=true:=by simpa using h5
  repeat refine Bi ?_
  have hnb:¬ ((As (A9 g r.op) r.key r.val).2.2=false∧(A9 g r.op).kind≠8):=(fun p=>by rw [p.1] at h5;cases h5)
  refine Aw (C1g (A9 g r.op).kind) rfl (Al ?_)
  refine ⟨fun hr=>?_,fun hr=>?_⟩<;>conv=>whnf
  ·have hr:(A9 g r.op).kind=5∨(A9 g r.op).kind=6∨(A9 g r.op).kind=8:=of_decide_eq_true hr
   refine B4 (A7h (A9 g r.op).kind cs (Cq r) hl) rfl (Al ?_)
   refine ⟨fun h6=>?_,fun h6=>?_⟩<;>conv=>whnf
   ·have h6:(Bb (A9 g r.op).kind cs (Cq r)).2=false:=by simpa using h6
    repeat refine Bi ?_
    refine To 4 (Ax []) rfl F8 ?_
    rw [Xl hP hnb h6]
    refine Ao A0 rfl rfl ?_
    exact Ca
   have h6:(Bb (A9 g r.op).kind cs (Cq r)).2=true:=by simpa using h6
   repeat refine Bi ?_
   have h7:(A9 g r.op).kind≠7:=by omega
   refine ⟨fun h7'=>have h7':=eq_of_beq h7';?_,fun h7'=>have h7':=beq_eq_false_iff_ne.1 h7';?_⟩<;>conv=>whnf
   ·exact absurd h7' h7
   refine G4 4 (Ax []) rfl F8 ?_
   refine Bw A0 false [25] (fun k:Nat=>[(21,.c (vi k))]) (fun k=>[⟨6,[.c (vi (A9 g r.op).kind),.c (vi (A9 g r.op).a),.c (vi (A9 g r.op).b),.own 5]⟩,⟨8,[.c (vi (r.stamp).epoch),.c (vi (r.stamp).turn)]⟩]) (fun k=>[⟨5,F1 (A9 g r.op).outs⟩,⟨4,Ax (emL g r (r.stamp) k)⟩,⟨7,Ai (Bb (A9 g r.op).kind cs (Cq r)).1⟩])
    (fun k=>k≤(A9 g r.op).outs.length) (fun k=>(A9 g r.op).outs.length-k) 0 (Nat.zero_le _) ⟨by first|rfl|simp [Dl,ren2,ren1,ren0],trivial⟩ F3 ⟨by first|rfl|exact (congrArg (fun l=>Du _ _ l) (List.append_nil _)).symm|(show (_:A8)=_;simp)|simp,by first|rfl|exact (congrArg (fun l=>Du _ _ l) (List.append_nil _)).symm|(show (_:A8)=_;simp)|simp,by first|rfl|exact (congrArg (fun l=>Du _ _ l) (List.append_nil _)).symm|(show (_:A8)=_;simp)|simp,trivial⟩ Dh Aa (fun k hk=>?_)
   conv=>whnf
   conv=>whnf
   refine G5 (fun h=>?_) fun h=>?_<;>conv=>whnf
   ·have h:k<(A9 g r.op).outs.length:=by omega
    have hem:=A0u (g:=g) (r:=r) (s:=r.stamp) (k:=k)
    first|(refine B9 23 rfl [0,1,2,3,4,5,6,7,8,9,10,11,12] Aa (Al ?_))
    (repeat refine Ar ?_)
    refine Dp A0 rfl rfl rfl rfl rfl rfl rfl rfl rfl rfl rfl (Ax (emL g r (r.stamp) k++[Ro r (r.stamp) (As (A9 g r.op) r.key r.val).1 (As (A9 g r.op) r.key r.val).2.1 ((A9 g r.op).outs.getD k default)])) (Bf rfl) M1 Ac (Al ?_)
    (repeat refine Ar ?_)
    refine B5 [(4,10)] (k+1) Ac Ac ⟨rfl,trivial⟩ ⟨rfl,congrArg Ax (Uf h).symm,rfl,trivial⟩ F3 Aa Dh Aa
   ·repeat refine Bi ?_
    rw [Q2 hP hnb h6,A8f h7,A0t Ac]
    refine Ao A0 rfl rfl ?_
    exact Ca
  ·have hr:¬ ((A9 g r.op).kind=5∨(A9 g r.op).kind=6∨(A9 g r.op).kind=8):=of_decide_eq_false hr
   have e6:=C3r (l:=cs) (x:=Cq r) hr
   have h6:(Bb (A9 g r.op).kind cs (Cq r)).2=true:=by rw [e6]
   have e61:(Bb (A9 g r.op).kind cs (Cq r)).1=cs:=by rw [e6]
   repeat refine Bi ?_
   refine ⟨fun h7=>have h7:=eq_of_beq h7;?_,fun h7=>have h7:=beq_eq_false_iff_ne.1 h7;?_⟩<;>conv=>whnf
   ·have h7:(A9 g r.op).kind=7:=h7
    refine Aw (C1r r.stamp) rfl (Al ?_)
    refine ⟨fun hnt=>?_,fun hnt=>?_⟩<;>conv=>whnf
    ·have hnt:(Cc r.stamp).2=false:=by simpa using hnt
     repeat refine Bi ?_
     refine To 4 (Ax []) rfl F8 ?_
     rw [Q2 hP hnb h6,A27 h7 hnt,e61]
     refine Ao A0 rfl rfl ?_
     exact Ca
    ·have hnt:(Cc r.stamp).2=true:=by simpa using hnt
     repeat refine Bi ?_
     refine G4 4 (Ax []) rfl F8 ?_
     refine Bw A0 false [25] (fun k:Nat=>[(21,.c (vi k))]) (fun k=>[⟨6,[.c (vi (A9 g r.op).kind),.c (vi (A9 g r.op).a),.c (vi (A9 g r.op).b),.own 5]⟩,⟨7,[.c (vi ((Cc r.stamp).1).epoch),.c (vi ((Cc r.stamp).1).turn)]⟩]) (fun k=>[⟨5,F1 (A9 g r.op).outs⟩,⟨4,Ax (emL g r ((Cc r.stamp).1) k)⟩,⟨3,Ai cs⟩])
      (fun k=>k≤(A9 g r.op).outs.length) (fun k=>(A9 g r.op).outs.length-k) 0 (Nat.zero_le _) ⟨by first|rfl|simp [Dl,ren2,ren1,ren0],trivial⟩ F3 ⟨by first|rfl|exact (congrArg (fun l=>Du _ _ l) (List.append_nil _)).symm|(show (_:A8)=_;simp)|simp,by first|rfl|exact (congrArg (fun l=>Du _ _ l) (List.append_nil _)).symm|(show (_:A8)=_;simp)|simp,by first|rfl|exact (congrArg (fun l=>Du _ _ l) (List.append_nil _)).symm|(show (_:A8)=_;simp)|simp,trivial⟩ Dh Aa (fun k hk=>?_)
     conv=>whnf
     conv=>whnf
     refine G5 (fun h=>?_) fun h=>?_<;>conv=>whnf
     ·have h:k<(A9 g r.op).outs.length:=by omega
      have hem:=A0u (g:=g) (r:=r) (s:=(Cc r.stamp).1) (k:=k)
      first|(refine B9 23 rfl [0,1,2,3,4,5,6,7,8,9,10,11,12] Aa (Al ?_))
      (repeat refine Ar ?_)
      refine Dp A0 rfl rfl rfl rfl rfl rfl rfl rfl rfl rfl rfl (Ax (emL g r ((Cc r.stamp).1) k++[Ro r ((Cc r.stamp).1) (As (A9 g r.op) r.key r.val).1 (As (A9 g r.op) r.key r.val).2.1 ((A9 g r.op).outs.getD k default)])) (Bf rfl) M1 Ac (Al ?_)
      (repeat refine Ar ?_)
      refine B5 [(4,10)] (k+1) Ac Ac ⟨rfl,trivial⟩ ⟨rfl,congrArg Ax (Uf h).symm,rfl,trivial⟩ F3 Aa Dh Aa
     ·repeat refine Bi ?_
      rw [Q2 hP hnb h6,A8e h7 hnt,e61,A0t Ac]
      refine Ao A0 rfl rfl ?_
      exact Ca
   ·have h7:(A9 g r.op).kind≠7:=h7
    repeat refine Bi ?_
    refine G4 4 (Ax []) rfl F8 ?_
    refine Bw A0 false [25] (fun k:Nat=>[(21,.c (vi k))]) (fun k=>[⟨6,[.c (vi (A9 g r.op).kind),.c (vi (A9 g r.op).a),.c (vi (A9 g r.op).b),.own 5]⟩,⟨7,[.c (vi (r.stamp).epoch),.c (vi (r.stamp).turn)]⟩]) (fun k=>[⟨5,F1 (A9 g r.op).outs⟩,⟨4,Ax (emL g r (r.stamp) k)⟩,⟨3,Ai cs⟩])
     (fun k=>k≤(A9 g r.op).outs.length) (fun k=>(A9 g r.op).outs.length-k) 0 (Nat.zero_le _) ⟨by first|rfl|simp [Dl,ren2,ren1,ren0],trivial⟩ F3 ⟨by first|rfl|exact (congrArg (fun l=>Du _ _ l) (List.append_nil _)).symm|(show (_:A8)=_;simp)|simp,by first|rfl|exact (congrArg (fun l=>Du _ _ l) (List.append_nil _)).symm|(show (_:A8)=_;simp)|simp,by first|rfl|exact (congrArg (fun l=>Du _ _ l) (List.append_nil _)).symm|(show (_:A8)=_;simp)|simp,trivial⟩ Dh Aa (fun k hk=>?_)
    conv=>whnf
    conv=>whnf
    refine G5 (fun h=>?_) fun h=>?_<;>conv=>whnf
    ·have h:k<(A9 g r.op).outs.length:=by omega
     have hem:=A0u (g:=g) (r:=r) (s:=r.stamp) (k:=k)
     first|(refine B9 23 rfl [0,1,2,3,4,5,6,7,8,9,10,11,12] Aa (Al ?_))
     (repeat refine Ar ?_)
     refine Dp A0 rfl rfl rfl rfl rfl rfl rfl rfl rfl rfl rfl (Ax (emL g r (r.stamp) k++[Ro r (r.stamp) (As (A9 g r.op) r.key r.val).1 (As (A9 g r.op) r.key r.val).2.1 ((A9 g r.op).outs.getD k default)])) (Bf rfl) M1 Ac (Al ?_)
     (repeat refine Ar ?_)
     refine B5 [(4,9)] (k+1) Ac Ac ⟨rfl,trivial⟩ ⟨rfl,congrArg Ax (Uf h).symm,rfl,trivial⟩ F3 Aa Dh Aa
    ·repeat refine Bi ?_
     rw [Q2 hP hnb h6,A8f h7,e61,A0t Ac]
     refine Ao A0 rfl rfl ?_
     exact Ca
theorem C2f (g:Ad)(r:A5)(hg:g.w≤16777216):B0 Tryz.prog 218 [.agg g.c,.agg r.c] [.one (vb (capped g r))]:=by
 refine Ay A0 false Tryz.func218 rfl Bu fun W=>?_
 conv=>whnf
 refine B4 (R9 g r.op hg) rfl (Al ?_)
 refine Aw (C1r r.stamp) rfl (Al ?_)
 cases h3:Eg r.op 0 (g.nodes.length-1)
 ·have h4:=Go.Sx.Az.1 h3
  rw [B0r h3]
  repeat refine Bi ?_
  rw [Qq (fun p=>h4 ⟨p.2.1.1.1,by have:=p.2.2;omega⟩)]
  refine Ao A0 rfl rfl ?_
  exact Ca
 have h4:=Go.Sx.Am.1 h3
 rw [A61 h3]
 have hk:r.op.toNat<g.nodes.length:=by omega
 obtain ⟨hnw,hol⟩:=A1k hg hk
 repeat refine Bi ?_
 refine Aw (A49 g Ac) rfl (Al ?_)
 repeat refine Bi ?_
 refine ⟨fun h1=>?_,fun h1=>?_⟩<;>conv=>whnf
 ·have h1:E7 g:=of_decide_eq_true h1
  repeat refine Bi ?_
  refine Aw (A19 r) rfl (Al ?_)
  repeat refine Bi ?_
  refine ⟨fun h2=>?_,fun h2=>?_⟩<;>conv=>whnf
  ·have h2:Ja r:=of_decide_eq_true h2
   have hP:Jx g r:=⟨h1,h2,by omega⟩
   rw [A9q hP]
   repeat refine Bi ?_
   refine ⟨fun h7=>?_,fun h7=>?_⟩<;>conv=>whnf
   ·have h7:((A9 g r.op).kind==7)=true:=h7
    rw [h7]
    repeat refine Bi ?_
    (repeat refine Ar ?_)
    refine ⟨fun h8=>?_,fun h8=>?_⟩<;>conv=>whnf
    ·have h8:decide (((A9 g r.op).outs.length:Int)>0)=true:=h8
     rw [h8]
     repeat refine Bi ?_
     refine Ao A0 rfl rfl ?_
     exact Ca
    ·have h8:decide (((A9 g r.op).outs.length:Int)>0)=false:=h8
     rw [h8]
     repeat refine Bi ?_
     refine Ao A0 rfl rfl ?_
     exact Ca
   ·have h7:((A9 g r.op).kind==7)=false:=h7
    rw [h7]
    repeat refine Bi ?_
    refine Ao A0 rfl rfl ?_
    exact Ca
  ·repeat refine Bi ?_
   rw [Qq (fun p=>absurd p.2.1 (of_decide_eq_false h2))]
   refine Ao A0 rfl rfl ?_
   exact Ca
 ·repeat refine Bi ?_
  rw [Qq (fun p=>absurd p.1 (of_decide_eq_false h1))]
  refine Ao A0 rfl rfl ?_
  exact Ca
end Go.Proofs.YtonodkjaoalfjaaGreat
