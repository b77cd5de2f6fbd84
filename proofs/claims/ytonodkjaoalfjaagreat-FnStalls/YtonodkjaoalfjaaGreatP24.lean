/- Part 24 of the proof that each of the laws FnStalls returns true for every input. No conditions. -/
import Derived.Test.YtonodkjaoalfjaaGreatP14
import Derived.Test.YtonodkjaoalfjaaGreatP15
import Derived.Test.YtonodkjaoalfjaaGreatP23
import Derived.Test.YtonodkjaoalfjaaGreatP7
import Derived.Test.YtonodkjaoalfjaaGreatP17
import Derived.Test.YtonodkjaoalfjaaGreatP6
import Derived.Test.YtonodkjaoalfjaaGreatP19
import Derived.Test.YtonodkjaoalfjaaGreatP5
import Derived.Test.YtonodkjaoalfjaaGreatP10

set_option linter.unusedSimpArgs false
set_option linter.unusedVariables false
set_option maxRecDepth 100000
namespace Go.Proofs.YtonodkjaoalfjaaGreat
open Go.Sx
theorem Oy (k:Nat):K9 .i64 ([1,1,1,2,3,3,3,4,4,5,6,6,7].getD k 0):=
 A3f (p:=fun w=>K9 .i64 w) _ k 0 (fun x hx=>by simp only [List.mem_cons,List.not_mem_nil,or_false] at hx;show _∧_;omega) ⟨by decide,by decide⟩
theorem Uk (n:Int):K9 .i64 (n.tmod 3):=by
 show _∧_
 have h1:=Int.tmod_lt_of_pos n (show (0:Int)<3 by decide)
 have h2:=Int.lt_tmod_of_pos n (show (0:Int)<3 by decide)
 omega
theorem B2x (d:I9)(i h:Int)(hi:0≤i∧i≤d.n):Iv Tryz.prog HT 104 d.pins (d.cur i h) [] (fun r:Int×Int×Bl=>(0≤r.1∧r.1≤d.n)∧r.2.2.ok) (fun r=>d.cur r.1 r.2.1) (fun r=>[.agg r.2.2.c]):=by
 refine Ol A0 false Tryz.func104 rfl Bu fun B b hH hp=>?_
 conv=>whnf
 refine O2 2 (F1 [1,1,1,2,3,3,3,4,4,5,6,6,7]) rfl (Db rfl F3) ?_
 refine Fg (A57 d i h [1,1,1,2,3,3,3,4,4,5,6,6,7] hi Bu) hH hp rfl Ca rfl rfl (fun r hr=>go A0 false ?_)
 conv=>whnf
 refine Fg (E5 d r.1 r.2.1 3 hr.1 Bu) hH hp rfl Ca rfl rfl (fun r2 hr2=>go A0 false ?_)
 conv=>whnf
 refine ⟨fun c1=>?_,fun c1=>?_⟩<;>conv=>whnf
 ·repeat' (first|(refine Ms ?_;conv=>whnf)|(refine Mt ?_;conv=>whnf)|(refine ⟨fun h=>?_,fun h=>?_⟩<;>conv=>whnf)|(refine Kf ?_;conv=>whnf)|fail)
  refine A8a rfl ?_
  refine M7 A0 false 0 rfl rfl rfl Aa rfl (Af D0) ?_
  refine M7 A0 false 3 rfl rfl rfl Aa rfl (Af D0) ?_
  refine Aj [1,4] Aa ⟨?_,?_,trivial⟩
  focus
   refine go A0 false ?_
   conv=>whnf
   refine Ak ?_
   refine M7 A0 false 2 rfl rfl rfl Aa rfl (Af D0) ?_
   refine Aj [4] Aa ⟨?_,trivial⟩
   refine go A0 false ?_
   conv=>whnf
   refine Fg (E5 d r2.1 r2.2.1 2 hr2.1 Bu) hH hp rfl Ca rfl rfl (fun r3 hr3=>go A0 false ?_)
   conv=>whnf
   refine Ak ?_
   refine M7 A0 false 5 rfl rfl rfl Aa rfl (Af D0) ?_
   refine M7 A0 false 6 rfl rfl rfl Aa rfl (Af D0) ?_
   refine M7 A0 false 7 rfl rfl rfl Aa rfl (Af D0) ?_
   refine Aj [8] Aa ⟨?_,trivial⟩
   refine go A0 false ?_
   conv=>whnf
   refine Ak ?_
   refine Ed Aa (Al ?_)
  rotate_left 1
  focus
   refine go A0 false ?_
   conv=>whnf
   refine Fg (E5 d r2.1 r2.2.1 2 hr2.1 Bu) hH hp rfl Ca rfl rfl (fun r3 hr3=>go A0 false ?_)
   conv=>whnf
   refine Ak ?_
   refine Aj [1] Aa ⟨?_,trivial⟩
   refine go A0 false ?_
   conv=>whnf
   refine Ak ?_
   refine M7 A0 false 2 rfl rfl rfl Aa rfl (Af D0) ?_
   refine M7 A0 false 5 rfl rfl rfl Aa rfl (Af D0) ?_
   refine M7 A0 false 6 rfl rfl rfl Aa rfl (Af D0) ?_
   refine M7 A0 false 7 rfl rfl rfl Aa rfl (Af D0) ?_
   refine Aj [8] Aa ⟨?_,trivial⟩
   refine go A0 false ?_
   conv=>whnf
   refine Ak ?_
   refine Ed Aa (Al ?_)
  ·exact Kk A0 (r3.1,r3.2.1,⟨[1,1,1,2,3,3,3,4,4,5,6,6,7].getD r.2.2 0,r2.2.2,(r2.2.2+1+r3.2.2).tmod 3⟩) ⟨hr3.1,Oy _,⟨by show _≤r2.2.2;omega,by show r2.2.2≤_;omega⟩,Uk _⟩ rfl rfl rfl rfl Ca
  ·exact Kk A0 (r3.1,r3.2.1,⟨[1,1,1,2,3,3,3,4,4,5,6,6,7].getD r.2.2 0,r2.2.2,(r2.2.2+1+r3.2.2).tmod 3⟩) ⟨hr3.1,Oy _,⟨by show _≤r2.2.2;omega,by show r2.2.2≤_;omega⟩,Uk _⟩ rfl rfl rfl rfl Ca
 ·repeat' (first|(refine Ms ?_;conv=>whnf)|(refine Mt ?_;conv=>whnf)|(refine ⟨fun h=>?_,fun h=>?_⟩<;>conv=>whnf)|(refine Kf ?_;conv=>whnf)|fail)
  ·refine A8a rfl ?_
   refine M7 A0 false 0 rfl rfl rfl Aa rfl (Af D0) ?_
   refine M7 A0 false 3 rfl rfl rfl Aa rfl (Af D0) ?_
   refine Aj [1,4] Aa ⟨?_,?_,trivial⟩
   focus
    refine go A0 false ?_
    conv=>whnf
    refine Ak ?_
    refine M7 A0 false 2 rfl rfl rfl Aa rfl (Af D0) ?_
    refine Aj [4] Aa ⟨?_,trivial⟩
    refine go A0 false ?_
    conv=>whnf
    refine Fg (E5 d r2.1 r2.2.1 2 hr2.1 Bu) hH hp rfl Ca rfl rfl (fun r3 hr3=>go A0 false ?_)
    conv=>whnf
    refine Ak ?_
    refine M7 A0 false 5 rfl rfl rfl Aa rfl (Af D0) ?_
    refine M7 A0 false 6 rfl rfl rfl Aa rfl (Af D0) ?_
    refine M7 A0 false 7 rfl rfl rfl Aa rfl (Af D0) ?_
    refine Aj [8] Aa ⟨?_,trivial⟩
    refine go A0 false ?_
    conv=>whnf
    refine Ak ?_
    refine Ed Aa (Al ?_)
   rotate_left 1
   focus
    refine go A0 false ?_
    conv=>whnf
    refine Fg (E5 d r2.1 r2.2.1 2 hr2.1 Bu) hH hp rfl Ca rfl rfl (fun r3 hr3=>go A0 false ?_)
    conv=>whnf
    refine Ak ?_
    refine Aj [1] Aa ⟨?_,trivial⟩
    refine go A0 false ?_
    conv=>whnf
    refine Ak ?_
    refine M7 A0 false 2 rfl rfl rfl Aa rfl (Af D0) ?_
    refine M7 A0 false 5 rfl rfl rfl Aa rfl (Af D0) ?_
    refine M7 A0 false 6 rfl rfl rfl Aa rfl (Af D0) ?_
    refine M7 A0 false 7 rfl rfl rfl Aa rfl (Af D0) ?_
    refine Aj [8] Aa ⟨?_,trivial⟩
    refine go A0 false ?_
    conv=>whnf
    refine Ak ?_
    refine Ed Aa (Al ?_)
   ·exact Kk A0 (r3.1,r3.2.1,⟨[1,1,1,2,3,3,3,4,4,5,6,6,7].getD r.2.2 0,r2.2.2,(r2.2.2+1+r3.2.2).tmod 3⟩) ⟨hr3.1,Oy _,⟨by show _≤r2.2.2;omega,by show r2.2.2≤_;omega⟩,Uk _⟩ rfl rfl rfl rfl Ca
   ·exact Kk A0 (r3.1,r3.2.1,⟨[1,1,1,2,3,3,3,4,4,5,6,6,7].getD r.2.2 0,r2.2.2,(r2.2.2+1+r3.2.2).tmod 3⟩) ⟨hr3.1,Oy _,⟨by show _≤r2.2.2;omega,by show r2.2.2≤_;omega⟩,Uk _⟩ rfl rfl rfl rfl Ca
  ·exact Kk A0 (r2.1,r2.2.1,⟨[1,1,1,2,3,3,3,4,4,5,6,6,7].getD r.2.2 0,r2.2.2,0⟩) ⟨hr2.1,Oy _,⟨by show _≤r2.2.2;omega,by show r2.2.2≤_;omega⟩,⟨by show (-9223372036854775808:Int)≤0;decide,by show (0:Int)≤9223372036854775807;decide⟩⟩ rfl rfl rfl rfl Ca
theorem B2w (d:I9)(i h:Int)(hi:0≤i∧i≤d.n):Iv Tryz.prog HT 104 d.pins (d.cur i h) [] (fun r:Int×Int×Bl=>0≤r.1∧r.1≤d.n) (fun r=>d.cur r.1 r.2.1) (fun r=>[.agg r.2.2.c]):=(B2x d i h hi).weak fun _ h=>h.1
structure JPk where
 k:Nat
 i:Int
 h:Int
 xs:List Bl
theorem B2y (d:I9)(i h:Int)(m:Nat)(hm:m≤1000)(hi:0≤i∧i≤d.n):Iv Tryz.prog HT 53 d.pins (d.cur i h) [.one (vi m)] (fun r:Int×Int×List Bl=>(0≤r.1∧r.1≤d.n)∧r.2.2.length≤m) (fun r=>d.cur r.1 r.2.1) (fun r=>[.one (Fu r.2.2)]):=by
 refine Ol A0 false Tryz.func53 rfl Bu fun B b hH hp=>?_
 conv=>whnf
 refine G4 1 (Fu []) rfl (Db rfl F3) ?_
 refine Bw A0 false [7] (fun j:JPk=>[(6,.c (vi j.k))]) (fun j=>[⟨0,[.c (.val d.v),.c (vi j.i),.c (vi j.h)]⟩]) (fun j=>[⟨1,Fu j.xs⟩]) (fun j=>(0≤j.i∧j.i≤d.n)∧j.k≤m∧j.xs.length=j.k) (fun j=>m-j.k) (⟨0,i,h,[]⟩) (⟨hi,Nat.zero_le _,rfl⟩) ⟨by first|rfl|simp [Dl,ren2,ren1,ren0],trivial⟩ F3 ⟨by first|rfl|exact (congrArg (fun l=>Du _ _ l) (List.append_nil _)).symm|(show (_:A8)=_;simp)|simp,trivial⟩ Dh Aa (fun j hj=>?_)
 conv=>whnf
 obtain ⟨hi,hk,hx⟩:=hj
 (repeat refine Ar ?_)
 refine Fg (E5 d j.i j.h (m+1) hi Ac) hH hp rfl Ca rfl rfl (fun r hr=>go A0 false ?_)
 conv=>whnf
 refine G5 (fun hlt=>?_) fun hlt=>?_<;>conv=>whnf
 ·have hlt2:(r.2.2:Int)<m+1:=hr.2.2.2 Ac
  refine Fg (B2w d r.1 r.2.1 hr.1) hH hp rfl Ca rfl rfl (fun r2 hr2=>go A0 false ?_)
  conv=>whnf
  refine Dp A0 rfl rfl rfl rfl rfl rfl rfl rfl rfl rfl rfl (Fu (j.xs++[r2.2.2])) (Bf rfl) M1 Ac (Al ?_)
  (repeat refine Ar ?_)
  refine B5 [(1,3)] (⟨j.k+1,r2.1,r2.2.1,j.xs++[r2.2.2]⟩) (⟨hr2,by show j.k+1≤m;omega,by simp [hx]⟩) (by show m-(j.k+1)<_;omega) ⟨rfl,trivial⟩ ⟨rfl,trivial⟩ F3 Aa Dh Aa
 ·exact Kk A0 (r.1,r.2.1,j.xs) ⟨hr.1,by show j.xs.length≤m;omega⟩ rfl rfl rfl rfl Ca
theorem B4h {l:List Cb}(h:Uz l):E7 ⟨l,1,1⟩:=by
 obtain ⟨G,a,b,k,hG,ha,hb,hk,hl⟩:=h
 have ha:a=1∨a=2∨a=3:=by omega
 have hb:b=0∨b=1∨b=2∨b=3:=by omega
 have hk:k=1∨k=2∨k=3:=by omega
 rcases hl with rfl|rfl|rfl|rfl|rfl
 ·show E7 ⟨[⟨1,0,0,[1]⟩,⟨G,0,0,[2,5]⟩,⟨4,a,0,[3]⟩,⟨3,k,0,[4]⟩,⟨7,0,0,[1]⟩,⟨8,0,0,[]⟩],1,1⟩
  rcases hG with rfl|rfl<;>rcases ha with rfl|rfl|rfl<;>rcases hk with rfl|rfl|rfl<;>decide
 ·rcases hG with rfl|rfl<;>rcases ha with rfl|rfl|rfl<;>rcases hb with rfl|rfl|rfl|rfl<;>decide
 ·rcases hG with rfl|rfl<;>rcases ha with rfl|rfl|rfl<;>rcases hb with rfl|rfl|rfl|rfl<;>decide
 ·rcases hG with rfl|rfl<;>rcases ha with rfl|rfl|rfl<;>rcases hb with rfl|rfl|rfl|rfl<;>decide
 ·rcases hG with rfl|rfl<;>rcases ha with rfl|rfl|rfl<;>rcases hb with rfl|rfl|rfl|rfl<;>decide
theorem B3g {g:Ad}(h:Sk g):E7 g:=by
 obtain ⟨h1,h2,hn⟩:=h
 have:E7 ⟨g.nodes,1,1⟩:=B4h hn
 exact ⟨this.1,by omega,by omega,this.2.2.2⟩
theorem Zh {c:A3}{p:Bl}(h:¬ Ap c):Ag c p=(c,false):=by
 unfold Ag
 repeat' split
 ·unfold Cr;rw [if_neg (fun q=>h q.1)]
 ·unfold Cg;rw [if_neg (fun q=>h q.1)]
 ·unfold C6;rw [if_neg (fun q=>h q.1.1)]
 ·unfold Cd;rw [if_neg (fun q=>h q.1.1)]
 ·unfold Br;rw [if_neg (fun q=>h q.1)]
 ·exact Tj (fun q=>h q.1)
 ·unfold D4;rw [if_neg (fun q=>h q.1)]
 ·rfl
theorem B1e {c:A3}{l:List Bl}{k:Nat}(hk:k<l.length):Bh c (l.take (k+1))=Cl (Bh c (l.take k)) (l.getD k default):=by
 unfold Bh
 have:l.take (k+1)=l.take k++[l.getD k default]:=by
  rw [List.take_succ_eq_append_getElem hk]
  simp [List.getD,hk]
 rw [this,List.foldl_append]
 rfl
theorem B7g (l:List Bl):∀s:A3×List Bool,(l.foldl Cl s).1.w≤s.1.w+4 * l.length:=by
 induction l with
 |nil=>intro s;simp
 |cons p r ih=>
  intro s
  have h1:=ih (Cl s p)
  have h2:=A7n (c:=s.1) (p:=p)
  simp only [List.foldl_cons,List.length_cons]
  have e:(Cl s p).1=(Ag s.1 p).1:=rfl
  rw [e] at h1
  omega
theorem B47 {c:A3}{l:List Bl}:(Bh c l).1.w≤c.w+4 * l.length:=B7g l (c,[])
theorem B1d (l:List Bl):∀s:A3×List Bool,(l.foldl Cl s).2.length=s.2.length+l.length:=by
 induction l with
 |nil=>intro s;simp
 |cons p r ih=>
  intro s
  have h1:=ih (Cl s p)
  simp only [List.foldl_cons,List.length_cons]
  rw [h1]
  simp only [Cl,List.length_append,List.length_cons,List.length_nil]
  omega
theorem A42 {c:A3}{l:List Bl}:(Bh c l).2.length=l.length:=by
 have:=B1d l (c,[])
 simpa [Bh] using this
theorem B4x (c:A3):Co c≤4:=by
 have:=Jq c.graph.workers 0 4 Bu
 unfold Co
 omega
theorem H0 (c:A3):(Gz (Co c)).length≤44:=by
 have h:=B4x c
 have e:Co c=0∨Co c=1∨Co c=2∨Co c=3∨Co c=4:=by omega
 rcases e with e|e|e|e|e<;>rw [e]<;>decide
theorem A89 {c:A3}:(Ba c).1.w≤c.w+176:=by
 have h1:=B47 (c:=c) (l:=Gz (Co c))
 have h2:=H0 c
 show (Bh c (Gz (Co c))).1.w≤_
 omega
def frN (c:A3):Nat→A3
 | 0=>c
 |k+1=>(Ba (frN c k)).1
theorem B9g (c:A3)(k:Nat):(frN c k).w≤c.w+176 * k:=by
 induction k with
 |zero=>simp [frN]
 |succ k ih=>
  have:=A89 (c:=frN c k)
  simp only [frN]
  omega
theorem Z3 (c:A3)(k:Nat):frN (Ba c).1 k=frN c (k+1):=by
 induction k with
 |zero=>rfl
 |succ k ih=>simp only [frN] at ih ⊢;rw [ih]
theorem Vq (k:Nat):∀(n:Nat) (c:A3),k≤n→(∀i,i<k→(Ba (frN c i)).2≠0)→Di n c=((Di (n-k) (frN c k)).1,(Di (n-k) (frN c k)).2+k):=by
 induction k with
 |zero=>intro n c _ _;simp [frN]
 |succ k ih=>
  intro n c hk h
  obtain ⟨m,rfl⟩:∃m,n=m+1:=⟨n-1,by omega⟩
  have h0:(Ba c).2≠0:=h 0 Ac
  have h1:=ih m (Ba c).1 Ac (fun i hi=>by rw [Z3];exact h (i+1) Ac)
  rw [Z3] at h1
  rw [Di,if_neg h0,h1,show m+1-(k+1)=m-k by omega]
  rfl
theorem N7 {n k:Nat}{c:A3}(hk:k<n)(h:∀i,i<k→(Ba (frN c i)).2≠0)(h0:(Ba (frN c k)).2=0):Di n c=(frN c (k+1),k+1):=by
 rw [Vq k n c Ac h]
 obtain ⟨m,hm⟩:∃m,n-k=m+1:=⟨n-k-1,by omega⟩
 rw [hm,Di,if_pos h0]
 simp only [frN]
 congr 1
 omega
theorem Rq {n:Nat}{c:A3}(h:∀i,i<n→(Ba (frN c i)).2≠0):Di n c=(frN c n,n):=by
 rw [Vq n n c (Nat.le_refl _) h,Nat.sub_self]
 simp [Di]
def B9o (p:Bl) (w:Int):Bool:=
 if p.kind==1 then p.a==w else if p.kind==2 then p.a==w else if p.kind==3 then p.a==w else if p.kind==7 then p.a==w
 else if p.kind==4 then (if p.a==w then true else p.b==w) else if p.kind==5 then (if p.a==w then true else p.b==w) else false
def C0a (xs:List Bl) (w:Int):List Bl:=xs.filter fun p=>!B9o p w
theorem B1v (c:A3)(j w:Int)(v:Ab):A6 (Av c j v) w=if w.toNat=j.toNat∧j.toNat<c.workers.length then v else A6 c w:=by
 unfold A6 Av
 dsimp only
 by_cases h:w.toNat=j.toNat∧j.toNat<c.workers.length
 ·rw [if_pos h,h.1,Sx.getD_set_self _ _ _ _ h.2]
 ·rw [if_neg h]
  by_cases e:w.toNat=j.toNat
  ·have hl:c.workers.length≤j.toNat:=by omega
   rw [List.set_eq_of_length_le hl]
  ·rw [Sx.getD_set_ne _ _ _ _ _ e]
theorem A7u {c:A3}{j w:Int}(h:w.toNat=j.toNat):A6 c w=A6 c j:=by unfold A6;rw [h]
structure UI (n w e:Int) (c:A3):Prop where
 len:(c.workers.length:Int)=n
 done:B1 (A6 c 0) e=false
 tok:(A4 c e).going=true→w≤(A4 c e).at_
 rest:(A4 c e).going=false→(A4 c e).at_=0
 news:∀x∈c.news,x.epoch≠e
theorem UI.lnk {n w e:Int}{c:A3}{k:Int}{l:C2}(h:UI n w e c):UI n w e (B6 c k l):=⟨h.1,h.2,h.3,h.4,h.5⟩
theorem UI.set {n w e:Int}{c:A3}{j:Int}{v:Ab}(h:UI n w e c)(hd:B1 v e=B1 (A6 c j) e):UI n w e (Av c j v):=by
 refine ⟨by rw [←h.len];simp only [Av,List.length_set],?_,h.3,h.4,h.5⟩
 rw [B1v]
 split
 ·rename_i q
  rw [hd,←A7u q.1]
  exact h.done
 ·exact h.done
theorem Tz {v:Ab}{d:E3}{e:Int}(h:d.epoch≠e):B1 (Cx v d) e=B1 v e:=by
 unfold B1 Cx
 dsimp only
 rw [List.any_append]
 have:(d.epoch==e)=false:=beq_eq_false_iff_ne.2 h
 simp only [List.any_cons,List.any_nil,this,Bool.or_false]
theorem Xq {c:A3}{e a:Int}{t:Es}(he:0≤e)(ha:0≤a)(h:a≠e):A4 (Cp c a t) e=A4 c e:=by
 unfold A4 Cp
 exact Sx.getD_set_ne _ _ _ _ _ Ac
theorem O0 {c:A3}{e:Int}{t:Es}(hl:e.toNat<c.tokens.length):A4 (Cp c e t) e=t:=by
 unfold A4 Cp
 exact Sx.getD_set_self _ _ _ _ hl
theorem UI.other {n w e a:Int}{c:A3}{t:Es}(h:UI n w e c)(he:0≤e)(ha:0≤a)(hne:a≠e):UI n w e (Cp c a t):=by
 refine ⟨h.1,h.2,?_,?_,h.5⟩
 ·rw [Xq he ha hne];exact h.3
 ·rw [Xq he ha hne];exact h.4
theorem UI.step {n w e:Int}{c:A3}{p:Bl}{l:List A5}(hw:0≤w∧w<n)(he:0≤e)(hi:(A6 c w).inputs=l)(ho:l.any (fun r=>decide (r.stamp.epoch≤e))=true)(h:UI n w e c):UI n w e (Ag c p).1:=by
 by_cases hc:Ap c
 case neg=>rw [Zh hc];exact h
 unfold Ag
 split
 ·unfold Cr
  split
  ·exact h.set (by unfold Fk;split<;>rfl)
  ·exact h
 split
 ·unfold Cg
  split
  ·exact h.set (by unfold Dg;split<;>rfl)
  ·exact h
 split
 ·unfold C6
  split
  ·split
   ·exact h.set rfl
   split
   ·exact h.lnk.set (by unfold Cs;split<;>rfl)
   ·exact h
  ·exact h
 split
 ·unfold Cd
  split
  ·exact h.lnk.set (by unfold Cj;split<;>rfl)
  ·exact h
 split
 ·unfold Br
  split
  ·exact h.lnk
  ·exact h
 split
 ·unfold Bo
  dsimp only
  split
  ·rename_i hT
   have hA:=(hc.2.2.2.1 _ (Aq (d:=default) (show p.a.toNat<c.tokens.length by have:=hc.1.2.2.2;have:=hT.2.1;omega))).1.1
   have hA:0≤(A4 c p.a).at_:=hA
   have hN:∀t v:A3,True:=fun _ _=>trivial
   by_cases hee:p.a=e
   ·rw [hee] at hT hA ⊢
    have hlt:e.toNat<c.tokens.length:=by have:=hc.1.2.2.2;have:=hT.2.1;omega
    have hat:(A4 c e).at_≠w:=by
     intro q
     have hp:=hT.2.2.2
     rw [q] at hp
     unfold De R5 at hp
     rw [hi,ho] at hp
     simp at hp
    split
    ·rename_i hg
     refine UI.set ⟨h.1,h.2,?_,?_,h.5⟩ rfl
     ·rw [O0 hlt]
      intro _
      show w≤(c.workers.length:Int)-1
      rw [h.len]
      omega
     ·rw [O0 hlt]
      intro q
      cases q
    split
    ·rename_i hg ha
     have hg:(A4 c e).going=true:=by simpa using hg
     have:=h.tok hg
     split
     ·refine UI.set ⟨h.1,h.2,?_,?_,h.5⟩ rfl
      ·rw [O0 hlt]
       intro _
       show w≤(A4 c e).at_-1
       omega
      ·rw [O0 hlt]
       intro q
       rw [show (A4 c e).going=false from q] at hg
       cases hg
     ·exact h
    ·rename_i hg ha
     have hg:(A4 c e).going=true:=by simpa using hg
     have:=h.tok hg
     omega
   ·split
    ·exact (h.other he hT.2.1.1 hee).set rfl
    split
    ·split
     ·exact (h.other he hT.2.1.1 hee).set rfl
     ·exact h
    ·rename_i hg ha
     unfold Gn
     have h0:(A4 c p.a).at_=0:=by omega
     split
     ·have hs:=(h.other (t:=⟨false,(A4 c p.a).at_,(A4 c p.a).sum,(A4 c p.a).black,(A4 c p.a).capped⟩) he hT.2.1.1 hee).set (j:=0) (v:=Cx (A6 c (A4 c p.a).at_) ⟨p.a,(A4 c p.a).capped||(A6 c (A4 c p.a).at_).caps.getD p.a.toNat default⟩) (by
       rw [Tz hee,h0]
       rfl)
      refine ⟨hs.1,hs.2,hs.3,hs.4,fun x hx=>?_⟩
      rcases List.mem_append.1 hx with hx|hx
      ·exact h.news x hx
      ·simp only [H1,List.mem_map] at hx
       obtain ⟨i,_,rfl⟩:=hx
       exact hee
     ·exact h.other he hT.2.1.1 hee
  ·exact h
 split
 ·unfold D4
  split
  ·rename_i hT
   have hm:=Jk hc hT.2
   have hh:UI n w e (Ih c p.a):=⟨h.1,h.2,h.3,h.4,fun x hx=>h.news x (List.mem_of_mem_eraseIdx hx)⟩
   split
   ·exact hh
   ·exact hh.set (by rw [Tz (h.news _ hm.1)];rfl)
  ·exact h
 ·exact h
theorem B6w {g:Ad}{ins:List A5}(hg:Sk g)(hi:Me ins):K6 g ins:=by
 refine ⟨B3g hg,by have:=hi.1;omega,fun r hr=>?_⟩
 obtain ⟨h1,h2,h3,h4,h5⟩:=hi.2 r hr
 exact ⟨⟨by omega,h3,by omega,by omega,by omega⟩,h1,h2⟩
theorem Zd (e:Int)(b:Bool)(k:Nat):(H1 e b k).length=k:=by rw [H1,List.length_map,List.length_range]
theorem Wp (e:Int)(b:Bool)(k:Nat):H1 e b (k+1)=H1 e b k++[⟨(k:Int)+1,e,b⟩]:=by
 rw [H1,List.range_succ,List.map_append]
 rfl
set_option maxHeartbeats 4000000 in
theorem C3i (x:A3)(e:Int)(cap ok:Bool)(h:x.w≤16000000)(h0:0<x.workers.length):
  Iv Tryz.prog (fun _=>True) 235 [] (rcb x ok) [.one (vi e),.one (vb cap)] (fun _:Unit=>True) (fun _=>rcb (I0 (Av x 0 (Cx (x.workers.getD 0 default) ⟨e,cap⟩)) (H1 e cap (x.workers.length-1))) ok) (fun _=>[]):=by
 have hw:=A3.worker_le h h0
 have hnl:=A3.news_le h
 have hwl:=A3.workers_le h
 have hdl:(x.workers.getD 0 default).dones.length≤16000000:=by simp only [Ab.w] at hw;omega
 refine Ol A0 false Tryz.func235 rfl Bu fun B b hH hp=>?_
 conv=>whnf
 refine B8m 0 3 2 rfl rfl (fun v2=>?_)
 refine B9u 0 3 rfl rfl (fun ho_v2=>?_)
 refine Jc rfl ?_
 refine Ct A0 false 0 rfl rfl Aa rfl (Af D0) ?_
 refine Ct A0 false 1 rfl rfl Aa rfl (Af D0) ?_
 refine Ct A0 false 2 rfl rfl Aa rfl (Af D0) ?_
 refine Ct A0 false 3 rfl rfl Aa rfl (Af D0) ?_
 refine Ct A0 false 5 rfl rfl Aa rfl (Af D0) ?_
 refine Ct A0 false 6 rfl rfl Aa rfl (Af D0) ?_
 refine Ct A0 false 7 rfl rfl Aa rfl (Af D0) ?_
 refine Ct A0 false 8 rfl rfl Aa rfl (Af D0) ?_
 refine Ct A0 false 13 rfl rfl Aa rfl (Af D0) ?_
 refine Ct A0 false 14 rfl rfl Aa rfl (Af D0) ?_
 refine Do (s':=?_) 9 rfl Aa ?_ ?_
 rotate_left
 refine go A0 false ?_
 conv=>whnf
 (repeat refine Ar ?_)
 exact Bd
 refine Do (s':=?_) 10 rfl Aa ?_ ?_
 rotate_left
 refine go A0 false ?_
 conv=>whnf
 refine Je 16 2 rfl rfl (Al ?_)
 (repeat refine Ar ?_)
 exact Bd
 refine Ct A0 false 11 rfl rfl Aa rfl (Af D0) ?_
 refine B8p (α:=Value) (s':=?_) 12 rfl Aa ?_ ?_
 rotate_left
 refine go A0 false ?_
 conv=>whnf
 refine B8f A0 rfl rfl rfl rfl rfl rfl (jn:=0) rfl rfl rfl (fun v=>go A0 false ?_)
 conv=>whnf
 exact B9f v
 intro v
 refine Do (s':=?_) 15 rfl Aa ?_ ?_
 rotate_left
 refine go A0 false ?_
 conv=>whnf
 (repeat refine Ar ?_)
 exact Bd
 refine S7 [16,17,18,19,20] [⟨4,11,.rd v2⟩] Aa ?_
 refine D5 (s':=?_) A0 rfl Aa Gp ?_ ?_
 rotate_left
 refine go A0 false ?_
 conv=>whnf
 (repeat refine Ar ?_)
 exact Bd
 refine D5 (s':=?_) A0 rfl Aa Gp ?_ ?_
 rotate_left
 refine go A0 false ?_
 conv=>whnf
 refine Dp A0 rfl rfl rfl rfl rfl rfl rfl rfl rfl rfl rfl (Jn ((x.workers.getD 0 default).dones++[⟨e,cap⟩])) (Bf rfl) M1 Ac (Al ?_)
 exact Bd
 refine D5 (s':=?_) A0 rfl Aa Gp ?_ ?_
 rotate_left
 refine go A0 false ?_
 conv=>whnf
 refine Je 11 2 rfl rfl (Al ?_)
 (repeat refine Ar ?_)
 exact Bd
 refine D5 (s':=?_) A0 rfl Aa Gp ?_ ?_
 rotate_left
 refine go A0 false ?_
 conv=>whnf
 (repeat refine Ar ?_)
 exact Bd
 refine D5 (s':=?_) A0 rfl Aa Gp ?_ ?_
 rotate_left
 refine go A0 false ?_
 conv=>whnf
 refine D7 (j:=0) A0 rfl rfl rfl rfl rfl rfl rfl rfl (Be (x.workers.set 0 (Cx (x.workers.getD 0 default) ⟨e,cap⟩))) (B1i h0 rfl) (Al ?_)
 exact Bd
 refine P5 A0 Aa Gp (GW.out (Tt ?_))
 conv=>whnf
 refine B8j 0 3 2 rfl rfl rfl ?_
 refine Bw A0 false [7,8,9,10,11,12,13,14,15,16,17,18,19,20,21,22,23,24,25,26] (fun k:Nat=>[(6,.c (vi (k+1)))]) (fun k=>[⟨0,[.own 1,.c (vi x.graph.workers),.c (vi x.graph.cap),.own 2,.own 3,.own 4,.own 5,.c (vb ok)]⟩]) (fun k=>[⟨1,Bp x.graph.nodes⟩,⟨2,Be (x.workers.set 0 (Cx (x.workers.getD 0 default) ⟨e,cap⟩))⟩,⟨3,Dt x.links⟩,⟨4,C0 x.tokens⟩,⟨5,Ef (x.news++H1 e cap k)⟩])
  (fun k=>k≤(x.workers.length-1)) (fun k=>(x.workers.length-1)-k) 0 (Nat.zero_le _) ⟨by first|rfl|simp [Dl,ren2,ren1,ren0],trivial⟩ F3 ⟨by first|rfl|exact (congrArg (fun l=>Du _ _ l) (List.append_nil _)).symm|(show (_:A8)=_;simp)|simp,by first|rfl|exact (congrArg (fun l=>Du _ _ l) (List.append_nil _)).symm|(show (_:A8)=_;simp)|simp,by first|rfl|exact (congrArg (fun l=>Du _ _ l) (List.append_nil _)).symm|(show (_:A8)=_;simp)|simp,by first|rfl|exact (congrArg (fun l=>Du _ _ l) (List.append_nil _)).symm|(show (_:A8)=_;simp)|simp,by first|rfl|exact (congrArg (fun l=>Du _ _ l) (List.append_nil _)).symm|(show (_:A8)=_;simp)|simp,trivial⟩ Dh Aa (fun k hk=>?_)
 conv=>whnf
 refine G5 (fun hg=>?_) fun hg=>?_<;>conv=>whnf
 ·rw [List.length_set] at hg
  refine Dp A0 rfl rfl rfl rfl rfl rfl rfl rfl rfl rfl rfl (Ef (x.news++H1 e cap k++[⟨k+1,e,cap⟩])) (Bf rfl) M1 (by rw [List.length_append,Zd];omega) (Al ?_)
  (repeat refine Ar ?_)
  refine B5 [(0,0),(1,1),(2,2),(3,3),(4,4),(5,10)] (k+1) Ac Ac ⟨by rw [Int.natCast_add];rfl,trivial⟩ ⟨rfl,rfl,rfl,rfl,by show (_:A8)=_;rw [Wp,←List.append_assoc],trivial⟩ F3 Aa Dh Aa
 ·rw [List.length_set] at hg
  repeat refine Bi ?_
  obtain rfl:k=x.workers.length-1:=by omega
  exact C5v (Kk A0 () trivial rfl rfl rfl rfl Ca)
end Go.Proofs.YtonodkjaoalfjaaGreat
