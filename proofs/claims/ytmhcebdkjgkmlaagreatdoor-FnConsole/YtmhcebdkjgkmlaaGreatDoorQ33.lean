/- Part 33 of the proof that each of the laws FnConsole returns true for every input. No conditions. -/
import Derived.Test.YtmhcebdkjgkmlaaGreatDoorQ32

set_option linter.unusedSimpArgs false
set_option linter.unusedVariables false
set_option maxRecDepth 100000
namespace Go.Proofs.YtmhcebdkjgkmlaaGreatDoor
open Go.Sx
def B01 (x:Ad):Prop:=x.ok
def Hc (c:A3):Prop:=∀w∈c.aq,∀x∈w.cells,B01 x
variable {x : Ad} {y : Ad}
theorem B8r {l:List Ad}(h:y∈(Km l x).1):y∈l∨y=x:=by
 unfold Km at h
 split at h
 ·exact .inl h
 rcases C1m.1 h with h|h
 ·exact .inl (Uv.1 h).1
 exact .inr h
theorem A8i {k:Int}{l:List Ad}(h:y∈(Cz k l x).1):y∈l∨y=x:=by
 unfold Cz at h
 split at h
 ·exact B8r h
 split at h
 ·split at h
  ·exact .inl h
  exact C1m.1 h
 exact .inl h
variable {g : B0} {r : Aa}
theorem C0n {cs:List Ad}(h:y∈(H2 g cs r).1):y∈cs∨(H5 r∧y=Fu r):=by
 unfold H2 at h
 split at h
 ·rename_i hs
  split at h
  ·exact .inl h
  split at h
  ·rcases A8i h with h|h
   ·exact .inl h
   exact .inr ⟨hs.2.1,h⟩
  rcases A8i h with h|h
  ·exact .inl h
  exact .inr ⟨hs.2.1,h⟩
 exact .inl h
theorem Zo (h:H5 r):r.ok:=by
 simp only [H5] at h;simp only [Aa.ok,Iz.ok,Gv];omega
theorem C5t (h:H5 r):B01 (Fu r):=⟨(Zo h).1,(Zo h).2.1.1,(Zo h).2.2⟩
variable {c : A3} {w : Ae}
theorem Jm {j:Int}(h:Hc c)(hw:∀x∈w.cells,B01 x):Hc (Be c j w):=fun v hv=>by
 rcases Lp hv with hv|rfl
 ·exact h v hv
 exact hw
theorem K3 {w:Int}(h:Hc c):∀x∈(A8 c w).cells,B01 x:=by
 unfold A8
 by_cases hl:w.toNat<c.aq.length
 ·exact h _ (Al hl)
 rw [show c.aq.getD w.toNat default=default by simp only [List.getD,A0f (A0c hl),Option.getD_none]]
 intro x hx
 cases hx
variable {p : Do}
theorem B5k (h:Hc c):Hc (Ap c p).1:=by
 unfold Ap
 split
 ·unfold Fy
  split
  ·refine Jm h ?_
   unfold Me
   split
   ·intro x hx
    rcases C0n (show x∈(H2 c.az (A8 c p.a).cells ((A8 c p.a).ar.getD 0 default)).1 from hx) with hx|⟨hr,rfl⟩
    ·exact K3 h x hx
    exact C5t hr
   exact K3 h
  exact h
 split
 ·unfold Ez
  split
  ·refine Jm h ?_
   unfold H9
   split<;>exact K3 h
  exact h
 split
 ·unfold Ck
  split
  ·split
   ·exact Jm h (K3 h)
   split
   ·refine Jm (show Hc (Dd c _ _) from h) ?_
    unfold Jz
    split<;>exact K3 h
   exact h
  exact h
 split
 ·unfold E9
  split
  ·refine Jm (show Hc (Dd c _ _) from h) ?_
   unfold Im
   split<;>exact K3 h
  exact h
 split
 ·unfold F6
  split<;>exact h
 split
 ·unfold D0
  dsimp only
  split
  ·split
   ·exact Jm (show Hc (G5 c _ _) from h) (K3 h)
   split
   ·split
    ·exact Jm (show Hc (G5 c _ _) from h) (K3 h)
    exact h
   unfold Kz
   split
   ·exact Jm (show Hc (G5 c _ _) from h) (K3 h)
   exact h
  exact h
 split
 ·unfold Fv
  split
  ·split
   ·exact h
   exact Jm (show Hc (V0 c _) from h) (K3 h)
  exact h
 exact h
def B8k (c:A3):Prop:=Ax c∨∃(d:A3) (j:Int) (v:Ae) (e k:Int),Ax d∧Cw d.az.ak.length v∧(k=1∨k= -1)∧c=Be d j (Iv v e k)
theorem B6v (h:B8k c):B8k (Ap c p).1:=by
 by_cases hc:Ax c
 ·by_cases hk:Au (Ap c p).1=true
  ·exact .inl (Bn hk)
  rw [A41 hc] at hk
  split at hk
  ·rename_i h3
   split at hk
   ·rename_i hm
    obtain ⟨hm,hne⟩:=hm
    have e:(Ap c p).1=(Ck c p.a).1:=by
     unfold Ap;rw [Ab A7,Ab A7,Ak h3]
    rw [e];unfold Ck at hm ⊢
    split at hm
    ·rename_i hM
     split at hm
     ·rename_i hS
      rw [Ak hM,Ab hne,Ak hS];have hv:=A0a (Up hM.1.1 hM.1.2);exact .inr ⟨_,_,_,_,1,Zj hM.1 hM.2 hne,hv,.inl rfl,by rw [A4s hv (A06 hM.1 hM.2).1.2.1]⟩
     cases hm
    cases hm
   exact absurd rfl hk
  split at hk
  ·rename_i h3 h4
   split at hk
   ·rename_i hm
    have e:(Ap c p).1=(E9 c p.a p.b).1:=by
     unfold Ap;rw [Ab A7,Ab A7,Ab h3,Ak h4]
    rw [e];unfold E9 at hm ⊢
    split at hm
    ·rename_i hT
     rw [Ak hT];have hr:=B79 hT.1 hT.2;have ht:0≤p.b∧p.b<c.aq.length:=⟨hT.1.2.2.2.1,by rw [hc.1.2.1];exact hT.1.2.2.2.2⟩;have hv:=B3v (Up hc ht) hr;have hw:=Up hc ht;refine .inr ⟨_,p.b,_,(Pa c p.a p.b).af.ab,-1,Zy hT.1,(B06 (e:=(Pa c p.a p.b).af.ab) (b:=true)).2 hv,.inr rfl,?_⟩
     show Be _ p.b (Im (A8 c p.b) (Pa c p.a p.b))=_
     rw [A4p hw hr.1.2.1];rfl
    cases hm
   exact absurd rfl hk
  exact absurd rfl hk
 rw [Xo hc];exact h
theorem C9h (h:B01 x):x.ok:=h
theorem D0j {x:C3}(h:Jg x):x.ok:=by
 obtain ⟨hk,h2,h3,h4,h0,ho,_,_,hn⟩:=h
 have hab:(-1000≤x.a∧x.a≤1000)∧(-1000≤x.b∧x.b≤1000):=by
  by_cases k2:x.kind=2
  ·have:=h2 k2;omega
  by_cases k3:x.kind=3
  ·have:=h3 k3;omega
  by_cases k4:x.kind=4
  ·have:=h4 k4;omega
  have:=h0 k2 k3 k4;omega
 refine ⟨?_,?_,?_,by simp only [maxLen];omega,fun y hy=>?_⟩
 ·simp only [Gv];omega
 ·simp only [Gv];omega
 ·simp only [Gv];omega
 have:=hn y hy
 simp only [Gv];omega
theorem B9t {α:Type} [Inhabited α] {l:List α}{x:α}(h:x∈l):∃i,i<l.length∧l.getD i default=x:=by
 obtain ⟨i,hi,rfl⟩:=S4 h;exact ⟨i,hi,by simp only [List.getD,Dl hi,A2d]⟩
theorem B51 (h:Gw g):g.ok:=by
 obtain ⟨h1,h2,h3,h4⟩:=h;refine ⟨⟨by simp only [maxLen];omega,fun y hy=>?_⟩,?_,?_⟩
 ·obtain ⟨i,hi,rfl⟩:=B9t hy
  exact D0j (h4 i hi).1
 ·simp only [Gv];omega
 simp only [Gv];omega
theorem C97 {l:D5}(h:Hv l):l.ok:=by
 obtain ⟨⟨h1,h2,h3,h4,h5,h6,h7⟩,hq⟩:=h;refine ⟨?_,⟨by simp only [maxLen];omega,fun y hy=>Zo (hq y hy)⟩,?_,?_,?_,?_⟩<;>(simp only [Gv];omega)
def A5e (n:Nat) (w:Ae):Prop:=R6 n w∧B2s w.an∧∀k∈w.al,-1000001≤k∧k≤1000001
theorem A0b {n:Nat}(h:Cw n w):A5e n w:=⟨h.1,h.2.2.2.2,fun k hk=>by
 have:=h.2.2.2.1 k hk
 simp only [Jk] at this
 omega⟩
theorem C40 {n:Nat}(h:A5e n w)(hc:∀x∈w.cells,B01 x)(hw:w.w≤100000000):w.ok:=by
 obtain ⟨⟨hq,hs,hi,_⟩,hd,hn⟩:=h;simp only [Ae.w] at hw;refine ⟨⟨?_,fun y hy=>Zo (hq y hy).1⟩,⟨?_,fun y hy=>Zo (hs y hy).1⟩,⟨?_,fun y hy=>Zo (hi y hy).1⟩,⟨?_,fun y hy=>C9h (hc y hy)⟩,⟨?_,fun y hy=>?_⟩,?_,?_,?_,fun y hy=>?_⟩
 any_goals (simp only [maxLen];omega)
 ·have:=hn y hy
  simp only [Gv];omega
 obtain ⟨i,hi,rfl⟩:=B9t hy
 have:=(hd i hi).1
 simp only [H6.ok,Gv];omega
theorem D2u {α:Type}{w:α→Nat}{l:List α}{x:α}(h:x∈l):w x≤wS w l:=by
 rw [C81]
 induction l with
 |nil=>cases h
 |cons y l ih=>
  simp only [I1,Ux,Fb]
  rcases Ch.1 h with rfl|h
  ·omega
  have:=ih h;omega
theorem B81 (hg:Gw c.az)(hw:∀w∈c.aq,A5e c.az.ak.length w)(hl:∀i,i<c.ay.length→Hv (c.ay.getD i default))(ht:∀t∈c.ap,Qw c.az.aq t)(hn:∀x∈c.ac,Oo c.az.aq x)(hb:Hc c)(hs:c.w≤100000000):c.ok:=by
 have hgw:=hg.2.1;simp only [A3.w] at hs;have h1:=C81 Ae.w c.aq;have h2:=C81 D5.w c.ay;refine ⟨B51 hg,⟨?_,fun y hy=>C40 (hw y hy) (hb y hy) ?_⟩,⟨?_,fun y hy=>?_⟩,⟨?_,fun y hy=>?_⟩,⟨?_,fun y hy=>?_⟩⟩
 ·simp only [maxLen];omega
 ·have:=D2u (w:=Ae.w) hy
  omega
 ·simp only [maxLen];omega
 ·obtain ⟨i,hi,rfl⟩:=B9t hy
  exact C97 (hl i hi)
 ·simp only [maxLen];omega
 ·have:=ht y hy
  simp only [Qw] at this;simp only [Gg.ok,Gv];omega
 ·simp only [maxLen];omega
 have:=hn y hy
 simp only [Oo] at this;simp only [De.ok,Gv];omega
def OkQ (c:A3):Prop:=Gw c.az∧(∀w∈c.aq,A5e c.az.ak.length w)∧(∀i,i<c.ay.length→Hv (c.ay.getD i default))∧(∀t∈c.ap,Qw c.az.aq t)∧(∀x∈c.ac,Oo c.az.aq x)
theorem C7o (h:OkQ c∧Hc c)(hs:c.w≤100000000):c.ok:=B81 h.1.1 h.1.2.1 h.1.2.2.1 h.1.2.2.2.1 h.1.2.2.2.2 h.2 hs
theorem B9u (h:B8k c):OkQ c:=by
 rcases h with h|⟨d,j,v,e,k,hd,hv,hk,rfl⟩
 ·obtain ⟨hh,hw,hl,ht,hn⟩:=h
  exact ⟨hh.1,fun w hw'=>A0b (hw w hw'),fun i hi=>(hl i hi).1,ht,hn⟩
 obtain ⟨hh,hw,hl,ht,hn⟩:=hd;refine ⟨hh.1,fun w hw'=>?_,fun i hi=>(hl i hi).1,ht,hn⟩
 rcases Lp hw' with hw'|rfl
 ·exact A0b (hw w hw')
 have hq:=A0b hv;refine ⟨hq.1,hq.2.1,fun n hn=>?_⟩
 rcases Lp hn with hn|rfl
 ·exact hq.2.2 n hn
 by_cases hl:e.toNat<v.al.length
 ·have:=hv.2.2.2.1 _ (Al (d:=default) hl)
  simp only [Jk] at this;omega
 rw [show v.al.getD e.toNat default=0 by simp only [List.getD,A0f (A0c hl),Option.getD_none];rfl]
 omega
theorem C7p (h:OkQ c∧Hc c):OkQ (Ap c p).1∧Hc (Ap c p).1:=by
 refine ⟨?_,B5k h.2⟩
 by_cases hc:Ax c
 ·exact B9u (B6v (.inl hc))
 rw [Xo hc];exact h.1
theorem B7n {l:List Do}(h:OkQ c∧Hc c):OkQ (Ay c l).1∧Hc (Ay c l).1:=by
 have:∀(l:List Do) (s:A3×List Bool),OkQ s.1∧Hc s.1→OkQ (l.foldl J9 s).1∧Hc (l.foldl J9 s).1:=by
  intro l
  induction l with
  |nil=>intro s hs;exact hs
  |cons p l ih=>intro s hs;exact ih (J9 s p) (C7p hs)
 exact this l (c,[]) h
theorem B5v (n:Nat):∀{c:A3},OkQ c∧Hc c→OkQ (Eb n c).1∧Hc (Eb n c).1:=by
 induction n with
 |zero=>intro c h;exact h
 |succ n ih=>
  intro c h;have h1:OkQ (Ca c).1∧Hc (Ca c).1:=B7n h;unfold Eb
  split
  ·exact h1
  exact ih h1
variable {l : List Aa}
theorem B9z {n:Int}{w:Nat}(h:r∈B9y n l w):r∈l:=by
 simp only [B9y,Ee,Uv] at h;obtain ⟨e,_,h,_⟩:=h;simp only [Ff,Uv] at h;exact h.1
theorem D0i (h:(Bh g l).2=true):OkQ (Bh g l).1∧Hc (Bh g l).1:=by
 have hN:A44 g l:=by
  by_cases hN:A44 g l
  ·exact hN
  rw [N9 hN] at h
  cases h
 rw [Xl hN];obtain ⟨hg,hl,hr⟩:=hN;have hg1:=hg.1;have hg2:=hg.2.1
 have hw:∀w∈El g.aq l g.aq.toNat,(w.ar=[]∧w.aa=[]∧w.cells=[]∧w.an=[]∧w.al=List.replicate 4 0)∧∀r∈w.au,r∈l:=by
  intro w hw;simp only [El,Fm] at hw;obtain ⟨i,_,rfl⟩:=hw;exact ⟨⟨rfl,rfl,rfl,rfl,rfl⟩,fun r hr=>B9z hr⟩
 refine ⟨⟨hg,fun w hw'=>?_,fun i hi=>?_,fun t ht=>?_,fun x hx=>?_⟩,fun w hw' x hx=>?_⟩
 ·obtain ⟨⟨e1,e2,e3,e4,e5⟩,hi⟩:=hw w hw'
  refine ⟨⟨?_,?_,fun r hr'=>?_,?_⟩,?_,fun k hk=>?_⟩
  ·rw [e1];intro r hr;cases hr
  ·rw [e2];intro r hr;cases hr
  ·have:=hr r (hi r hr')
   refine ⟨this.1,?_⟩
   show r.op<(g.ak.length:Int)
   omega
  ·rw [e3];intro i hi;exact absurd hi (L4 i)
  ·rw [e4];intro i hi;exact absurd hi (L4 i)
  rw [e5] at hk
  have:=X7 hk
  omega
 ·have hm:=Al (d:=default) hi
  rw [X7 hm];have hb:=G2 g.cap 1 4 Bq;refine ⟨⟨?_,?_,?_,?_,?_,?_,?_⟩,fun r hr=>by cases hr⟩<;>simp only [H8,H3]<;>omega
 ·rw [X7 ht]
  have e:Qw g.aq default↔(0≤(0:Int)∧(0:Int)≤g.aq-1)∧(false=false→(0:Int)=0)∧(-1000000≤(0:Int)∧(0:Int)≤1000000):=Iff.rfl;exact e.2 ⟨by omega,fun _=>rfl,by omega⟩
 ·cases hx
 rw [(hw w hw').1.2.2.1] at hx
 cases hx
theorem A1m:Lb.ok:=by
 refine ⟨⟨⟨by simp only [maxLen];decide,fun y hy=>by cases hy⟩,by simp only [Gv];decide,by simp only [Gv];decide⟩,⟨by simp only [maxLen];decide,fun y hy=>by cases hy⟩,⟨by simp only [maxLen];decide,fun y hy=>by cases hy⟩,⟨by simp only [maxLen];decide,fun y hy=>by cases hy⟩,⟨by simp only [maxLen];decide,fun y hy=>by cases hy⟩⟩
theorem Yq {s:C7}(h:(Bh s.az s.au).2=true):OkQ (Eo s).1∧Hc (Eo s).1:=by
 rw [A5q h];exact B5v _ (B7n (D0i h))
theorem B4e {s:C7}(hs:(Eo s).1.w≤100000000):(Eo s).1.ok:=by
 by_cases h:(Bh s.az s.au).2=true
 ·exact C7o (Yq h) hs
 rw [A8n (by simpa using h)];exact A1m
def Bu (x:ByteArray):A3×List Bool×Bool×Int:=
 if (B9 x).2=0 then ((Eo (B9 x).1).1,(Eo (B9 x).1).2.1,(Eo (B9 x).1).2.2,0) else (Lb,[],false,(B9 x).2)
variable {x : ByteArray}
theorem Ml (h:(B9 x).2=0):Bu x=((Eo (B9 x).1).1,(Eo (B9 x).1).2.1,(Eo (B9 x).1).2.2,0):=Ak h
theorem O7 (h:¬ (B9 x).2=0):Bu x=(Lb,[],false,(B9 x).2):=Ab h
theorem Nf (x:ByteArray):(B9 x).1.w≤324∧(B9 x).1.ae.length≤200:=by
 have h0:(default:C7).w≤324∧(default:C7).ae.length≤200:=⟨Fe _,Fe _⟩;unfold B9
 split
 ·exact h0
 split
 ·exact h0
 rename_i hbad
 dsimp only
 split
 ·have hg:S5 (Bj x) (Bj x).length:=fun j hj=>by simpa using List.find?_range_eq_none.1 hbad j hj
  have:=B2k (Bj x).length (Ds _) hg
  exact ⟨this.w.2,this.2.2.2⟩
 exact h0
theorem A1y {s:C7}(h:s.w≤324):(Eo s).1.w≤540000∧(Eo s).2.1.length≤324:=by
 have hw:s.az.w+s.au.length+s.ae.length≤324:=h;have h1:=C7l (g:=s.az) (l:=s.au);have h2:=Zr (c:=(Bh s.az s.au).1) (l:=s.ae);have hb:=G2 s.bq 0 3000 Bq;have h3:=B1f (Cs s.bq 0 3000).toNat (Ay (Bh s.az s.au).1 s.ae).1;unfold Eo
 split
 ·refine ⟨?_,?_⟩
  ·show (Eb _ _).1.w≤_
   omega
  show (Ay _ _).2.length≤_
  rw [Wm];omega
 exact ⟨Fe _,Fe _⟩
theorem Jp (x:ByteArray):(Bu x).1.w≤540000∧(Bu x).2.1.length≤324:=by
 by_cases h:(B9 x).2=0
 ·rw [Ml h]
  exact A1y (Nf x).1
 rw [O7 h];exact ⟨Fe _,Fe _⟩
theorem B7k (h:(Bu x).2.2.1=true):OkQ (Bu x).1∧Hc (Bu x).1:=by
 by_cases hr:(B9 x).2=0
 ·rw [Ml hr] at h ⊢
  refine Yq ?_
  by_cases hk:(Bh (B9 x).1.az (B9 x).1.au).2=true
  ·exact hk
  rw [A8n (by simpa using hk)] at h
  cases h
 rw [O7 hr] at h
 cases h
theorem Uf (x:ByteArray):(Bu x).1.ok:=by
 by_cases hr:(B9 x).2=0
 ·have:=(A1y (Nf x).1).1
  rw [Ml hr];exact B4e A7
 rw [O7 hr];exact A1m
theorem C3n (n:Nat):∀c:A3,M6 c→M6 (Eb n c).1:=by
 induction n with
 |zero=>intro c h;exact h
 |succ n ih=>
  intro c h;unfold Eb
  split
  ·exact A26 h
  exact ih _ (A26 h)
theorem B7j (x:ByteArray):M6 (Bu x).1:=by
 by_cases hr:(B9 x).2=0
 ·rw [Ml hr]
  by_cases hk:(Bh (B9 x).1.az (B9 x).1.au).2=true
  ·rw [A5q hk]
   exact C3n _ _ (A10 B31)
  rw [A8n (by simpa using hk)];exact fun k hk=>by cases hk
 rw [O7 hr];exact fun k hk=>by cases hk
theorem Zw (x:ByteArray)(hx:x.size≤1048576):Di 41 [.one (vs x)] [.agg (Bu x).1.c,.one (Df (Bu x).2.1),.one (vb (Bu x).2.2.1),.one (vi (Bu x).2.2.2)]:=by
 have hs:=(Nf x).1;refine E7 Tryz.func41 fun W=>?_;refine Fp (A80 x hx) ?_;refine Y0 (fun h=>?_) fun h=>?_
 ·rw [O7 h]
  refine Oq 2 (Df []) rfl C0 ?_;exact D4
 refine Gf (A48 (B9 x).1 A7) ?_;rw [Ml h];exact D4
theorem U1 (x:ByteArray)(hx:x.size≤1048576):E3 Tryz.prog X8 43 [.one (vs x)] [.agg (Bu x).1.c,.one (Df (Bu x).2.1),.one (vi (Bu x).2.2.2),.one (vb (Bu x).2.2.1)]:=by
 have hs:=(Nf x).1;refine He A0 false Tryz.func43 rfl Bq fun W hW=>?_;conv=>whnf
 refine Dj (A7i x hx) B5 hW rfl (Ah ?_);refine Y0 (fun h=>?_) fun h=>?_
 ·rw [O7 h]
  exact D4
 refine Gf (A45 (B9 x).1 A7) ?_;rw [Ml h];exact D4
def Jv (x:Ad):ByteArray:=I9 x.ab++(⟨#[32]⟩:ByteArray)++I9 x.op++(⟨#[32]⟩:ByteArray)++I9 x.key++(⟨#[32]⟩:ByteArray)++I9 x.val
theorem B4k (x:Ad)(o:x.ok):Di 101 [.agg x.c] [.one (vs (Jv x))]:=by
 obtain ⟨o1,o2,o3,o4⟩:=o;have d1:=B8 o1;have d2:=B8 o2;have d3:=B8 o3;have d4:=B8 o4;refine E7 Tryz.func101 fun W=>?_
 repeat' (first|(refine Ho ?_;conv=>whnf)|(refine Hp ?_;conv=>whnf)|(refine ⟨fun h=>?_,fun h=>?_⟩<;>conv=>whnf)|(refine Aq (Cq _ o1) rfl (Ah ?_))|(refine Aq (Cq _ o2) rfl (Ah ?_))|(refine Aq (Cq _ o3) rfl (Ah ?_))|(refine Aq (Cq _ o4) rfl (Ah ?_))|(refine Cp ?_;conv=>whnf)|(refine Aj 1 rfl [0,1,4,5,9,10,14,15,2,3,6,7,8,11,12,13,16,17,18] Am (Ah ?_))|fail)
 exact An A0 rfl rfl ⟨rfl,trivial⟩
theorem B3c (x:Ad)(o:x.ok):E3 Tryz.prog X8 106 [.agg x.c] [.one (vs (Jv x))]:=by
 obtain ⟨o1,o2,o3,o4⟩:=o;have d1:=B8 o1;have d2:=B8 o2;have d3:=B8 o3;have d4:=B8 o4;refine He A0 false Tryz.func106 rfl Bq fun W hW=>?_;conv=>whnf
 repeat' (first|(refine Ho ?_;conv=>whnf)|(refine Hp ?_;conv=>whnf)|(refine ⟨fun h=>?_,fun h=>?_⟩<;>conv=>whnf)|(refine Dj (Dq _ o1) B5 hW rfl (Ah ?_))|(refine Dj (Dq _ o2) B5 hW rfl (Ah ?_))|(refine Dj (Dq _ o3) B5 hW rfl (Ah ?_))|(refine Dj (Dq _ o4) B5 hW rfl (Ah ?_))|(refine Cp ?_;conv=>whnf)|(refine Aj 1 rfl [0,1,4,5,9,10,14,15,2,3,6,7,8,11,12,13,16,17,18] Am (Ah ?_))|fail)
 exact An A0 rfl rfl ⟨rfl,trivial⟩
variable {y : Ad}
theorem C7f {l:List Ad}{x:Ad}(h:y∈Dh l x):y∈l∨y=x:=by
 unfold Dh at h
 split at h
 ·exact .inl h
 rcases Ki.1 h with h|h
 ·exact .inl (List.mem_of_mem_take h)
 rcases Ch.1 h with h|h
 ·exact .inr h
 exact .inl (A3m h)
theorem B6t {cs:List Ad}:∀{l:List Ad},y∈cs.foldl Dh l→y∈l∨y∈cs:=by
 induction cs with
 |nil=>intro l h;exact .inl h
 |cons c r ih=>
  intro l h
  rcases ih h with h|h
  ·rcases C7f h with h|h
   ·exact .inl h
   exact .inr (by rw [h];exact L3)
  exact .inr (Db _ h)
theorem D0e {ws:List Ae}:∀{l:List Ad},y∈ws.foldl (fun l w=>w.cells.foldl Dh l) l→y∈l∨∃w∈ws,y∈w.cells:=by
 induction ws with
 |nil=>intro l h;exact .inl h
 |cons c r ih=>
  intro l h
  rcases ih h with h|⟨w,hw,h⟩
  ·rcases B6t h with h|h
   ·exact .inl h
   exact .inr ⟨c,L3,h⟩
  exact .inr ⟨w,Db _ hw,h⟩
theorem A4i {x:A3}(ox:x.ok){e:Int}(h:y∈Eh x e):y.ok:=by
 have h1:y∈Ea x:=(Uv.1 (Uv.1 h).1).1
 rcases D0e h1 with h1|⟨w,hw,h1⟩
 ·cases h1
 exact (ox.2.1.2 w hw).2.2.2.1.2 y h1
def A1r (x:A3) (k:Nat):List ByteArray:=(List.range k).flatMap fun (e:Nat)=>(Eh x e).map Jv
def Oy (x:A3):List ByteArray:=A1r x 4
theorem B15 (x:A3)(k:Nat):A1r x (k+1)=A1r x k++(Eh x k).map Jv:=by
 rw [A1r,Yy,Wu]
 simp [A1r]
theorem B86 (l:List Ad)(k:Nat):((List.range k).map fun (e:Nat)=>(l.filter (fun y=>y.ab==(e:Int))).length).sum≤(l.filter (fun y=>decide (0≤y.ab∧y.ab<(k:Int)))).length:=by
 induction k with
 |zero=>simp
 |succ k ih=>
  rw [Yy,Qu,List.sum_append];simp only [I1,Wx,Ux,List.sum_nil,Ry]
  have e:(l.filter (fun y=>decide (0≤y.ab∧y.ab<(k:Int)))).length+(l.filter (fun y=>y.ab==(k:Int))).length≤(l.filter (fun y=>decide (0≤y.ab∧y.ab<((k+1:Nat):Int)))).length:=by
   clear ih
   induction l with
   |nil=>simp
   |cons y r ih=>
    simp only [List.filter_cons]
    by_cases h1:0≤y.ab∧y.ab<(k:Int)
    ·rw [Ak (by simpa using h1),Ab Pn,Ak Pn]
     simp only [Fb];omega
    by_cases h2:y.ab=(k:Int)
    ·rw [Ab (by simpa using h1),Ak (by simpa using h2),Ak Pn]
     simp only [Fb];omega
    rw [Ab (by simpa using h1),Ab (by simpa using h2),Ab Pn];exact ih
  omega
theorem A1s (x:A3)(k:Nat):(A1r x k).length≤(Ea x).length:=by
 rw [A1r,List.length_flatMap];have h1:=B86 (Ei x.az (Ea x)) k;have h2:=Nr (fun y:Ad=>decide (0≤y.ab∧y.ab<(k:Int))) (Ei x.az (Ea x));have h3:=Pw (g:=x.az) (Ds (Ea x).length);simp only [Jd];have e:((List.range k).map fun (e:Nat)=>(Eh x e).length)=((List.range k).map fun (e:Nat)=>((Ei x.az (Ea x)).filter (fun y=>y.ab==(e:Int))).length):=rfl;rw [e];omega
theorem A1q {x:A3}{n:Nat}(h:x.w≤n)(e:Int):(Eh x e).length≤n:=Fk (Nr _ _) (Pw (Mg h))
theorem W4 {α β:Type} [Inhabited α] (f:α→β){l:List α}{k:Nat}(hk:k<l.length):(l.take (k+1)).map f=(l.take k).map f++[f (l.getD k default)]:=by
 rw [A3p hk,Qu]
 simp [List.getD,hk]
set_option maxHeartbeats 1000000 in
theorem A17 (x:A3)(ox:x.ok)(hx:x.w≤1100000):Di 48 [.agg x.c] [.one (C6 (Oy x))]:=by
 have hc:=Mg hx;refine E7 Tryz.func48 fun W=>?_;refine Eu 1 (C6 []) rfl C0 ?_;refine Fx [5,6,7] (fun k:Nat=>[(4,.c (vi k))]) (fun k=>[⟨0,[.c (At x.az.ak),.c (vi x.az.aq),.c (vi x.az.cap),.c (Af x.aq),.c (Ba x.ay),.c (Aw x.ap),.c (Bf x.ac)]⟩]) (fun k=>[⟨1,C6 (A1r x k)⟩]) (fun k=>k≤4) (fun k=>4-k) fun k hk=>?_;conv=>whnf
 refine C1 (fun h=>?_) fun h=>?_
 ·have h:k<4:=by have:=Bn h;omega
  have h1:=A1s x k;have h2:=A1q hx k;refine Gf (B4m x k A7) ?_;refine Fx [] (fun j:Nat=>[(6,.c (vi j))]) (fun j=>[⟨0,[.c (At x.az.ak),.c (vi x.az.aq),.c (vi x.az.cap),.c (Af x.aq),.c (Ba x.ay),.c (Aw x.ap),.c (Bf x.ac)]⟩]) (fun j=>[⟨2,Ai (Eh x k)⟩,⟨1,C6 (A1r x k++((Eh x k).take j).map Jv)⟩]) (fun j=>j≤(Eh x k).length) (fun j=>(Eh x k).length-j) fun j hj=>?_;conv=>whnf
  refine Dv (fun h'=>?_) fun h'=>?_
  ·have h':j<(Eh x k).length:=by omega
   have h3:(((Eh x k).take j).map Jv).length≤j:=by rw [Jd,F9];omega
   refine B4 ?_;refine Fp (B4k ((Eh x k).getD j default) (A4i ox (Al h'))) ?_;refine B6 A0 rfl (C6 (A1r x k++((Eh x k).take j).map Jv++[Jv ((Eh x k).getD j default)])) (Ao rfl) Hd (by (rw [D3];omega)) (Em ?_);refine Cc [(1,4)] (j+1) A7 A7 ⟨rfl,trivial⟩ ⟨rfl,A6 C6 (by rw [W4 _ h',←Cr]),trivial⟩
  refine B4 ?_;refine Cc [] (k+1) A7 A7 ⟨rfl,trivial⟩ ⟨A6 C6 (by rw [B15,Ms A7]),trivial⟩
 have h:¬ k<4:=by have:=Cv h;omega
 obtain rfl:k=4:=by omega
 refine As ?_;exact D4
set_option maxHeartbeats 1000000 in
theorem A1d (x:A3)(ox:x.ok)(hx:x.w≤1100000):E3 Tryz.prog X8 50 [.agg x.c] [.one (C6 (Oy x))]:=by
 have hc:=Mg hx;refine He A0 false Tryz.func50 rfl Bq fun W hW=>?_;conv=>whnf
 refine U5 3 1 (fun i=>[vs (([]:List ByteArray).getD i default)]) rfl ?_;refine Fx [] (fun k:Nat=>[(4,.c (vi k))]) (fun k=>[⟨0,[.c (At x.az.ak),.c (vi x.az.aq),.c (vi x.az.cap),.c (Af x.aq),.c (Ba x.ay),.c (Aw x.ap),.c (Bf x.ac)]⟩]) (fun k=>[⟨1,C6 (A1r x k)⟩]) (fun k=>k≤4) (fun k=>4-k) fun k hk=>?_;conv=>whnf
 refine C1 (fun h=>?_) fun h=>?_
 ·have h:k<4:=by have:=Bn h;omega
  have h1:=A1s x k;have h2:=A1q hx k;refine Gf (B3g x k A7) ?_;refine Fx [] (fun j:Nat=>[(15,.c (vi j))]) (fun j=>[⟨0,[.c (At x.az.ak),.c (vi x.az.aq),.c (vi x.az.cap),.c (Af x.aq),.c (Ba x.ay),.c (Aw x.ap),.c (Bf x.ac)]⟩]) (fun j=>[⟨2,Ai (Eh x k)⟩,⟨1,C6 (A1r x k++((Eh x k).take j).map Jv)⟩]) (fun j=>j≤(Eh x k).length) (fun j=>(Eh x k).length-j) fun j hj=>?_;conv=>whnf
  refine Dv (fun h'=>?_) fun h'=>?_
  ·have h':j<(Eh x k).length:=by omega
   have h3:(((Eh x k).take j).map Jv).length≤j:=by rw [Jd,F9];omega
   refine B4 ?_;refine Dj (B3c ((Eh x k).getD j default) (A4i ox (Al h'))) B5 hW rfl (Ah ?_);conv=>whnf
   refine B6 A0 rfl (C6 (A1r x k++((Eh x k).take j).map Jv++[Jv ((Eh x k).getD j default)])) (Ao rfl) Hd (by (rw [D3];omega)) (Em ?_);refine Cc [(1,5)] (j+1) A7 A7 ⟨rfl,trivial⟩ ⟨rfl,A6 C6 (by rw [W4 _ h',←Cr]),trivial⟩
  refine B4 ?_;refine Cc [] (k+1) A7 A7 ⟨rfl,trivial⟩ ⟨A6 C6 (by rw [B15,Ms A7]),trivial⟩
 have h:¬ k<4:=by have:=Cv h;omega
 obtain rfl:k=4:=by omega
 refine As ?_;exact D4
theorem Z4 (x:Ae):x.an.length≤x.w:=by simp only [Ae.w];omega
theorem A89 (x:Ae):x.ar.length+x.aa.length+x.au.length≤x.w:=by simp only [Ae.w];omega
def Y3 (d:H6):ByteArray:=if d.ao then I9 d.ab++(⟨#[33]⟩:ByteArray) else I9 d.ab
theorem B84 {d:H6}(o:d.ok):(Y3 d).size≤22:=by
 have h:=B8 (show Gv .i64 d.ab from o)
 unfold Y3
 split
 ·rw [Gr];have:((⟨#[33]⟩:ByteArray)).size=1:=rfl;omega
 omega
def G9 (l:List H6):List ByteArray:=l.map Y3
theorem A3w (l:List H6)(k:Nat)(h:k<l.length):G9 (l.take (k+1))=G9 (l.take k)++[Y3 (l.getD k default)]:=T2 _ _ _ h
theorem A7p (l:List H6)(k:Nat)(h:k<l.length):D6 (G9 (l.take (k+1)))=if k=0 then Y3 (l.getD k default) else D6 (G9 (l.take k))++(⟨#[32]⟩:ByteArray)++Y3 (l.getD k default):=by
 rw [A3w l k h]
 split
 ·rename_i e;subst e;exact B1v _
 rename_i e
 exact Zc _ _ (by
  intro h0
  have:=A6 List.length h0
  rw [G9,Jd,F9] at this;simp only [H3] at this
  omega)
theorem B9r (l:List H6)(k:Nat)(h:k<l.length):D6 (G9 (l.take (k+1)))=(if 0<k then D6 (G9 (l.take k))++(⟨#[32]⟩:ByteArray) else D6 (G9 (l.take k)))++Y3 (l.getD k default):=by
 rw [A7p l k h]
 by_cases e:k=0
 ·subst e
  rw [Ak rfl,Ab A7];exact (ByteArray.empty_append).symm
 rw [Ab e,Ak A7]
theorem A7o (l:List H6)(ho:∀d∈l,d.ok)(k:Nat)(hk:k≤l.length):(D6 (G9 (l.take k))).size≤23 * k:=by
 induction k with
 |zero=>exact Ds _
 |succ k ih=>
  have hd:=B84 (ho _ (Al (d:=default) (show k<l.length by omega)))
  have:=ih A7
  rw [A7p l k A7]
  split
  ·omega
  rw [Gr,Gr];have h1:((⟨#[32]⟩:ByteArray)).size=1:=rfl;omega
theorem B0m (x:Ae)(ox:x.ok)(hx:x.w≤1040000):Di 165 [.agg x.c] [.one (vs (D6 (G9 x.an)))]:=by
 have hl:x.an.length≤1040000:=Fk (Z4 x) hx;have ho:∀d∈x.an,d.ok:=ox.2.2.2.2.2.2.2.2;refine E7 Tryz.func165 fun W=>?_;refine Fx [] (fun k:Nat=>[(3,.c (vs (D6 (G9 (x.an.take k))))),(4,.c (vi k))]) (fun k=>[⟨0,[.c (A9 x.ar),.c (A9 x.aa),.c (A9 x.au),.c (Ai x.cells),.c (Cn x.al),.c (Df x.ah),.c (Df x.ai),.c (I0 x.an)]⟩]) (fun k=>[]) (fun k=>k≤x.an.length) (fun k=>x.an.length-k) fun k hk=>?_;refine Dv (fun h'=>?_) fun h'=>?_
 ·have h':k<x.an.length:=by omega
  have hs:=A7o x.an ho k A7;have od:Gv .i64 (x.an.getD k default).ab:=ho _ (Al (d:=default) h');have hd:=B8 od;have hj:=B9r x.an k h'
  repeat' (first|(refine Ho ?_;conv=>whnf)|(refine Hp ?_;conv=>whnf)|(refine ⟨fun h=>?_,fun h=>?_⟩<;>conv=>whnf)|(refine Aq (Cq _ od) rfl (Ah ?_))|(refine Cp ?_;conv=>whnf)|fail)
  all_goals
   refine Cc [] (k+1) A7 A7 ⟨A6 (fun z=>AV.c (vs z)) (by rw [hj,Y3];clear hj hs;simp_all [A9u]),rfl,trivial⟩ trivial
 have e:k=x.an.length:=by omega
 exact An A0 rfl rfl ⟨A6 vs (by rw [e,H4]),trivial⟩
theorem Zd (x:Ae)(ox:x.ok)(hx:x.w≤1040000):(D6 (G9 x.an)).size≤24117248:=by
 have hl:x.an.length≤1040000:=Fk (Z4 x) hx;have h:=A7o x.an ox.2.2.2.2.2.2.2.2 x.an.length (Ds _);rw [H4] at h;omega
theorem A93 (x:Ae)(ox:x.ok)(hx:x.w≤1040000):E3 Tryz.prog X8 166 [.agg x.c] [.one (vs (D6 (G9 x.an)))]:=by
 have hl:x.an.length≤1040000:=Fk (Z4 x) hx;have ho:∀d∈x.an,d.ok:=ox.2.2.2.2.2.2.2.2;have hf:=Zd x ox hx;refine He A0 false Tryz.func166 rfl Bq fun W hW=>?_;conv=>whnf
 refine U5 3 1 (fun i=>(fun b=>[vs b]) (([]:List ByteArray).getD i default)) rfl ?_;refine Fx [] (fun k:Nat=>[(10,.c (vi k))]) (fun k=>[⟨0,[.c (A9 x.ar),.c (A9 x.aa),.c (A9 x.au),.c (Ai x.cells),.c (Cn x.al),.c (Df x.ah),.c (Df x.ai),.c (I0 x.an)]⟩]) (fun k=>[⟨1,C6 (G9 (x.an.take k))⟩]) (fun k=>k≤x.an.length) (fun k=>x.an.length-k) fun k hk=>?_;refine Dv (fun h'=>?_) fun h'=>?_
 ·have h':k<x.an.length:=by omega
  have od:Gv .i64 (x.an.getD k default).ab:=ho _ (Al (d:=default) h');have hd:=B8 od;have hj:=A3w x.an k h';have hlen:(G9 (x.an.take k)).length≤k:=by simp [G9];omega
  refine B4 ?_;refine Dj (Dq _ od) B5 hW rfl (Ah ?_);refine C1 (fun hc=>?_) fun hc=>?_
  ·have hc:(x.an.getD k default).ao=true:=hc
   refine B4 ?_;refine B6 A0 rfl (C6 (G9 (x.an.take k)++[I9 (x.an.getD k default).ab++(⟨#[33]⟩:ByteArray)])) (Ao rfl) Hd A7 (Em ?_);refine Cc [(1,4)] (k+1) A7 A7 ⟨rfl,trivial⟩ ⟨A6 C6 (by rw [hj,Y3,Ak hc]),trivial⟩
  have hc:(x.an.getD k default).ao=false:=hc;refine B4 ?_;refine B6 A0 rfl (C6 (G9 (x.an.take k)++[I9 (x.an.getD k default).ab])) (Ao rfl) Hd A7 (Em ?_);refine Cc [(1,4)] (k+1) A7 A7 ⟨rfl,trivial⟩ ⟨A6 C6 (by rw [hj,Y3,Ab (by rw [hc];decide)]),trivial⟩
 have e:k=x.an.length:=by omega
 have e2:x.an.take k=x.an:=by rw [e,H4]
 rw [e2];refine Fp (C60 (G9 x.an) (by simp [G9];omega) A7) ?_;exact An A0 rfl rfl ⟨rfl,trivial⟩
end Go.Proofs.YtmhcebdkjgkmlaaGreatDoor
