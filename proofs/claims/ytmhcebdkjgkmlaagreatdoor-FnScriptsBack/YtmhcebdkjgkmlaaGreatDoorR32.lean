/- Part 32 of the proof that each of the laws FnScriptsBack returns true for every input. No conditions. -/
import Derived.Test.YtmhcebdkjgkmlaaGreatDoorR25
import Derived.Test.YtmhcebdkjgkmlaaGreatDoorR12

set_option linter.unusedSimpArgs false
set_option linter.unusedVariables false
set_option maxRecDepth 100000
namespace Go.Proofs.YtmhcebdkjgkmlaaGreatDoor
open Go.Sx
def H6 (a b:Al):Prop:=a.am<b.am∨(a.am=b.am∧(a.op<b.op∨(a.op=b.op∧(a.key<b.key∨(a.key=b.key∧a.val<b.val)))))
variable {a : Al} {b : Al}
theorem Ti:Mx a b<0↔H6 a b:=by
 simp only [Mx,Ra,Vp,Oh,H6]
 (repeat' split)<;>omega
theorem H6.trans {c:Al}(h:H6 a b)(h':H6 b c):H6 a c:=by
 simp only [H6] at *;omega
theorem H6.tri (h:a≠b)(h':¬ H6 a b):H6 b a:=by
 obtain ⟨a1,a2,a3,a4⟩:=a;obtain ⟨b1,b2,b3,b4⟩:=b;simp only [H6,ne_eq,Al.mk.injEq] at *;omega
theorem A4x:∀{l:List Al},T9 l↔l.Pairwise H6
 | []=>by simp [T9]
 | [x]=>by simp [T9]
 |x::y::r=>by
  have ih:=A4x (l:=y::r)
  have h1:T9 (x::y::r)↔H6 x y∧T9 (y::r):=by
   constructor
   ·intro h
    refine ⟨Ti.1 (by simpa using h 0 Ef),fun i hi=>?_⟩
    simpa using h (i+1) (by simp at hi ⊢;omega)
   rintro ⟨h1,h2⟩ i hi
   cases i with
   |zero=>simpa using Ti.2 h1
   |succ i=>simpa using h2 i (by simp at hi ⊢;omega)
  rw [h1,ih,A8b (a:=x)]
  constructor
  ·rintro ⟨h1,h2⟩
   refine ⟨fun z hz=>?_,h2⟩
   rcases C7.1 hz with rfl|hz
   ·exact h1
   exact h1.trans ((A8b.1 h2).1 z hz)
  rintro ⟨h1,h2⟩
  exact ⟨h1 y Ef,h2⟩
variable {α : Type}
theorem A5a (p:α→Bool):∀l:List α,Iu p l≤l.length
 | []=>by simp [Iu]
 |x::r=>by
  have:=A5a p r
  simp only [Iu]
  split<;>simp<;>omega
theorem Yk (p:α→Bool):∀l:List α,∀x∈l.take (Iu p l),p x=false
 | []=>by simp [Iu]
 |x::r=>by
  intro y hy;simp only [Iu] at hy
  split at hy
  ·simp at hy
  rename_i hx
  simp only [List.take_succ_cons,C7] at hy
  rcases hy with rfl|hy
  ·simpa using hx
  exact Yk p r y hy
theorem A49 [Inhabited α] (p:α→Bool):∀l:List α,Iu p l<l.length→p (l.getD (Iu p l) default)=true
 | []=>by simp [Iu]
 |x::r=>by
  intro h;simp only [Iu] at h ⊢
  split at h
  ·rename_i hx
   simp [hx]
  rename_i hx
  rw [Ab hx]
  simpa using A49 p r (by simpa using h)
variable {l : List Al} {x : Al}
theorem C6p (h:l.Pairwise H6):(I2 l x).Pairwise H6:=by
 unfold I2
 split
 ·exact h
 rename_i hn
 have hx:x∉l:=fun hm=>hn (Uv.2 ⟨x,hm,by simp⟩);have e:=(Qy (Ph l x) l).symm;rw [e] at h;obtain ⟨h1,h2,h3⟩:=List.pairwise_append.1 h
 have hlo:∀y∈l.take (Ph l x),H6 y x:=fun y hy=>by
  have:=Yk _ l y hy
  simp only [Uj,Nq] at this;exact Ti.1 this
 have hhi:∀y∈l.drop (Ph l x),H6 x y:=by
  by_cases hk:Ph l x<l.length
  ·have hat:=A49 (fun y=>!decide (Mx y x<0)) l hk
   simp only [Mp,T1] at hat;have hat:¬ H6 (l.getD (Ph l x) default) x:=fun hc=>hat (Ti.2 hc);have hne:l.getD (Ph l x) default≠x:=fun e=>hx (e▸Am hk);have h0:=H6.tri hne hat;intro y hy;rw [A8e hk] at hy h2;have e0:l[Ph l x]=l.getD (Ph l x) default:=by simp [List.getD,hk]
   rw [e0] at hy h2
   rcases C7.1 hy with rfl|hy
   ·exact h0
   exact h0.trans ((A8b.1 h2).1 y hy)
  rw [List.drop_of_length_le A7];simp
 refine List.pairwise_append.2 ⟨h1,A8b.2 ⟨hhi,h2⟩,fun y hy z hz=>?_⟩
 rcases C7.1 hz with rfl|hz
 ·exact hlo y hy
 exact (hlo y hy).trans (hhi z hz)
theorem C08 (h:l.Pairwise H6):(M7 l x).1.Pairwise H6:=by
 unfold M7
 split
 ·exact h
 exact C6p (h.sublist List.filter_sublist)
variable {k : Int}
theorem B0y (h:l.Pairwise H6):(Dd k l x).1.Pairwise H6:=by
 unfold Dd
 split
 ·exact C08 h
 split
 ·split
  ·exact h
  exact C6p h
 exact h
theorem B1j {x:Ba}{v:Int}(hx:I6 x)(h:Rk k v):Rk (Bc x k v).1 (Bc x k v).2.1:=by
 obtain ⟨_,h2,_,h4,_⟩:=hx;unfold Bc;obtain ⟨⟨a1,a2⟩,a3,a4⟩:=h;have hm:=Wj (k+x.a) (show (0:Int)<100 by decide)
 (repeat' split)<;>simp only [Rk] at * <;>(try (rename_i hk;have:=h2 hk))<;>(try (rename_i hk;have:=h4 hk;have:=A2g 100 (show 0≤k+x.a by omega)))<;>omega
theorem A28 {s:Iq}(h:(Br s).2=true):(Br s).1=⟨s.am,s.turn+1⟩∧(0≤s.am∧s.am≤3)∧0≤s.turn∧s.turn<6:=by
 unfold Br at *
 split at h
 ·rename_i hs
  rw [Ah hs]
  have:=Bp hs.1
  exact ⟨rfl,this.1,this.2.1,hs.2⟩
 cases h
variable {g : Ax}
theorem B0k {op:Int}(h:Gc g)(h0:0≤op)(h1:op<g.ay.length):R6 g op.toNat:=h.2.2.2 op.toNat A7
variable {r : A9}
theorem C4x (h:Pc g r):A07 g.ay.length (Un g r):=by
 obtain ⟨hg,hr,ho⟩:=h;obtain ⟨r1,r2,r3,r4,r5⟩:=hr;have hn:=B0k hg r1.1 ho;have hc:=B1j (k:=r.key) (v:=r.val) hn.1 ⟨r4,r5⟩;unfold Un;intro q hq
 split at hq
 ·simp at hq
 rename_i hb
 obtain ⟨k,hk,rfl⟩:=Ea.1 hq;have he:=hn.2.2 k hk;have hk7:=hn.1.2.2.2.2.2.2.2.2 k hk;refine ⟨⟨hk7,?_,?_,hc.1,hc.2⟩,he.1⟩
 ·simp only
  split
  ·rename_i h7
   have:=A28 (s:=r.af) (by simpa [h7] using hb)
   rw [this.1];exact this.2.1
  exact r2
 simp only
 split
 ·rename_i h7
  have:=A28 (s:=r.af) (by simpa [h7] using hb)
  rw [this.1];simp only;omega
 exact r3
variable {cs : List Al}
theorem B8t:A07 g.ay.length (Hz g cs r).2.1:=by
 unfold Hz
 split
 ·rename_i h
  (repeat' split)
  ·intro q hq;simp at hq
  ·intro q hq;simp at hq
  exact C4x h
 intro q hq;simp at hq
theorem C3a (h:cs.Pairwise H6):(Hz g cs r).1.Pairwise H6:=by
 unfold Hz
 (repeat' split)
 ·exact h
 ·exact B0y h
 ·exact B0y h
 exact h
theorem C1v (h:Pc g r):(Un g r).length≤2:=by
 unfold Un
 have:=(B0k h.1 h.2.1.1.1 h.2.2).1.2.2.2.2.2.1
 split
 ·simp
 rw [Oy];exact this
theorem B8s:(Hz g cs r).2.1.length≤2:=by
 unfold Hz
 split
 ·rename_i h
  (repeat' split)
  ·simp
  ·simp
  exact C1v h
 simp
theorem B94:(I2 l x).length≤l.length+1:=by
 unfold I2
 split
 ·omega
 have:=A5a (fun y=>!decide (Mx y x<0)) l
 simp only [Dn,Ep,G2,Gm,Ph];omega
theorem A61:(Dd k l x).1.length≤l.length+1:=by
 unfold Dd
 split
 ·unfold M7
  split
  ·simp
  have h1:=B94 (l:=l.filter fun y=>!B7 x y) (x:=x);have h2:=Pm (fun y=>!B7 x y) l
  simp only
  omega
 split
 ·split
  ·simp
  exact B94
 simp
theorem B59:(Hz g cs r).1.length≤cs.length+1:=by
 unfold Hz
 (repeat' split)
 ·simp
 ·exact A61
 ·exact A61
 simp
theorem C18 {l:List A9}(h:B6q l):B6q (l.drop 1):=by
 intro i hi;obtain ⟨h1,h2,h3⟩:=h (i+1) (by simp at hi;omega);have e:∀j,(l.drop 1).getD j default=l.getD (j+1) default:=fun j=>by simp [List.getD,Z8]
 refine ⟨by rw [e];exact h1,by rw [e];exact h2,fun h0=>?_⟩;rw [e,e,show i-1+1=i by omega]
 exact h3 A7
variable {n : Nat}
theorem X4 {k:Nat}{l:List A9}(h:A07 n l):A07 n (l.drop k):=fun r hr=>h r (A8f hr)
theorem A1r {l:List A9}(h:A07 n l)(hr:H8 r∧r.op<n):A07 n (l++[r]):=fun q hq=>by
 rcases Hg.1 hq with hq|hq
 ·exact h q hq
 rw [Hh.1 hq];exact hr
variable {w : Aj}
theorem C3g (h:Db g.ay.length w):Db g.ay.length (Pa g w):=by
 obtain ⟨⟨a1,a2,a3,a4⟩,⟨l1,l2,l3⟩,hi,hs,hd⟩:=h;refine ⟨⟨X4 a1,B8t,a3,A4x.2 (C3a (A4x.1 a4))⟩,⟨l1,l2,?_⟩,hi,hs,hd⟩;simp only [Pa]
 split
 ·rw [K1];exact l3
 exact l3
theorem B3l (h:Db n w)(h0:0<w.ap.length):Db n (Q6 w):=by
 obtain ⟨⟨a1,a2,a3,a4⟩,hl,hi,hs,hd⟩:=h;exact ⟨⟨A1r a1 (a3 _ (Am h0)),a2,X4 a3,a4⟩,hl,C18 hi,hs,hd⟩
theorem B9o (h:Db n w)(hr:H8 r∧r.op<n):Db n (kept w r):=by
 obtain ⟨⟨a1,a2,a3,a4⟩,hl,hi,hs,hd⟩:=h;exact ⟨⟨A1r a1 hr,a2,a3,a4⟩,hl,hi,hs,hd⟩
theorem A7v (h:Db n w):Db n (El w):=by
 obtain ⟨⟨a1,a2,a3,a4⟩,hl,hi,hs,hd⟩:=h;exact ⟨⟨a1,X4 a2,a3,a4⟩,hl,hi,hs,hd⟩
variable {e : Int}
theorem A4v {b:Bool}(h:Db n w):Db n ⟨w.al,w.bq,w.ap,w.cells,w.ai,w.ah.set e.toNat b,w.ao,w.bz⟩:=by
 obtain ⟨ha,⟨l1,l2,l3⟩,hi,hs,hd⟩:=h;exact ⟨ha,⟨l1,by simpa using l2,l3⟩,hi,hs,hd⟩
theorem B9a (h:Db n w)(h1:0≤e∧e≤3):Db n (J0 w e k)↔Kb (w.ai.getD e.toNat default+k):=by
 obtain ⟨ha,⟨l1,l2,l3⟩,hi,hs,hd⟩:=h;have hlt:e.toNat<w.ai.length:=by omega
 constructor
 ·rintro ⟨_,_,_,hs',_⟩
  have:=hs' (w.ai.getD e.toNat default+k) (by simp only [J0];exact List.mem_set hlt _)
  exact this
 intro hk;refine ⟨ha,⟨by simpa [J0] using l1,l2,l3⟩,hi,fun m hm=>?_,hd⟩;simp only [J0] at hm
 rcases List.mem_or_eq_of_mem_set hm with h|rfl
 ·exact hs m h
 exact hk
theorem B30 {b:Bool}(h:Db n w)(h1:0≤e∧e≤3)(h2:Lh w e=false):Db n (Jq w ⟨e,b⟩):=by
 obtain ⟨ha,hl,hi,hs,hd⟩:=h;refine ⟨ha,hl,hi,hs,fun i hi'=>?_⟩;simp only [Jq,Dn,Jb] at hi';have e1:∀j,j<w.bz.length→(w.bz++[(⟨e,b⟩:Ih)]).getD j default=w.bz.getD j default:=fun j hj=>by simp [List.getD,F3 hj]
 have e2:(w.bz++[(⟨e,b⟩:Ih)]).getD w.bz.length default=⟨e,b⟩:=by simp [List.getD]
 simp only [Jq]
 by_cases hlt:i<w.bz.length
 ·obtain ⟨d1,d2⟩:=hd i hlt
  exact ⟨by rw [e1 i hlt];exact d1,fun k hk=>by rw [e1 i hlt,e1 k A7];exact d2 k hk⟩
 obtain rfl:i=w.bz.length:=by omega
 refine ⟨by rw [e2];exact h1,fun k hk=>?_⟩;rw [e2,e1 k hk];intro hc
 have:Lh w e=true:=Uv.2 ⟨w.bz.getD k default,Am hk,by simpa using hc⟩
 rw [h2] at this
 cases this
theorem Xw {l:List α}{i:Nat}{a x:α}(h:x∈l.set i a):x∈l∨x=a:=List.mem_or_eq_of_mem_set h
variable {c : A3}
theorem L9 {j:Int}(h:B1 c)(hj:0≤j∧j<c.aq.length):B1 (Bf c j w)↔Db c.az.ay.length w:=by
 obtain ⟨⟨g1,g2,g3,g4⟩,hw,hl,ht,hn⟩:=h;have hlt:j.toNat<c.aq.length:=by omega
 constructor
 ·rintro ⟨_,hw',_⟩
  exact hw' w (by simp only [Bf];exact List.mem_set hlt _)
 intro h;refine ⟨⟨g1,by simpa [Bf] using g2,g3,g4⟩,fun x hx=>?_,hl,ht,hn⟩
 rcases Xw hx with hx|rfl
 ·exact hw x hx
 exact h
theorem A1z {l:D8}(h:B1 c)(hl':It l∧A9p c k.toNat l):B1 (Ds c k l):=by
 obtain ⟨⟨g1,g2,g3,g4⟩,hw,hl,ht,hn⟩:=h;refine ⟨⟨g1,g2,by simpa [Ds] using g3,g4⟩,hw,fun i hi=>?_,ht,hn⟩;simp only [Ds,K1] at hi
 show It ((c.ak.set k.toNat l).getD i default)∧A9p c i ((c.ak.set k.toNat l).getD i default)
 by_cases e:i=k.toNat
 ·subst e
  rw [Sx.getD_set_self _ _ _ _ hi];exact hl'
 rw [Sx.getD_set_ne _ _ _ _ _ e];exact hl i hi
variable {f : Int} {t : Int}
theorem Qf (h:B1 c)(hf:0≤f∧f<c.az.aq)(ht:0≤t∧t<c.az.aq):
  (0≤Ap c f t∧Ap c f t<c.ak.length)∧((Ap c f t).toNat:Int).tdiv c.az.aq=f∧((Ap c f t).toNat:Int).tmod c.az.aq=t:=by
 have hl:=h.1.2.2.1;have hn:=h.1.1.2.1;unfold Ap;have hw:c.az.aq=1∨c.az.aq=2∨c.az.aq=3∨c.az.aq=4:=by omega
 have h0:0≤f * c.az.aq:=Int.mul_nonneg hf.1 A7;have hfw:f=0∨f=1∨f=2∨f=3:=by omega
 have htw:t=0∨t=1∨t=2∨t=3:=by omega
 rw [hl];generalize c.az.aq=n at *
 rcases hw with rfl|rfl|rfl|rfl<;>rcases hfw with rfl|rfl|rfl|rfl<;>rcases htw with rfl|rfl|rfl|rfl<;>first|omega|(refine ⟨⟨by decide,by decide⟩,by decide,by decide⟩)
theorem A0h (h:B1 c)(hk:0≤k∧k<c.ak.length):It (Bd c k)∧A9p c k.toNat (Bd c k):=h.2.2.1 k.toNat A7
theorem C22 {l:D8}(h:It l):It (Da l r).1:=by
 unfold Da
 split
 ·rename_i hs
  obtain ⟨⟨h1,h2,h3,h4,h5,h6,h7⟩,hq⟩:=h;obtain ⟨_,hr,hc,hs⟩:=hs;refine ⟨?_,fun q hq'=>?_⟩
  ·simp only [A4e,Dn,Jb]
   omega
  rcases Hg.1 hq' with hq'|hq'
  ·exact hq q hq'
  rw [Hh.1 hq'];exact hr
 exact h
theorem B6e {l:D8}(h:It l):It (Bq l).1:=by
 unfold Bq
 split
 ·rename_i hs
  obtain ⟨⟨h1,h2,h3,h4,h5,h6,h7⟩,hq⟩:=h;refine ⟨?_,fun q hq'=>hq q (A8f hq')⟩;simp only [A4e,Gm];omega
 exact h
theorem A8p {l:D8}(h:It l):It (Eg l).1:=by
 unfold Eg
 split
 ·rename_i hs
  obtain ⟨⟨h1,h2,h3,h4,h5,h6,h7⟩,hq⟩:=h;refine ⟨?_,hq⟩;simp only [A4e];omega
 exact h
theorem B72 {n:Int}(hk:0≤k)(hn:1≤n):0≤Ej k n∧Ej k n<n:=by
 have h1:=Wj k (show 0<n by omega)
 have h2:=A2g n hk;unfold Ej
 (repeat' split)<;>omega
theorem C3f {w:Int}(h:I3 c w):B1 (Bf c w (Nc c.az (A8 c w)).1):=by
 obtain ⟨hc,h0,h1⟩:=h;have hw:=hc.2.1 _ (Am (d:=default) (show w.toNat<c.aq.length by omega))
 refine (L9 hc ⟨h0,h1⟩).2 ?_;unfold Nc
 split
 ·exact C3g hw
 exact hw
theorem B5d {w:Int}(h:B1 c):B1 (Fy c w).1:=by
 unfold Fy
 split
 ·exact C3f ‹_›
 exact h
theorem B2l {w:Int}(h:B1 c):B1 (Ey c w).1:=by
 unfold Ey
 split
 ·rename_i hW
  obtain ⟨hc,h0,h1⟩:=hW;have hw:=hc.2.1 _ (Am (d:=default) (show w.toNat<c.aq.length by omega))
  refine (L9 hc ⟨h0,h1⟩).2 ?_;unfold Hu
  split
  ·rename_i hi;exact B3l hw hi.2.2.2.2
  exact hw
 exact h
theorem A18 {w:Int}(hc:B1 c)(h:0≤w∧w<c.aq.length):Db c.az.ay.length (A8 c w):=hc.2.1 _ (Am (d:=default) (show w.toNat<c.aq.length by omega))
theorem A5b {w:Int}(h:I3 c w)(hs:0<(A8 c w).bq.length):H8 (B2 c w)∧(B2 c w).op<c.az.ay.length:=(A18 h.1 h.2).1.2.1 _ (Am hs)
theorem B0i {w:Int}(h:I3 c w)(hs:0<(A8 c w).bq.length):0≤Az c w∧Az c w<c.az.aq:=
 B72 (A5b h hs).1.2.2.2.1.1 h.1.1.1.2.1.1
theorem A6a {w:Int}(h:I3 c w)(hs:0<(A8 c w).bq.length)(hne:Az c w≠w):B1 (Ds c (Ap c w (Az c w)) (Da (Bd c (Ap c w (Az c w))) (B2 c w)).1):=by
 have hw:0≤w∧w<c.az.aq:=by have:=h.1.1.2.1;exact ⟨h.2.1,by have:=h.2.2;omega⟩
 obtain ⟨b1,b2,b3⟩:=Qf h.1 hw (B0i h hs);obtain ⟨k1,k2,k3,k4⟩:=A0h h.1 b1;refine A1z h.1 ⟨C22 k1,?_⟩;unfold Da
 split
 ·exact ⟨k2,A1r k3 (A5b h hs),fun e=>absurd (by rw [b2,b3] at e;exact e.symm) hne⟩
 exact ⟨k2,k3,k4⟩
def B2f (c:A3) (w:Int):Int:=(A8 c w).ai.getD (B2 c w).af.am.toNat default+1
theorem B5w (h:Db n w)(he:0≤e∧e≤3):Ky w e=J0 w e 1:=by
 have:=h.2.1.1
 unfold Ky;rw [Ah A7]
theorem Vu {w:Int}(h:B1 c):Av (D4 c w).1=(if (D4 c w).2=true∧Az c w≠w then decide (Kb (B2f c w)) else true):=by
 unfold D4
 by_cases hm:I3 c w∧0<(A8 c w).bq.length
 ·obtain ⟨hW,hs⟩:=hm
  rw [Ah ⟨hW,hs⟩];have hfo:=A5b hW hs
  by_cases hself:Az c w=w
  ·simp only [hself,Mo,ne_eq,not_true_eq_false,and_false,T6]
   exact D7 ((L9 h hW.2).2 (B9o (A7v (A18 h hW.2)) hfo))
  rw [Ab hself]
  by_cases hsend:(Da (Bd c (Ap c w (Az c w))) (B2 c w)).2=true
  ·rw [Ah hsend]
   simp only [true_and,Ah hself,ne_eq,hself,not_false_eq_true,and_self,Mo];have hc2:=A6a hW hs hself;unfold Av;refine Um.2 ?_;have hw:=A7v (A18 h hW.2);rw [L9 hc2 hW.2,B5w hw hfo.1.2.1];exact B9a hw hfo.1.2.1
  rw [Ab hsend];simp only [T5,false_and,T6];exact D7 h
 rw [Ab hm];simp only [T5,false_and,T6];exact D7 h
theorem A7t (h:P0 c f t):B1 (Ds c (Ap c f t) (Bq (Bd c (Ap c f t))).1):=by
 obtain ⟨b1,b2,b3⟩:=Qf h.1 h.2.2.1 h.2.2.2;obtain ⟨k1,k2,k3,k4⟩:=A0h h.1 b1;refine A1z h.1 ⟨B6e k1,?_⟩;unfold Bq
 split
 ·exact ⟨k2,X4 k3,fun e=>absurd (by rw [b2,b3] at e;exact e) h.2.1⟩
 exact ⟨k2,k3,k4⟩
def U9 (c:A3) (f t:Int):A9:=(Bq (Bd c (Ap c f t))).2.1
theorem C7j (h:P0 c f t)(hk:(Bq (Bd c (Ap c f t))).2.2=true):H8 (U9 c f t)∧(U9 c f t).op<c.az.ay.length:=by
 obtain ⟨b1,b2,b3⟩:=Qf h.1 h.2.2.1 h.2.2.2;obtain ⟨k1,k2,k3,k4⟩:=A0h h.1 b1;unfold U9;unfold Bq at hk ⊢
 split at hk
 ·rename_i hp
  rw [Ah hp];exact k3 _ (Am hp.2)
 cases hk
def B27 (c:A3) (f t:Int):Int:=(A8 c t).ai.getD (U9 c f t).af.am.toNat default+ -1
theorem B5j (h:Db n w)(he:0≤r.af.am∧r.af.am≤3):Jx w r=Q8 (J0 (kept w r) r.af.am (-1)) r.af.am:=by
 have:=h.2.1.1
 have:=h.2.1.2.1
 unfold Jx;rw [Ah A7]
theorem C09 {b:Bool}:Db n ⟨w.al,w.bq,w.ap,w.cells,w.ai,w.ah.set e.toNat b,w.ao,w.bz⟩↔Db n w:=by
 refine ⟨fun h=>?_,A4v⟩;obtain ⟨ha,⟨l1,l2,l3⟩,hi,hs,hd⟩:=h;exact ⟨ha,⟨l1,by simpa using l2,l3⟩,hi,hs,hd⟩
theorem A3b (h:B1 c):Av (Ek c f t).1=(if (Ek c f t).2=true then decide (Kb (B27 c f t)) else true):=by
 unfold Ek
 by_cases hm:P0 c f t∧(Bq (Bd c (Ap c f t))).2.2=true
 ·rw [Ah hm]
  obtain ⟨hL,hk⟩:=hm;have hto:=C7j hL hk;have hc2:=A7t hL;have ht:0≤t∧t<c.aq.length:=by have:=h.1.2.1;have:=hL.2.2.2;omega
  simp only [Mo];unfold Av;refine Um.2 ?_;rw [L9 hc2 ht];have hw:=A18 h ht
  show Db _ (Jx (A8 c t) (U9 c f t))↔_
  rw [B5j hw hto.1.2.1];exact (C09 (w:=J0 (kept (A8 c t) (U9 c f t)) (U9 c f t).af.am (-1))).trans (B9a (B9o hw hto) hto.1.2.1)
 rw [Ab hm];simp only [T5,T6];exact D7 h
theorem Xz (h:B1 c):B1 (F5 c f t).1:=by
 unfold F5
 split
 ·rename_i hL
  obtain ⟨b1,b2,b3⟩:=Qf h hL.2.2.1 hL.2.2.2;obtain ⟨k1,k2,k3,k4⟩:=A0h h b1;refine A1z h ⟨A8p k1,?_⟩;unfold Eg
  split
  ·exact ⟨k2,k3,k4⟩
  exact ⟨k2,k3,k4⟩
 exact h
theorem B9y {l:List D9}(h:B1 c)(hl:∀x∈l,R5 c.az.aq x):B1 ⟨c.az,c.aq,c.ak,c.ar,l⟩:=⟨h.1,h.2.1,h.2.2.1,h.2.2.2.1,hl⟩
theorem B0j {w:Int}(h:B1 c)(hn:c.au.any (Kc w)=true):Gd c w∈c.au∧(Gd c w).to_=w:=by
 obtain ⟨x,hx,hw⟩:=Uv.1 hn
 have hlt:P6 c w<c.au.length:=by
  by_cases hlt:P6 c w<c.au.length
  ·exact hlt
  have:=A5a (Kc w) c.au
  have he:Iu (Kc w) c.au=c.au.length:=by unfold P6 at hlt;omega
  have:=Yk (Kc w) c.au x (by rw [he,H5];exact hx)
  rw [hw] at this;cases this
 have:=A49 (Kc w) c.au hlt
 exact ⟨Am hlt,eq_of_beq this⟩
theorem B4a {w:Int}(h:B1 c):B1 (Fj c w).1:=by
 unfold Fj
 split
 ·rename_i hn
  have hh:B1 (Vf c w):=B9y h fun x hx=>h.2.2.2.2 x (List.mem_of_mem_eraseIdx hx);obtain ⟨m1,m2⟩:=B0j h hn.2;have hN:=h.2.2.2.2 _ m1;have hw:0≤w∧w<c.aq.length:=by have:=h.1.2.1;have:=hN.1;omega
  split
  ·exact hh
  rename_i hd
  have hwk:=B30 (b:=(Gd c w).ae) (A18 h hw) hN.2 (by simpa using hd);exact (L9 hh hw).2 hwk
 exact h
theorem A10 {t:I9}(h:B1 c)(ht:Uz c.az.aq t):B1 (Gu c e t):=by
 obtain ⟨⟨g1,g2,g3,g4⟩,hw,hl,htt,hn⟩:=h;refine ⟨⟨g1,g2,g3,by simpa [Gu] using g4⟩,hw,hl,fun x hx=>?_,hn⟩
 rcases Xw hx with hx|rfl
 ·exact htt x hx
 exact ht
theorem B29 (h:B1 c):B1 (Dc c e).1:=by
 unfold Dc
 split
 ·rename_i hT
  obtain ⟨_,he,hD,hP⟩:=hT;have htl:=h.1.2.2.2;have hTP:Uz c.az.aq (A5 c e):=h.2.2.2.1 _ (Am (d:=default) (show e.toNat<c.ar.length by omega))
  have hn1:=h.1.1.2.1;have hwl:=h.1.2.1;have hat:0≤(A5 c e).aj∧(A5 c e).aj<c.aq.length:=by have:=hTP.1;omega
  have hwk:=A18 h hat
  simp only
  split
  ·have h1:Uz c.az.aq ⟨true,(c.aq.length:Int)-1,0,false,(A8 c (A5 c e).aj).ao.getD e.toNat default⟩:=⟨⟨by show (0:Int)≤(c.aq.length:Int)-1;omega,by show (c.aq.length:Int)-1≤_;omega⟩,(fun hc=>Bool.noConfusion hc),(by show (-1000000:Int)≤0;decide),(by show (0:Int)≤1000000;decide)⟩
   exact (L9 (A10 (e:=e) h h1) hat).2 (A4v hwk)
  split
  ·split
   ·rename_i hg ha hs
    have h1:Uz c.az.aq ⟨(A5 c e).bj,(A5 c e).aj-1,(A5 c e).sum+(A8 c (A5 c e).aj).ai.getD e.toNat default,(A5 c e).ah||(A8 c (A5 c e).aj).ah.getD e.toNat default,(A5 c e).ae||(A8 c (A5 c e).aj).ao.getD e.toNat default⟩:=
     ⟨⟨by show 0≤(A5 c e).aj-1;omega,by show (A5 c e).aj-1≤_;have:=hTP.1;omega⟩,fun hc=>absurd hc hg,hs⟩
    exact (L9 (A10 (e:=e) h h1) hat).2 (A4v hwk)
   exact h
  rename_i hg ha
  have hA:(A5 c e).aj=0:=by have:=hTP.1;omega
  have hc1:B1 (Gu c e ⟨false,(A5 c e).aj,(A5 c e).sum,(A5 c e).ah,(A5 c e).ae⟩):=A10 h ⟨hTP.1,fun _=>hA,hTP.2.2⟩
  unfold Ll
  split
  ·have hw0:(0:Int)≤0∧(0:Int)<c.aq.length:=by omega
   have hd0:Lh (A8 c (A5 c e).aj) e=false:=by rw [hA];exact hD
   have hdw:=B30 (b:=((A5 c e).ae||(A8 c (A5 c e).aj).ao.getD e.toNat default)) hwk he hd0;have hw1:=(L9 (j:=0) hc1 hw0).2 hdw;refine B9y hw1 fun x hx=>?_
   rcases Hg.1 hx with hx|hx
   ·exact h.2.2.2.2 x hx
   obtain ⟨i,hi,rfl⟩:=Ea.1 hx
   have:=Fk.1 hi
   have hl2:(Gu c e ⟨false,(A5 c e).aj,(A5 c e).sum,(A5 c e).ah,(A5 c e).ae⟩).aq.length=c.aq.length:=rfl;rw [hl2] at this;refine ⟨⟨by show (0:Int)≤(i:Int)+1;omega,?_⟩,he⟩
   show (i:Int)+1≤c.az.aq-1
   omega
  exact hc1
 exact h
theorem B6a {p : Cs} (h : B1 c) : Av (At c p).1 =
    (if p.kind = 3 then (if (D4 c p.a).2 = true ∧ Az c p.a ≠ p.a then decide (Kb (B2f c p.a)) else true)
     else if p.kind = 4 then (if (Ek c p.a p.b).2 = true then decide (Kb (B27 c p.a p.b)) else true) else true) := by
  unfold At
  by_cases h1 : p.kind = 1
  · rw [Ah h1, Ab A7, Ab A7]; exact D7 (B5d h)
  by_cases h2 : p.kind = 2
  · rw [Ab h1, Ah h2, Ab A7, Ab A7]; exact D7 (B2l h)
  by_cases h3 : p.kind = 3
  · rw [Ab h1, Ab h2, Ah h3, Ah h3]; exact Vu h
  by_cases h4 : p.kind = 4
  · rw [Ab h1, Ab h2, Ab h3, Ah h4, Ab h3, Ah h4]; exact A3b h
  by_cases h5 : p.kind = 5
  · rw [Ab h1, Ab h2, Ab h3, Ab h4, Ah h5, Ab h3, Ab h4]; exact D7 (Xz h)
  by_cases h6 : p.kind = 6
  · rw [Ab h1, Ab h2, Ab h3, Ab h4, Ab h5, Ah h6, Ab h3, Ab h4]; exact D7 (B29 h)
  by_cases h7 : p.kind = 7
  · rw [Ab h1, Ab h2, Ab h3, Ab h4, Ab h5, Ab h6, Ah h7, Ab h3, Ab h4]; exact D7 (B4a h)
  · rw [Ab h1, Ab h2, Ab h3, Ab h4, Ab h5, Ab h6, Ab h7, Ab h3, Ab h4]; exact D7 h
end Go.Proofs.YtmhcebdkjgkmlaaGreatDoor
