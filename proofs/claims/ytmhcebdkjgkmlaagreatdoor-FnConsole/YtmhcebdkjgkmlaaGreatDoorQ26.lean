/- Part 26 of the proof that each of the laws FnConsole returns true for every input. No conditions. -/
import Derived.Test.YtmhcebdkjgkmlaaGreatDoorQ25

set_option linter.unusedSimpArgs false
set_option linter.unusedVariables false
set_option maxRecDepth 100000
namespace Go.Proofs.YtmhcebdkjgkmlaaGreatDoor
open Go.Sx
def Hb (a b:Ad):Prop:=a.ab<b.ab∨(a.ab=b.ab∧(a.op<b.op∨(a.op=b.op∧(a.key<b.key∨(a.key=b.key∧a.val<b.val)))))
variable {a : Ad} {b : Ad}
theorem Tr:N2 a b<0↔Hb a b:=by
 simp only [N2,R8,W2,Ou,Hb]
 (repeat' split)<;>omega
theorem Hb.trans {c:Ad}(h:Hb a b)(h':Hb b c):Hb a c:=by
 simp only [Hb] at *;omega
theorem Hb.tri (h:a≠b)(h':¬ Hb a b):Hb b a:=by
 obtain ⟨a1,a2,a3,a4⟩:=a;obtain ⟨b1,b2,b3,b4⟩:=b;simp only [Hb,ne_eq,Ad.mk.injEq] at *;omega
theorem A6j:∀{l:List Ad},Tk l↔l.Pairwise Hb
 | []=>by simp [Tk]
 | [x]=>by simp [Tk]
 |x::y::r=>by
  have ih:=A6j (l:=y::r)
  have h1:Tk (x::y::r)↔Hb x y∧Tk (y::r):=by
   constructor
   ·intro h
    refine ⟨Tr.1 (by simpa using h 0 Ey),fun i hi=>?_⟩
    simpa using h (i+1) (by simp at hi ⊢;omega)
   rintro ⟨h1,h2⟩ i hi
   cases i with
   |zero=>simpa using Tr.2 h1
   |succ i=>simpa using h2 i (by simp at hi ⊢;omega)
  rw [h1,ih,A9q (a:=x)]
  constructor
  ·rintro ⟨h1,h2⟩
   refine ⟨fun z hz=>?_,h2⟩
   rcases Ch.1 hz with rfl|hz
   ·exact h1
   exact h1.trans ((A9q.1 h2).1 z hz)
  rintro ⟨h1,h2⟩
  exact ⟨h1 y Ey,h2⟩
variable {α : Type}
theorem A6x (p:α→Bool):∀l:List α,Hy p l≤l.length
 | []=>by simp [Hy]
 |x::r=>by
  have:=A6x p r
  simp only [Hy]
  split<;>simp<;>omega
theorem Z7 (p:α→Bool):∀l:List α,∀x∈l.take (Hy p l),p x=false
 | []=>by simp [Hy]
 |x::r=>by
  intro y hy;simp only [Hy] at hy
  split at hy
  ·simp at hy
  rename_i hx
  simp only [List.take_succ_cons,Ch] at hy
  rcases hy with rfl|hy
  ·simpa using hx
  exact Z7 p r y hy
theorem A6w [Inhabited α] (p:α→Bool):∀l:List α,Hy p l<l.length→p (l.getD (Hy p l) default)=true
 | []=>by simp [Hy]
 |x::r=>by
  intro h;simp only [Hy] at h ⊢
  split at h
  ·rename_i hx
   simp [hx]
  rename_i hx
  rw [Ab hx]
  simpa using A6w p r (by simpa using h)
variable {l : List Ad} {x : Ad}
theorem C1m {y:Ad}:y∈Dh l x↔y∈l∨y=x:=by
 unfold Dh
 split
 ·rename_i h
  constructor
  ·exact .inl
  rintro (h'|rfl)
  ·exact h'
  obtain ⟨z,hz,e⟩:=Th.1 h;obtain rfl:=Bn e;exact hz
 have:y∈l↔y∈l.take (Nb l x)∨y∈l.drop (Nb l x):=by rw [←Ki,Pk]
 rw [Ki,Ch,this]
 constructor
 ·rintro (h|h|h)
  ·exact .inl (.inl h)
  ·exact .inr h
  exact .inl (.inr h)
 rintro ((h|h)|h)
 ·exact .inl h
 ·exact .inr (.inr h)
 exact .inr (.inl h)
theorem C75 (h:l.Pairwise Hb):(Dh l x).Pairwise Hb:=by
 unfold Dh
 split
 ·exact h
 rename_i hn
 have hx:x∉l:=fun hm=>hn (Th.2 ⟨x,hm,by simp⟩);have e:=(Pk (Nb l x) l).symm;rw [e] at h;obtain ⟨h1,h2,h3⟩:=List.pairwise_append.1 h
 have hlo:∀y∈l.take (Nb l x),Hb y x:=fun y hy=>by
  have:=Z7 _ l y hy
  simp only [Us,Np] at this;exact Tr.1 this
 have hhi:∀y∈l.drop (Nb l x),Hb x y:=by
  by_cases hk:Nb l x<l.length
  ·have hat:=A6w (fun y=>!decide (N2 y x<0)) l hk
   simp only [Mq,Ta] at hat;have hat:¬ Hb (l.getD (Nb l x) default) x:=fun hc=>hat (Tr.2 hc);have hne:l.getD (Nb l x) default≠x:=fun e=>hx (e▸Al hk);have h0:=Hb.tri hne hat;intro y hy;rw [A9s hk] at hy h2;have e0:l[Nb l x]=l.getD (Nb l x) default:=by simp [List.getD,hk]
   rw [e0] at hy h2
   rcases Ch.1 hy with rfl|hy
   ·exact h0
   exact h0.trans ((A9q.1 h2).1 y hy)
  rw [List.drop_of_length_le A7];simp
 refine List.pairwise_append.2 ⟨h1,A9q.2 ⟨hhi,h2⟩,fun y hy z hz=>?_⟩
 rcases Ch.1 hz with rfl|hz
 ·exact hlo y hy
 exact (hlo y hy).trans (hhi z hz)
theorem C2y (h:l.Pairwise Hb):(Km l x).1.Pairwise Hb:=by
 unfold Km
 split
 ·exact h
 exact C75 (h.sublist List.filter_sublist)
variable {k : Int}
theorem B2g (h:l.Pairwise Hb):(Cz k l x).1.Pairwise Hb:=by
 unfold Cz
 split
 ·exact C2y h
 split
 ·split
  ·exact h
  exact C75 h
 exact h
theorem B21 {x:C3}{v:Int}(hx:Jg x)(h:Rm k v):Rm (Bd x k v).1 (Bd x k v).2.1:=by
 obtain ⟨_,h2,_,h4,_⟩:=hx;unfold Bd;obtain ⟨⟨a1,a2⟩,a3,a4⟩:=h;have hm:=X2 (k+x.a) (show (0:Int)<100 by decide)
 (repeat' split)<;>simp only [Rm] at * <;>(try (rename_i hk;have:=h2 hk))<;>(try (rename_i hk;have:=h4 hk;have:=A3n 100 (show 0≤k+x.a by omega)))<;>omega
theorem A4g {s:Iz}(h:(Br s).2=true):(Br s).1=⟨s.ab,s.turn+1⟩∧(0≤s.ab∧s.ab≤3)∧0≤s.turn∧s.turn<6:=by
 unfold Br at *
 split at h
 ·rename_i hs
  rw [Ak hs]
  have:=Bn hs.1
  exact ⟨rfl,this.1,this.2.1,hs.2⟩
 cases h
variable {g : B0}
theorem B12 {op:Int}(h:Gw g)(h0:0≤op)(h1:op<g.ak.length):R4 g op.toNat:=h.2.2.2 op.toNat A7
variable {r : Aa}
theorem C6a (h:Pc g r):A2j g.ak.length (Uy g r):=by
 obtain ⟨hg,hr,ho⟩:=h;obtain ⟨r1,r2,r3,r4,r5⟩:=hr;have hn:=B12 hg r1.1 ho;have hc:=B21 (k:=r.key) (v:=r.val) hn.1 ⟨r4,r5⟩;unfold Uy;intro q hq
 split at hq
 ·simp at hq
 rename_i hb
 obtain ⟨k,hk,rfl⟩:=Fm.1 hq;have he:=hn.2.2 k hk;have hk7:=hn.1.2.2.2.2.2.2.2.2 k hk;refine ⟨⟨hk7,?_,?_,hc.1,hc.2⟩,he.1⟩
 ·simp only
  split
  ·rename_i h7
   have:=A4g (s:=r.af) (by simpa [h7] using hb)
   rw [this.1];exact this.2.1
  exact r2
 simp only
 split
 ·rename_i h7
  have:=A4g (s:=r.af) (by simpa [h7] using hb)
  rw [this.1];simp only;omega
 exact r3
variable {cs : List Ad}
theorem C0o:A2j g.ak.length (H2 g cs r).2.1:=by
 unfold H2
 split
 ·rename_i h
  (repeat' split)
  ·intro q hq;simp at hq
  ·intro q hq;simp at hq
  exact C6a h
 intro q hq;simp at hq
theorem C4v (h:cs.Pairwise Hb):(H2 g cs r).1.Pairwise Hb:=by
 unfold H2
 (repeat' split)
 ·exact h
 ·exact B2g h
 ·exact B2g h
 exact h
theorem C3k (h:Pc g r):(Uy g r).length≤2:=by
 unfold Uy
 have:=(B12 h.1 h.2.1.1.1 h.2.2).1.2.2.2.2.2.1
 split
 ·simp
 rw [Jd];exact this
theorem C0m:(H2 g cs r).2.1.length≤2:=by
 unfold H2
 split
 ·rename_i h
  (repeat' split)
  ·simp
  ·simp
  exact C3k h
 simp
theorem C1y:(Dh l x).length≤l.length+1:=by
 unfold Dh
 split
 ·omega
 have:=A6x (fun y=>!decide (N2 y x<0)) l
 simp only [D3,Fb,F9,Ge,Nb];omega
theorem A8h:(Cz k l x).1.length≤l.length+1:=by
 unfold Cz
 split
 ·unfold Km
  split
  ·simp
  have h1:=C1y (l:=l.filter fun y=>!B7 x y) (x:=x);have h2:=Nr (fun y=>!B7 x y) l
  simp only
  omega
 split
 ·split
  ·simp
  exact C1y
 simp
theorem B74:(H2 g cs r).1.length≤cs.length+1:=by
 unfold H2
 (repeat' split)
 ·simp
 ·exact A8h
 ·exact A8h
 simp
theorem C3x {l:List Aa}(h:B8j l):B8j (l.drop 1):=by
 intro i hi;obtain ⟨h1,h2,h3⟩:=h (i+1) (by simp at hi;omega);have e:∀j,(l.drop 1).getD j default=l.getD (j+1) default:=fun j=>by simp [List.getD,A0l]
 refine ⟨by rw [e];exact h1,by rw [e];exact h2,fun h0=>?_⟩;rw [e,e,show i-1+1=i by omega]
 exact h3 A7
variable {n : Nat}
theorem Xn {k:Nat}{l:List Aa}(h:A2j n l):A2j n (l.drop k):=fun r hr=>h r (A3m hr)
theorem A21 {l:List Aa}(h:A2j n l)(hr:H5 r∧r.op<n):A2j n (l++[r]):=fun q hq=>by
 rcases Ki.1 hq with hq|hq
 ·exact h q hq
 rw [I3.1 hq];exact hr
variable {w : Ae}
theorem C4z (h:Cw g.ak.length w):Cw g.ak.length (Pb g w):=by
 obtain ⟨⟨a1,a2,a3,a4⟩,⟨l1,l2,l3⟩,hi,hs,hd⟩:=h;refine ⟨⟨Xn a1,C0o,a3,A6j.2 (C4v (A6j.1 a4))⟩,⟨l1,l2,?_⟩,hi,hs,hd⟩;simp only [Pb]
 split
 ·rw [K0];exact l3
 exact l3
theorem B5c (h:Cw n w)(h0:0<w.au.length):Cw n (Q7 w):=by
 obtain ⟨⟨a1,a2,a3,a4⟩,hl,hi,hs,hd⟩:=h;exact ⟨⟨A21 a1 (a3 _ (Al h0)),a2,Xn a3,a4⟩,hl,C3x hi,hs,hd⟩
theorem B3v (h:Cw n w)(hr:H5 r∧r.op<n):Cw n (kept w r):=by
 obtain ⟨⟨a1,a2,a3,a4⟩,hl,hi,hs,hd⟩:=h;exact ⟨⟨A21 a1 hr,a2,a3,a4⟩,hl,hi,hs,hd⟩
theorem A0a (h:Cw n w):Cw n (Ew w):=by
 obtain ⟨⟨a1,a2,a3,a4⟩,hl,hi,hs,hd⟩:=h;exact ⟨⟨a1,Xn a2,a3,a4⟩,hl,hi,hs,hd⟩
variable {e : Int}
theorem A6f {b:Bool}(h:Cw n w):Cw n ⟨w.ar,w.aa,w.au,w.cells,w.al,w.ah.set e.toNat b,w.ai,w.an⟩:=by
 obtain ⟨ha,⟨l1,l2,l3⟩,hi,hs,hd⟩:=h;exact ⟨ha,⟨l1,by simpa using l2,l3⟩,hi,hs,hd⟩
theorem C05 (h:Cw n w)(h1:0≤e∧e≤3):Cw n (Iv w e k)↔Jk (w.al.getD e.toNat default+k):=by
 obtain ⟨ha,⟨l1,l2,l3⟩,hi,hs,hd⟩:=h;have hlt:e.toNat<w.al.length:=by omega
 constructor
 ·rintro ⟨_,_,_,hs',_⟩
  have:=hs' (w.al.getD e.toNat default+k) (by simp only [Iv];exact List.mem_set hlt _)
  exact this
 intro hk;refine ⟨ha,⟨by simpa [Iv] using l1,l2,l3⟩,hi,fun m hm=>?_,hd⟩;simp only [Iv] at hm
 rcases List.mem_or_eq_of_mem_set hm with h|rfl
 ·exact hs m h
 exact hk
theorem B5p {b:Bool}(h:Cw n w)(h1:0≤e∧e≤3)(h2:Kr w e=false):Cw n (Jw w ⟨e,b⟩):=by
 obtain ⟨ha,hl,hi,hs,hd⟩:=h;refine ⟨ha,hl,hi,hs,fun i hi'=>?_⟩;simp only [Jw,D3,Lx] at hi';have e1:∀j,j<w.an.length→(w.an++[(⟨e,b⟩:H6)]).getD j default=w.an.getD j default:=fun j hj=>by simp [List.getD,Fi hj]
 have e2:(w.an++[(⟨e,b⟩:H6)]).getD w.an.length default=⟨e,b⟩:=by simp [List.getD]
 simp only [Jw]
 by_cases hlt:i<w.an.length
 ·obtain ⟨d1,d2⟩:=hd i hlt
  exact ⟨by rw [e1 i hlt];exact d1,fun k hk=>by rw [e1 i hlt,e1 k A7];exact d2 k hk⟩
 obtain rfl:i=w.an.length:=by omega
 refine ⟨by rw [e2];exact h1,fun k hk=>?_⟩;rw [e2,e1 k hk];intro hc
 have:Kr w e=true:=Th.2 ⟨w.an.getD k default,Al hk,by simpa using hc⟩
 rw [h2] at this
 cases this
theorem Lp {l:List α}{i:Nat}{a x:α}(h:x∈l.set i a):x∈l∨x=a:=List.mem_or_eq_of_mem_set h
variable {c : A3}
theorem Le {j:Int}(h:Ax c)(hj:0≤j∧j<c.aq.length):Ax (Be c j w)↔Cw c.az.ak.length w:=by
 obtain ⟨⟨g1,g2,g3,g4⟩,hw,hl,ht,hn⟩:=h;have hlt:j.toNat<c.aq.length:=by omega
 constructor
 ·rintro ⟨_,hw',_⟩
  exact hw' w (by simp only [Be];exact List.mem_set hlt _)
 intro h;refine ⟨⟨g1,by simpa [Be] using g2,g3,g4⟩,fun x hx=>?_,hl,ht,hn⟩
 rcases Lp hx with hx|rfl
 ·exact hw x hx
 exact h
theorem A29 {l:D5}(h:Ax c)(hl':Hv l∧B02 c k.toNat l):Ax (Dd c k l):=by
 obtain ⟨⟨g1,g2,g3,g4⟩,hw,hl,ht,hn⟩:=h;refine ⟨⟨g1,g2,by simpa [Dd] using g3,g4⟩,hw,fun i hi=>?_,ht,hn⟩;simp only [Dd,K0] at hi
 show Hv ((c.ay.set k.toNat l).getD i default)∧B02 c i ((c.ay.set k.toNat l).getD i default)
 by_cases e:i=k.toNat
 ·subst e
  rw [Sx.getD_set_self _ _ _ _ hi];exact hl'
 rw [Sx.getD_set_ne _ _ _ _ _ e];exact hl i hi
variable {f : Int} {t : Int}
theorem Qf (h:Ax c)(hf:0≤f∧f<c.az.aq)(ht:0≤t∧t<c.az.aq):
  (0≤Ar c f t∧Ar c f t<c.ay.length)∧((Ar c f t).toNat:Int).tdiv c.az.aq=f∧((Ar c f t).toNat:Int).tmod c.az.aq=t:=by
 have hl:=h.1.2.2.1;have hn:=h.1.1.2.1;unfold Ar;have hw:c.az.aq=1∨c.az.aq=2∨c.az.aq=3∨c.az.aq=4:=by omega
 have h0:0≤f * c.az.aq:=Int.mul_nonneg hf.1 A7;have hfw:f=0∨f=1∨f=2∨f=3:=by omega
 have htw:t=0∨t=1∨t=2∨t=3:=by omega
 rw [hl];generalize c.az.aq=n at *
 rcases hw with rfl|rfl|rfl|rfl<;>rcases hfw with rfl|rfl|rfl|rfl<;>rcases htw with rfl|rfl|rfl|rfl<;>first|omega|(refine ⟨⟨by decide,by decide⟩,by decide,by decide⟩)
theorem A1h (h:Ax c)(hk:0≤k∧k<c.ay.length):Hv (Bg c k)∧B02 c k.toNat (Bg c k):=h.2.2.1 k.toNat A7
theorem C4n {l:D5}(h:Hv l):Hv (D8 l r).1:=by
 unfold D8
 split
 ·rename_i hs
  obtain ⟨⟨h1,h2,h3,h4,h5,h6,h7⟩,hq⟩:=h;obtain ⟨_,hr,hc,hs⟩:=hs;refine ⟨?_,fun q hq'=>?_⟩
  ·simp only [A5y,D3,Lx]
   omega
  rcases Ki.1 hq' with hq'|hq'
  ·exact hq q hq'
  rw [I3.1 hq'];exact hr
 exact h
theorem B77 {l:D5}(h:Hv l):Hv (Bp l).1:=by
 unfold Bp
 split
 ·rename_i hs
  obtain ⟨⟨h1,h2,h3,h4,h5,h6,h7⟩,hq⟩:=h;refine ⟨?_,fun q hq'=>hq q (A3m hq')⟩;simp only [A5y,Ge];omega
 exact h
theorem A9z {l:D5}(h:Hv l):Hv (Et l).1:=by
 unfold Et
 split
 ·rename_i hs
  obtain ⟨⟨h1,h2,h3,h4,h5,h6,h7⟩,hq⟩:=h;refine ⟨?_,hq⟩;simp only [A5y];omega
 exact h
theorem B90 {n:Int}(hk:0≤k)(hn:1≤n):0≤Ev k n∧Ev k n<n:=by
 have h1:=X2 k (show 0<n by omega)
 have h2:=A3n n hk;unfold Ev
 (repeat' split)<;>omega
theorem C4y {w:Int}(h:I6 c w):Ax (Be c w (Me c.az (A8 c w)).1):=by
 obtain ⟨hc,h0,h1⟩:=h;have hw:=hc.2.1 _ (Al (d:=default) (show w.toNat<c.aq.length by omega))
 refine (Le hc ⟨h0,h1⟩).2 ?_;unfold Me
 split
 ·exact C4z hw
 exact hw
theorem B65 {w:Int}(h:Ax c):Ax (Fy c w).1:=by
 unfold Fy
 split
 ·exact C4y ‹_›
 exact h
theorem B37 {w:Int}(h:Ax c):Ax (Ez c w).1:=by
 unfold Ez
 split
 ·rename_i hW
  obtain ⟨hc,h0,h1⟩:=hW;have hw:=hc.2.1 _ (Al (d:=default) (show w.toNat<c.aq.length by omega))
  refine (Le hc ⟨h0,h1⟩).2 ?_;unfold H9
  split
  ·rename_i hi;exact B5c hw hi.2.2.2.2
  exact hw
 exact h
theorem Up {w:Int}(hc:Ax c)(h:0≤w∧w<c.aq.length):Cw c.az.ak.length (A8 c w):=hc.2.1 _ (Al (d:=default) (show w.toNat<c.aq.length by omega))
theorem A06 {w:Int}(h:I6 c w)(hs:0<(A8 c w).aa.length):H5 (B2 c w)∧(B2 c w).op<c.az.ak.length:=(Up h.1 h.2).1.2.1 _ (Al hs)
theorem B10 {w:Int}(h:I6 c w)(hs:0<(A8 c w).aa.length):0≤B1 c w∧B1 c w<c.az.aq:=
 B90 (A06 h hs).1.2.2.2.1.1 h.1.1.1.2.1.1
theorem Zj {w:Int}(h:I6 c w)(hs:0<(A8 c w).aa.length)(hne:B1 c w≠w):Ax (Dd c (Ar c w (B1 c w)) (D8 (Bg c (Ar c w (B1 c w))) (B2 c w)).1):=by
 have hw:0≤w∧w<c.az.aq:=by have:=h.1.1.2.1;exact ⟨h.2.1,by have:=h.2.2;omega⟩
 obtain ⟨b1,b2,b3⟩:=Qf h.1 hw (B10 h hs);obtain ⟨k1,k2,k3,k4⟩:=A1h h.1 b1;refine A29 h.1 ⟨C4n k1,?_⟩;unfold D8
 split
 ·exact ⟨k2,A21 k3 (A06 h hs),fun e=>absurd (by rw [b2,b3] at e;exact e.symm) hne⟩
 exact ⟨k2,k3,k4⟩
def B30 (c:A3) (w:Int):Int:=(A8 c w).al.getD (B2 c w).af.ab.toNat default+1
theorem A4s (h:Cw n w)(he:0≤e∧e≤3):Jz w e=Iv w e 1:=by
 have:=h.2.1.1
 unfold Jz;rw [Ak A7]
theorem W8 {w:Int}(h:Ax c):Au (Ck c w).1=(if (Ck c w).2=true∧B1 c w≠w then decide (Jk (B30 c w)) else true):=by
 unfold Ck
 by_cases hm:I6 c w∧0<(A8 c w).aa.length
 ·obtain ⟨hW,hs⟩:=hm
  rw [Ak ⟨hW,hs⟩];have hfo:=A06 hW hs
  by_cases hself:B1 c w=w
  ·simp only [hself,Mp,ne_eq,not_true_eq_false,and_false,Te]
   exact Dc ((Le h hW.2).2 (B3v (A0a (Up h hW.2)) hfo))
  rw [Ab hself]
  by_cases hsend:(D8 (Bg c (Ar c w (B1 c w))) (B2 c w)).2=true
  ·rw [Ak hsend]
   simp only [true_and,Ak hself,ne_eq,hself,not_false_eq_true,and_self,Mp];have hc2:=Zj hW hs hself;unfold Au;refine Uw.2 ?_;have hw:=A0a (Up h hW.2);rw [Le hc2 hW.2,A4s hw hfo.1.2.1];exact C05 hw hfo.1.2.1
  rw [Ab hsend];simp only [Td,false_and,Te];exact Dc h
 rw [Ab hm];simp only [Td,false_and,Te];exact Dc h
theorem Zy (h:P5 c f t):Ax (Dd c (Ar c f t) (Bp (Bg c (Ar c f t))).1):=by
 obtain ⟨b1,b2,b3⟩:=Qf h.1 h.2.2.1 h.2.2.2;obtain ⟨k1,k2,k3,k4⟩:=A1h h.1 b1;refine A29 h.1 ⟨B77 k1,?_⟩;unfold Bp
 split
 ·exact ⟨k2,Xn k3,fun e=>absurd (by rw [b2,b3] at e;exact e) h.2.1⟩
 exact ⟨k2,k3,k4⟩
def Pa (c:A3) (f t:Int):Aa:=(Bp (Bg c (Ar c f t))).2.1
theorem B79 (h:P5 c f t)(hk:(Bp (Bg c (Ar c f t))).2.2=true):H5 (Pa c f t)∧(Pa c f t).op<c.az.ak.length:=by
 obtain ⟨b1,b2,b3⟩:=Qf h.1 h.2.2.1 h.2.2.2;obtain ⟨k1,k2,k3,k4⟩:=A1h h.1 b1;unfold Pa;unfold Bp at hk ⊢
 split at hk
 ·rename_i hp
  rw [Ak hp];exact k3 _ (Al hp.2)
 cases hk
def B4w (c:A3) (f t:Int):Int:=(A8 c t).al.getD (Pa c f t).af.ab.toNat default+ -1
theorem A4p (h:Cw n w)(he:0≤r.af.ab∧r.af.ab≤3):Im w r=Q9 (Iv (kept w r) r.af.ab (-1)) r.af.ab:=by
 have:=h.2.1.1
 have:=h.2.1.2.1
 unfold Im;rw [Ak A7]
theorem B06 {b:Bool}:Cw n ⟨w.ar,w.aa,w.au,w.cells,w.al,w.ah.set e.toNat b,w.ai,w.an⟩↔Cw n w:=by
 refine ⟨fun h=>?_,A6f⟩;obtain ⟨ha,⟨l1,l2,l3⟩,hi,hs,hd⟩:=h;exact ⟨ha,⟨l1,by simpa using l2,l3⟩,hi,hs,hd⟩
theorem A4l (h:Ax c):Au (E9 c f t).1=(if (E9 c f t).2=true then decide (Jk (B4w c f t)) else true):=by
 unfold E9
 by_cases hm:P5 c f t∧(Bp (Bg c (Ar c f t))).2.2=true
 ·rw [Ak hm]
  obtain ⟨hL,hk⟩:=hm;have hto:=B79 hL hk;have hc2:=Zy hL;have ht:0≤t∧t<c.aq.length:=by have:=h.1.2.1;have:=hL.2.2.2;omega
  simp only [Mp];unfold Au;refine Uw.2 ?_;rw [Le hc2 ht];have hw:=Up h ht
  show Cw _ (Im (A8 c t) (Pa c f t))↔_
  rw [A4p hw hto.1.2.1];exact (B06 (w:=Iv (kept (A8 c t) (Pa c f t)) (Pa c f t).af.ab (-1))).trans (C05 (B3v hw hto) hto.1.2.1)
 rw [Ab hm];simp only [Td,Te];exact Dc h
theorem Yi (h:Ax c):Ax (F6 c f t).1:=by
 unfold F6
 split
 ·rename_i hL
  obtain ⟨b1,b2,b3⟩:=Qf h hL.2.2.1 hL.2.2.2;obtain ⟨k1,k2,k3,k4⟩:=A1h h b1;refine A29 h ⟨A9z k1,?_⟩;unfold Et
  split
  ·exact ⟨k2,k3,k4⟩
  exact ⟨k2,k3,k4⟩
 exact h
theorem C1q {l:List De}(h:Ax c)(hl:∀x∈l,Oo c.az.aq x):Ax ⟨c.az,c.aq,c.ay,c.ap,l⟩:=⟨h.1,h.2.1,h.2.2.1,h.2.2.2.1,hl⟩
theorem B11 {w:Int}(h:Ax c)(hn:c.ac.any (K8 w)=true):Ga c w∈c.ac∧(Ga c w).to_=w:=by
 obtain ⟨x,hx,hw⟩:=Th.1 hn
 have hlt:P7 c w<c.ac.length:=by
  by_cases hlt:P7 c w<c.ac.length
  ·exact hlt
  have:=A6x (K8 w) c.ac
  have he:Hy (K8 w) c.ac=c.ac.length:=by unfold P7 at hlt;omega
  have:=Z7 (K8 w) c.ac x (by rw [he,H4];exact hx)
  rw [hw] at this;cases this
 have:=A6w (K8 w) c.ac hlt
 exact ⟨Al hlt,eq_of_beq this⟩
theorem B53 {w:Int}(h:Ax c):Ax (Fv c w).1:=by
 unfold Fv
 split
 ·rename_i hn
  have hh:Ax (V0 c w):=C1q h fun x hx=>h.2.2.2.2 x (List.mem_of_mem_eraseIdx hx);obtain ⟨m1,m2⟩:=B11 h hn.2;have hN:=h.2.2.2.2 _ m1;have hw:0≤w∧w<c.aq.length:=by have:=h.1.2.1;have:=hN.1;omega
  split
  ·exact hh
  rename_i hd
  have hwk:=B5p (b:=(Ga c w).ao) (Up h hw) hN.2 (by simpa using hd);exact (Le hh hw).2 hwk
 exact h
theorem A3a {t:Gg}(h:Ax c)(ht:Qw c.az.aq t):Ax (G5 c e t):=by
 obtain ⟨⟨g1,g2,g3,g4⟩,hw,hl,htt,hn⟩:=h;refine ⟨⟨g1,g2,g3,by simpa [G5] using g4⟩,hw,hl,fun x hx=>?_,hn⟩
 rcases Lp hx with hx|rfl
 ·exact htt x hx
 exact ht
theorem B4z (h:Ax c):Ax (D0 c e).1:=by
 unfold D0
 split
 ·rename_i hT
  obtain ⟨_,he,hD,hP⟩:=hT;have htl:=h.1.2.2.2;have hTP:Qw c.az.aq (A4 c e):=h.2.2.2.1 _ (Al (d:=default) (show e.toNat<c.ap.length by omega))
  have hn1:=h.1.1.2.1;have hwl:=h.1.2.1;have hat:0≤(A4 c e).aj∧(A4 c e).aj<c.aq.length:=by have:=hTP.1;omega
  have hwk:=Up h hat
  simp only
  split
  ·have h1:Qw c.az.aq ⟨true,(c.aq.length:Int)-1,0,false,(A8 c (A4 c e).aj).ai.getD e.toNat default⟩:=⟨⟨by show (0:Int)≤(c.aq.length:Int)-1;omega,by show (c.aq.length:Int)-1≤_;omega⟩,(fun hc=>Bool.noConfusion hc),(by show (-1000000:Int)≤0;decide),(by show (0:Int)≤1000000;decide)⟩
   exact (Le (A3a (e:=e) h h1) hat).2 (A6f hwk)
  split
  ·split
   ·rename_i hg ha hs
    have h1:Qw c.az.aq ⟨(A4 c e).bz,(A4 c e).aj-1,(A4 c e).sum+(A8 c (A4 c e).aj).al.getD e.toNat default,(A4 c e).ah||(A8 c (A4 c e).aj).ah.getD e.toNat default,(A4 c e).ao||(A8 c (A4 c e).aj).ai.getD e.toNat default⟩:=
     ⟨⟨by show 0≤(A4 c e).aj-1;omega,by show (A4 c e).aj-1≤_;have:=hTP.1;omega⟩,fun hc=>absurd hc hg,hs⟩
    exact (Le (A3a (e:=e) h h1) hat).2 (A6f hwk)
   exact h
  rename_i hg ha
  have hA:(A4 c e).aj=0:=by have:=hTP.1;omega
  have hc1:Ax (G5 c e ⟨false,(A4 c e).aj,(A4 c e).sum,(A4 c e).ah,(A4 c e).ao⟩):=A3a h ⟨hTP.1,fun _=>hA,hTP.2.2⟩
  unfold Kz
  split
  ·have hw0:(0:Int)≤0∧(0:Int)<c.aq.length:=by omega
   have hd0:Kr (A8 c (A4 c e).aj) e=false:=by rw [hA];exact hD
   have hdw:=B5p (b:=((A4 c e).ao||(A8 c (A4 c e).aj).ai.getD e.toNat default)) hwk he hd0;have hw1:=(Le (j:=0) hc1 hw0).2 hdw;refine C1q hw1 fun x hx=>?_
   rcases Ki.1 hx with hx|hx
   ·exact h.2.2.2.2 x hx
   obtain ⟨i,hi,rfl⟩:=Fm.1 hx
   have:=Fz.1 hi
   have hl2:(G5 c e ⟨false,(A4 c e).aj,(A4 c e).sum,(A4 c e).ah,(A4 c e).ao⟩).aq.length=c.aq.length:=rfl;rw [hl2] at this;refine ⟨⟨by show (0:Int)≤(i:Int)+1;omega,?_⟩,he⟩
   show (i:Int)+1≤c.az.aq-1
   omega
  exact hc1
 exact h
theorem A41 {p : Do} (h : Ax c) : Au (Ap c p).1 =
    (if p.kind = 3 then (if (Ck c p.a).2 = true ∧ B1 c p.a ≠ p.a then decide (Jk (B30 c p.a)) else true)
     else if p.kind = 4 then (if (E9 c p.a p.b).2 = true then decide (Jk (B4w c p.a p.b)) else true) else true) := by
  unfold Ap
  by_cases h1 : p.kind = 1
  · rw [Ak h1, Ab A7, Ab A7]; exact Dc (B65 h)
  by_cases h2 : p.kind = 2
  · rw [Ab h1, Ak h2, Ab A7, Ab A7]; exact Dc (B37 h)
  by_cases h3 : p.kind = 3
  · rw [Ab h1, Ab h2, Ak h3, Ak h3]; exact W8 h
  by_cases h4 : p.kind = 4
  · rw [Ab h1, Ab h2, Ab h3, Ak h4, Ab h3, Ak h4]; exact A4l h
  by_cases h5 : p.kind = 5
  · rw [Ab h1, Ab h2, Ab h3, Ab h4, Ak h5, Ab h3, Ab h4]; exact Dc (Yi h)
  by_cases h6 : p.kind = 6
  · rw [Ab h1, Ab h2, Ab h3, Ab h4, Ab h5, Ak h6, Ab h3, Ab h4]; exact Dc (B4z h)
  by_cases h7 : p.kind = 7
  · rw [Ab h1, Ab h2, Ab h3, Ab h4, Ab h5, Ab h6, Ak h7, Ab h3, Ab h4]; exact Dc (B53 h)
  · rw [Ab h1, Ab h2, Ab h3, Ab h4, Ab h5, Ab h6, Ab h7, Ab h3, Ab h4]; exact Dc h
end Go.Proofs.YtmhcebdkjgkmlaaGreatDoor
