/- Part 41 of the proof that each of the laws FnColours returns true for every input. No conditions. -/
import Derived.Test.YtdendlkeiaccpaaGreatDoorP40
import Derived.Test.YtdendlkeiaccpaaGreatDoorP21
import Derived.Test.YtdendlkeiaccpaaGreatDoorP3
import Derived.Test.YtdendlkeiaccpaaGreatDoorP6
import Derived.Shelf.Strconv.Itoa3

set_option linter.unusedSimpArgs false
set_option linter.unusedVariables false
set_option maxRecDepth 100000
namespace Go.Proofs.YtdendlkeiaccpaaGreatDoor
open Go.Sx
theorem A58 {α:Type} [Inhabited α] {l:List α}{x:α}(h:x∈l):∃i,i<l.length∧l.getD i default=x:=by
 obtain ⟨i,hi,rfl⟩:=List.getElem_of_mem h
 exact ⟨i,hi,by simp only [List.getD,List.getElem?_eq_getElem hi,Option.getD_some]⟩
theorem A8h {α:Type}(f:Nat→List α)(R:α→α→Prop)(h1:∀e,(f e).Pairwise R)(h2:∀e e',e<e'→∀x∈f e,∀y∈f e',R x y):∀n,((List.range n).flatMap f).Pairwise R
 | 0=>List.Pairwise.nil
 |n+1=>by
  rw [Jb]
  refine List.pairwise_append.2 ⟨A8h f R h1 h2 n,h1 n,fun x hx y hy=>?_⟩
  obtain ⟨e,he,hx⟩:=List.mem_flatMap.1 hx
  exact h2 e n (List.mem_range.1 he) x hx y hy
theorem Zj {n:Int}{l:List Ae}{w:Nat}{r:Ae}(h:r∈R2 n l w):r∈l∧Ew r.key n=w:=by
 simp only [R2,List.mem_flatMap,List.mem_filter] at h
 obtain ⟨e,_,h,hw⟩:=h
 simp only [Cp,List.mem_filter] at h
 exact ⟨h.1,eq_of_beq hw⟩
theorem Y7 (n:Int)(l:List Ae)(w:Nat):(R2 n l w).Pairwise fun a b=>a.stamp.epoch≤b.stamp.epoch:=by
 have hm:∀(e:Nat) (r:Ae),r∈((Cp l e).filter fun r=>Ew r.key n==w)→r.stamp.epoch=e:=fun e r hr=>by
  have:=(List.mem_filter.1 hr).1
  simp only [Cp,List.mem_filter] at this
  exact eq_of_beq this.2
 refine A8h _ _ (fun e=>?_) (fun e e' hlt x hx y hy=>?_) 4
 ·rw [List.pairwise_iff_getElem]
  intro i j hi hj _
  have a:=hm e _ (List.getElem_mem hi)
  have b:=hm e _ (List.getElem_mem hj)
  omega
 have a:=hm e x hx
 have b:=hm e' y hy
 omega
theorem B5t {l:List Ae}(h1:∀r∈l,r.op=0∧r.stamp.turn=0)(h2:l.Pairwise fun a b=>a.stamp.epoch≤b.stamp.epoch):A2i l:=fun i hi=>by
 have e:∀j,(h:j<l.length)→l.getD j default=l[j]:=fun j h=>by simp [List.getD,h]
 have a:=h1 _ (List.getElem_mem hi)
 refine ⟨by rw [e i hi];exact a.1,by rw [e i hi];exact a.2,fun h0=>?_⟩
 rw [e i hi,e (i-1) Ac]
 exact List.pairwise_iff_getElem.1 h2 (i-1) i Ac hi Ac
theorem A4u:∀(l:List Int),(∀x∈l,x=0)→l.sum=0
 | [],_=>rfl
 |x::l,h=>by
  rw [List.sum_cons,h x (List.mem_cons_self ..),A4u l (fun y hy=>h y (List.mem_cons_of_mem _ hy))]
  rfl
theorem A7z:∀{l:List Nat} {x:Nat},x∈l→x≤l.sum
 |y::l,x,h=>by
  rw [List.sum_cons]
  rcases List.mem_cons.1 h with rfl|h
  ·omega
  have:=A7z h
  omega
theorem Tl:∀(l:List Nat),(∀x∈l,x=0)→l.sum=0
 | [],_=>rfl
 |x::l,h=>by
  rw [List.sum_cons,h x (List.mem_cons_self ..),Tl l (fun y hy=>h y (List.mem_cons_of_mem _ hy))]
theorem A75 {g:Aq}{l:List Ae}(hN:Ob g l)(i:Nat)(hi:i<(B4 g l).1.workers.length):wk (B4 g l).1 i=⟨[],[],R2 g.workers l i,[],List.replicate 4 0,List.replicate 4 false,List.replicate 4 false,[]⟩:=by
 unfold B4 at *
 rw [if_pos hN] at *
 unfold wk E3 at *
 simp only [List.length_map,List.length_range] at hi
 simp only [List.getD,List.getElem?_map,List.getElem?_range hi,Option.map_some,Option.getD_some]
theorem A3y {g:Aq}{l:List Ae}(hN:Ob g l):((B4 g l).1.workers.length:Int)=g.workers:=by
 have:=hN.1.2.1
 unfold B4 E3
 rw [if_pos hN]
 simp only [List.length_map,List.length_range]
 omega
theorem A3z {g:Aq}{l:List Ae}(hN:Ob g l):∀x∈(B4 g l).1.links,x=Gc g.cap:=by
 unfold B4
 rw [if_pos hN]
 exact fun x hx=>List.eq_of_mem_replicate hx
theorem A30 {g:Aq}{l:List Ae}(hN:Ob g l):∀x∈(B4 g l).1.tokens,x=default:=by
 unfold B4
 rw [if_pos hN]
 exact fun x hx=>List.eq_of_mem_replicate hx
theorem B58 {g:Aq}{l:List Ae}(hN:Ob g l):As (B4 g l).1:=by
 have hlen:=A3y hN
 have hwk:=A75 hN
 have hlk:=A3z hN
 have htk:=A30 hN
 have hg:(B4 g l).1.graph=g:=by unfold B4;rw [if_pos hN]
 have hw:=hN.1.2.1
 have hc:=hN.1.2.2.1
 refine ⟨⟨by rw [hg];exact hN.1,by rw [hg];exact hlen,?_,?_⟩,fun w hw'=>?_,fun i hi=>?_,fun t ht=>?_,fun x hx=>?_⟩
 ·rw [hg]
  unfold B4
  rw [if_pos hN]
  simp only [List.length_replicate]
  obtain ⟨n,hn⟩:∃n:Nat,g.workers=n:=⟨g.workers.toNat,by omega⟩
  rw [hn]
  simp only [Int.toNat_natCast]
  exact Int.natCast_mul n n
 ·unfold B4
  rw [if_pos hN]
  rfl
 ·obtain ⟨i,hi,rfl⟩:=A58 hw'
  have:(B4 g l).1.workers.getD i default=wk (B4 g l).1 i:=rfl
  rw [this,hwk i hi,hg]
  refine ⟨⟨fun r hr=>(by cases hr),fun r hr=>(by cases hr),fun r hr=>?_,fun i hi=>absurd hi (Nat.not_lt_zero i)⟩,⟨rfl,rfl,rfl⟩,?_,fun n hn=>?_,fun i hi=>absurd hi (Nat.not_lt_zero i)⟩
  ·have:=hN.2.2 r (Zj hr).1
   have:=hN.1.1
   exact ⟨‹_∧_∧_›.1,by omega⟩
  ·exact B5t (fun r hr=>(hN.2.2 r (Zj hr).1).2) (Y7 _ _ _)
  rw [List.eq_of_mem_replicate hn]
  unfold Gj
  omega
 ·have:=hlk _ (Ay (d:=default) hi)
  unfold Ki
  rw [this]
  have hb:Dw g.cap 1 4=g.cap:=by unfold Dw;rw [if_neg Ac,if_neg Ac]
  refine ⟨⟨?_,fun r hr=>(by cases hr)⟩,by unfold V6;exact ⟨by unfold Gc;rw [hb,hg],fun r hr=>(by cases hr),fun _=>rfl⟩⟩
  unfold To Gc
  rw [hb]
  simp only [List.length_nil]
  omega
 ·rw [htk t ht,hg]
  have:Jm g.workers default↔(0≤(0:Int)∧(0:Int)≤g.workers-1)∧(false=false→(0:Int)=0)∧(-1000000≤(0:Int)∧(0:Int)≤1000000):=Iff.rfl
  exact this.2 ⟨by omega,fun _=>rfl,by omega⟩
 unfold B4 at hx
 rw [if_pos hN] at hx
 cases hx
theorem B3i {g:Aq}{l:List Ae}(hN:Ob g l):I1 0 (B4 g l).1:=by
 have hlen:=A3y hN
 have hwk:=A75 hN
 have hlk:=A3z hN
 have htk:=A30 hN
 have hok:=B58 hN
 have hnews:(B4 g l).1.news=[]:=by unfold B4;rw [if_pos hN]
 have htok:∀e:Int,0≤e→e≤3→A9 (B4 g l).1 e=default:=fun e h0 h1=>htk _ (Ay (d:=default) (by have:=hok.1.2.2.2;omega))
 have hsum:∀i,i<(B4 g l).1.workers.length→∀e:Int,0≤e→e≤3→E9 (wk (B4 g l).1 i) e=0:=fun i hi e h0 h1=>by
  rw [hwk i hi]
  have:e=0∨e=1∨e=2∨e=3:=by omega
  rcases this with rfl|rfl|rfl|rfl<;>rfl
 have hdn:∀i,i<(B4 g l).1.workers.length→(wk (B4 g l).1 i).dones=[]:=fun i hi=>by rw [hwk i hi]
 have hnd:∀i,i<(B4 g l).1.workers.length→∀e,Bf (wk (B4 g l).1 i) e=false:=fun i hi e=>by unfold Bf;rw [hdn i hi];rfl
 have hl:=Nh hok
 refine ⟨hok,⟨⟨fun x hx=>?_,fun i hi e he=>?_⟩,fun e he=>?_,fun i h1 h2=>?_⟩,fun i hi e h0 h1=>?_,fun e h0 h1=>?_,fun x hx=>?_,fun e h0 h1=>⟨?_,fun hg=>?_,fun hd=>?_⟩⟩
 ·rw [hnews] at hx;cases hx
 ·rw [hnd i hi] at he;cases he
 ·rw [hnd 0 hl] at he;cases he
 ·rw [hnews,hdn i h2];exact Nat.zero_le _
 ·rw [hsum i hi e h0 h1];omega
 ·rw [htok e h0 h1]
  show Uo 0 0 0
  unfold Uo
  omega
 ·rw [hlk x hx]
  show (0:Int)≤(0:Nat)
  omega
 ·unfold Mk G6 Eh
  rw [List.take_length,A4u,Tl]
  ·rfl
  ·intro x hx
   obtain ⟨y,hy,rfl⟩:=List.mem_map.1 hx
   rw [hlk y hy]
   rfl
  intro x hx
  obtain ⟨y,hy,rfl⟩:=List.mem_map.1 hx
  obtain ⟨i,hi,rfl⟩:=A58 hy
  exact hsum i hi e h0 h1
 ·rw [htok e h0 h1] at hg;cases hg
 rw [Io,hnd 0 hl] at hd;cases hd
theorem A35 {c:A3}{e:Int}:Lf c e=true↔Rf c e:=by
 have hf:Eh c e=0↔∀l∈c.links,(Cp l.queue e).length=0:=by
  unfold Eh
  constructor
  ·intro h l hl
   have:=A7z (List.mem_map_of_mem (f:=fun l:Bz=>(Cp l.queue e).length) hl)
   omega
  intro h
  refine Tl _ fun x hx=>?_
  obtain ⟨y,hy,rfl⟩:=List.mem_map.1 hx
  exact h y hy
 have hp:L9 c e=true↔∀i,i<c.workers.length→Ch (wk c i) e=true:=by
  unfold L9
  rw [List.all_eq_true]
  constructor
  ·intro h i hi
   exact h _ (Ay hi)
  intro h x hx
  obtain ⟨i,hi,rfl⟩:=A58 hx
  exact h i hi
 unfold Lf Rf
 rw [hf]
 split
 ·rename_i h
  obtain ⟨l,hl,h⟩:=List.any_eq_true.1 h
  have h:=of_decide_eq_true h
  refine ⟨fun q=>(by cases q),fun q=>?_⟩
  have:=q.2 l hl
  omega
 rename_i h
 rw [hp]
 refine ⟨fun q=>⟨q,fun l hl=>?_⟩,fun q=>q.1⟩
 by_cases h0:(Cp l.queue e).length=0
 ·exact h0
 exact absurd (List.any_eq_true.2 ⟨l,hl,decide_eq_true Ac⟩) h
theorem B4q {α:Type} [Inhabited α] (f:α→Nat):∀(l:List α) (j:Nat) (x:α),j<l.length→((l.set j x).map f).sum+f (l.getD j default)=(l.map f).sum+f x
 | [],_,_,h=>absurd h (Nat.not_lt_zero _)
 |y::r,0,x,_=>by simp;omega
 |y::r,j+1,x,h=>by
  have:=B4q f r j x (by simpa using h)
  simp only [List.set_cons_succ,List.map_cons,List.sum_cons,List.getD_cons_succ]
  omega
theorem A1u {c:A3}{j:Int}{w:Aa}(h:0≤j∧j<c.workers.length):(B3 c j w).w+(Ab c j).w=c.w+w.w:=by
 have:=B4q Aa.w c.workers j.toNat w Ac
 simp only [B3,A3.w,wS,List.length_set,Ab]
 omega
theorem Sf (c:A3)(e:Int)(t:Cu):(C9 c e t).w=c.w:=by simp only [A3.w,C9,List.length_set]
theorem A47 (w:Aa)(e:Int):(Ef w e).w=w.w:=by simp only [Aa.w,Ef,List.length_set]
theorem B5h (w:Aa)(d:Dn):(Ct w d).w=w.w+1:=by simp only [Aa.w,Ct,List.length_append,List.length_singleton];omega
theorem B1l (c:A3)(l:List Fe):(Gk c l).w=c.w+l.length:=by simp only [A3.w,Gk,List.length_append];omega
theorem Rd (c:A3)(e:Int)(t:Cu)(j:Int):Ab (C9 c e t) j=Ab c j:=rfl
theorem Uj (x:A3)(e:Int):(Bc x e).1.w≤x.w+4:=by
 unfold Bc
 split
 ·rename_i h
  obtain ⟨hC,hE,hD,hP⟩:=h
  have hl0:1≤x.workers.length:=by have:=hC.1.2.1;have:=hC.1.1.2.1;omega
  have hwl4:x.workers.length≤4:=by have:=hC.1.2.1;have:=hC.1.1.2.1;omega
  have htl:x.tokens.length=4:=hC.1.2.2.2
  have hTP:=hC.2.2.2.1 _ (Ay (d:=default) (show e.toNat<x.tokens.length by omega))
  have hat:0≤(A9 x e).at_∧(A9 x e).at_<x.workers.length:=by
   have:=hC.1.2.1
   have:=hTP.1
   simp only [A9]
   omega
  dsimp only
  split
  ·have:=A1u (c:=C9 x e ⟨true,(x.workers.length:Int)-1,0,false,(Ab x (A9 x e).at_).caps.getD e.toNat default⟩) (j:=(A9 x e).at_) (w:=Ef (Ab x (A9 x e).at_) e) hat
   rw [A47,Rd,Sf] at this
   dsimp only
   omega
  split
  ·split
   ·have:=A1u (c:=C9 x e ⟨(A9 x e).going,(A9 x e).at_-1,(A9 x e).sum+(Ab x (A9 x e).at_).sums.getD e.toNat default,(A9 x e).black||(Ab x (A9 x e).at_).black.getD e.toNat default,(A9 x e).capped||(Ab x (A9 x e).at_).caps.getD e.toNat default⟩) (j:=(A9 x e).at_) (w:=Ef (Ab x (A9 x e).at_) e) hat
    rw [A47,Rd,Sf] at this
    dsimp only
    omega
   dsimp only;omega
  rename_i hA
  have hz:(A9 x e).at_=0:=by omega
  dsimp only
  unfold F2
  split
  ·have:=A1u (c:=C9 x e ⟨false,(A9 x e).at_,(A9 x e).sum,(A9 x e).black,(A9 x e).capped⟩) (j:=0) (w:=Ct (Ab x (A9 x e).at_) ⟨e,(A9 x e).capped||(Ab x (A9 x e).at_).caps.getD e.toNat default⟩) ⟨Int.le_refl _,by show (0:Int)<(x.workers.length:Int);omega⟩
   rw [B5h,Rd,Sf,hz] at this
   rw [B1l,Gd,List.length_map,List.length_range,hz]
   have e1:(C9 x e ⟨false,0,(A9 x e).sum,(A9 x e).black,(A9 x e).capped⟩).workers.length=x.workers.length:=rfl
   omega
  rw [Sf];omega
 dsimp only;omega
def F8 (x:A3) (e:Int):Bool:=
 Di e 0 ((x.tokens.length:Int)-1)&&((A9 x e).going&&(((A9 x e).at_==0)&&(!(A9 x e).black&&((Bc x e).2&&Gh (Bc x e).1 e))))
theorem A8t {x:A3}{e:Int}(hE:Di e 0 ((x.tokens.length:Int)-1)=true)(hg:(A9 x e).going=true)(ha:((A9 x e).at_==0)=true)(hb:(A9 x e).black=false)(hk:(Bc x e).2=true):F8 x e=Gh (Bc x e).1 e:=by
 unfold F8
 rw [hE,hg,ha,hb,hk]
 rfl
theorem A40 {x:A3}{e:Int}(h:Di e 0 ((x.tokens.length:Int)-1)=false):F8 x e=false:=by unfold F8;rw [h];rfl
theorem A41 {x:A3}{e:Int}(h:(A9 x e).going=false):F8 x e=false:=by unfold F8;rw [h];simp
theorem A42 {x:A3}{e:Int}(h:((A9 x e).at_==0)=false):F8 x e=false:=by unfold F8;rw [h];simp
theorem A43 {x:A3}{e:Int}(h:(A9 x e).black=true):F8 x e=false:=by unfold F8;rw [h];simp
theorem A44 {x:A3}{e:Int}(h:(Bc x e).2=false):F8 x e=false:=by unfold F8;rw [h];simp
theorem Ye (x:A3)(e:Int)(h:x.w≤8000000):Be Tryz.prog 11 [.agg x.c,.one (vi e)] [.one (vb (F8 x e))]:=by
 have htw:=Uj x e
 have htl:=A3.tokens_le h
 refine B5 A0 false Tryz.func11 rfl Az fun W=>?_
 conv=>whnf
 (repeat refine An ?_)
 refine At (Fc e 0 ((x.tokens.length:Int)-1)) rfl (A8 ?_)
 refine ⟨fun hE=>?_,fun hE=>?_⟩<;>conv=>whnf
 ·have hE:Di e 0 ((x.tokens.length:Int)-1)=false:=by simpa using hE
  repeat refine Bd ?_
  refine Ap A0 rfl rfl ?_
  rw [A40 hE]
  exact B1
 have hE:Di e 0 ((x.tokens.length:Int)-1)=true:=by simpa using hE
 have hEr:=Go.Sx.Ah.1 hE
 repeat refine Bd ?_
 (repeat refine An ?_)
 refine Cn (Yg x e Ac) rfl (A8 ?_)
 refine ⟨fun hg=>?_,fun hg=>?_⟩<;>conv=>whnf
 ·have hg:(A9 x e).going=true:=hg
  repeat refine Bd ?_
  refine ⟨fun ha=>?_,fun ha=>?_⟩<;>conv=>whnf
  ·have ha:((A9 x e).at_==0)=true:=ha
   repeat refine Bd ?_
   refine ⟨fun hb=>?_,fun hb=>?_⟩<;>conv=>whnf
   ·have hb:(A9 x e).black=false:=by simpa [A9] using hb
    repeat refine Bd ?_
    refine ⟨fun hk=>?_,fun hk=>?_⟩<;>conv=>whnf
    ·have hk:(Bc x e).2=true:=hk
     repeat refine Bd ?_
     refine At (Pd (Bc x e).1 e Ac) rfl (A8 ?_)
     repeat refine Bd ?_
     refine Ap A0 rfl rfl ?_
     rw [A8t hE hg ha hb hk]
     exact B1
    have hk:(Bc x e).2=false:=hk
    repeat refine Bd ?_
    refine Ap A0 rfl rfl ?_
    rw [A44 hk]
    exact B1
   have hb:(A9 x e).black=true:=by simpa [A9] using hb
   repeat refine Bd ?_
   refine Ap A0 rfl rfl ?_
   rw [A43 hb]
   exact B1
  have ha:((A9 x e).at_==0)=false:=ha
  repeat refine Bd ?_
  refine Ap A0 rfl rfl ?_
  rw [A42 ha]
  exact B1
 have hg:(A9 x e).going=false:=hg
 repeat refine Bd ?_
 refine Ap A0 rfl rfl ?_
 rw [A41 hg]
 exact B1
theorem Y4 (x:A3)(e:Int)(h:x.w≤8000000)(hgo:M6 x):Be Tryz.prog 10 [.agg x.c,.one (vi e)] [.one (vb (F8 x e))]:=by
 have htw:=Uj x e
 have htl:=A3.tokens_le h
 refine B5 A0 false Tryz.func10 rfl Az fun W=>?_
 conv=>whnf
 (repeat refine An ?_)
 refine At (I3 e 0 ((x.tokens.length:Int)-1)) rfl (A8 ?_)
 refine ⟨fun hE=>?_,fun hE=>?_⟩<;>conv=>whnf
 ·have hE:Di e 0 ((x.tokens.length:Int)-1)=false:=by simpa using hE
  repeat refine Bd ?_
  refine Ap A0 rfl rfl ?_
  rw [A40 hE]
  exact B1
 have hE:Di e 0 ((x.tokens.length:Int)-1)=true:=by simpa using hE
 have hEr:=Go.Sx.Ah.1 hE
 repeat refine Bd ?_
 (repeat refine An ?_)
 refine ⟨fun hg=>?_,fun hg=>?_⟩<;>conv=>whnf
 ·have hg:(A9 x e).going=false:=by simpa [A9] using hg
  repeat refine Bd ?_
  refine Ap A0 rfl rfl ?_
  rw [A41 hg]
  exact B1
 have hg:(A9 x e).going=true:=by simpa [A9] using hg
 repeat refine Bd ?_
 refine ⟨fun ha=>?_,fun ha=>?_⟩<;>conv=>whnf
 ·have ha:((A9 x e).at_==0)=false:=by simpa [A9] using ha
  repeat refine Bd ?_
  refine Ap A0 rfl rfl ?_
  rw [A42 ha]
  exact B1
 have ha:((A9 x e).at_==0)=true:=by simpa [A9] using ha
 repeat refine Bd ?_
 refine ⟨fun hb=>?_,fun hb=>?_⟩<;>conv=>whnf
 ·have hb:(A9 x e).black=true:=hb
  repeat refine Bd ?_
  refine Ap A0 rfl rfl ?_
  rw [A43 hb]
  exact B1
 have hb:(A9 x e).black=false:=hb
 repeat refine Bd ?_
 refine Cn (Y5 x e Ac hgo) rfl (A8 ?_)
 refine ⟨fun hk=>?_,fun hk=>?_⟩<;>conv=>whnf
 ·have hk:(Bc x e).2=true:=hk
  repeat refine Bd ?_
  refine At (We (Bc x e).1 e Ac) rfl (A8 ?_)
  repeat refine Bd ?_
  refine Ap A0 rfl rfl ?_
  rw [A8t hE hg ha hb hk]
  exact B1
 have hk:(Bc x e).2=false:=hk
 repeat refine Bd ?_
 refine Ap A0 rfl rfl ?_
 rw [A44 hk]
 exact B1
def A3q:Go.Shelf.Ren:=⟨fun| 171=>93| 243=>132| 246=>171| 283=>196| 284=>197| 285=>198| 286=>199| 129=>211| 317=>210| 318=>212| 319=>213| 320=>214| 337=>218| 338=>219|n=>n,fun| 3=>3| 9=>9| 2=>2| 4=>4| 171=>198| 0=>0| 53=>199| 37=>22| 5=>5| 173=>202| 212=>214| 51=>215| 20=>20| 213=>216| 46=>131| 232=>221| 233=>222|n=>n,fun| 17=>0| 18=>2| 19=>3|n=>n⟩
theorem B5v:Go.Proofs.LaysM.n171 Tryz.prog A3q:= {
 mixed:=by kernel_rfl,
 f129:=Tryz.func211.trans (congrArg some A7),
 f171:=Tryz.func93.trans (congrArg some A7),
 f243:=Tryz.func132.trans (congrArg some A7),
 f246:=Tryz.func171.trans (congrArg some A7),
 f283:=Tryz.func196.trans (congrArg some A7),
 f284:=Tryz.func197.trans (congrArg some A7),
 f285:=Tryz.func198.trans (congrArg some A7),
 f286:=Tryz.func199.trans (congrArg some A7),
 f317:=Tryz.func210.trans (congrArg some A7),
 f318:=Tryz.func212.trans (congrArg some A7),
 f319:=Tryz.func213.trans (congrArg some A7),
 f320:=Tryz.func214.trans (congrArg some A7),
 f337:=Tryz.func218.trans (congrArg some A7),
 f338:=Tryz.func219.trans (congrArg some A7),
 t0:=Tryz.underlying0,
 a0:=Tryz.isAgg0,
 z0:=Tryz.sizeOf0,
 v0:=Tryz.zeroValue0,
 t2:=Tryz.underlying2,
 a2:=Tryz.isAgg2,
 z2:=Tryz.sizeOf2,
 v2:=Tryz.zeroValue2,
 t3:=Tryz.underlying3,
 a3:=Tryz.isAgg3,
 z3:=Tryz.sizeOf3,
 v3:=Tryz.zeroValue3,
 t4:=Tryz.underlying4,
 a4:=Tryz.isAgg4,
 z4:=Tryz.sizeOf4,
 v4:=Tryz.zeroValue4,
 t5:=Tryz.underlying5,
 a5:=Tryz.isAgg5,
 z5:=Tryz.sizeOf5,
 v5:=Tryz.zeroValue5,
 t9:=Tryz.underlying9,
 a9:=Tryz.isAgg9,
 z9:=Tryz.sizeOf9,
 v9:=Tryz.zeroValue9,
 t20:=Tryz.underlying20,
 a20:=Tryz.isAgg20,
 z20:=Tryz.sizeOf20,
 v20:=Tryz.zeroValue20,
 t37:=Tryz.underlying22,
 a37:=Tryz.isAgg22,
 z37:=Tryz.sizeOf22,
 v37:=Tryz.zeroValue22,
 t46:=Tryz.underlying131,
 a46:=Tryz.isAgg131,
 z46:=Tryz.sizeOf131,
 v46:=Tryz.zeroValue131,
 t51:=Tryz.underlying215,
 a51:=Tryz.isAgg215,
 z51:=Tryz.sizeOf215,
 v51:=Tryz.zeroValue215,
 t53:=Tryz.underlying199,
 a53:=Tryz.isAgg199,
 z53:=Tryz.sizeOf199,
 v53:=Tryz.zeroValue199,
 t171:=Tryz.underlying198,
 a171:=Tryz.isAgg198,
 z171:=Tryz.sizeOf198,
 v171:=Tryz.zeroValue198,
 t173:=Tryz.underlying202,
 a173:=Tryz.isAgg202,
 z173:=Tryz.sizeOf202,
 v173:=Tryz.zeroValue202,
 t212:=Tryz.underlying214,
 a212:=Tryz.isAgg214,
 z212:=Tryz.sizeOf214,
 v212:=Tryz.zeroValue214,
 t213:=Tryz.underlying216,
 a213:=Tryz.isAgg216,
 z213:=Tryz.sizeOf216,
 t232:=Tryz.underlying221,
 a232:=Tryz.isAgg221,
 z232:=Tryz.sizeOf221,
 v232:=Tryz.zeroValue221,
 t233:=Tryz.underlying222,
 a233:=Tryz.isAgg222,
 z233:=Tryz.sizeOf222,
 v233:=Tryz.zeroValue222,
 g17:=by kernel_rfl,
 g18:=by kernel_rfl,
 g19:=by kernel_rfl,
 i0:=by kernel_rfl,
 i2:=by kernel_rfl,
 i3:=by kernel_rfl,
 i4:=by kernel_rfl,
 i5:=by kernel_rfl,
 i9:=by kernel_rfl,
 i20:=by kernel_rfl,
 i37:=by kernel_rfl,
 i46:=by kernel_rfl,
 i51:=by kernel_rfl,
 i53:=by kernel_rfl,
 i171:=by kernel_rfl,
 i173:=by kernel_rfl,
 i212:=by kernel_rfl,
 i232:=by kernel_rfl,
 i233:=by kernel_rfl,
 m17:=by kernel_rfl,
 m18:=by kernel_rfl,
 m19:=by kernel_rfl}
def Tab (w:World):Prop:=Lib.TabIs Tryz.prog w "internal/strconv.uint64pow10" .u64 Lib.pow10Tab
theorem Pg:B1j Tab:=fun _ _ hb h=>B0y hb h
theorem B9a (n:Int)(h:Eu .i64 n):Kk Tryz.prog Tab 93 [.one (vi n)] [.one (vs (dec n))]:=by
 refine ⟨⟨_,Tryz.func93,by decide,rfl⟩,fun w hw vs hl hv=>?_⟩
 match vs,hl with
 | [v],_=>
  have h0:v= .int .i64 n:=B6v (A:=fun _=>False) (hv 0 _ rfl)
  subst h0
  refine (Any.strconv_Itoa B5v n h.1 h.2 w hw).mono ?_
  rintro e w' ⟨rfl,k,os,rfl⟩
  exact A9u (A5g _ _ _) rfl
theorem Tw (n:Int)(h:Eu .i64 n):Kk Tryz.prog Tab 59 [.one (vi n)] [.one (vs (dec n))]:=by
 refine A0z A0 false Tryz.func59 rfl Az fun W hW=>?_
 conv=>whnf
 refine Vo (B9a n h) Pg hW rfl (A8 ?_)
 exact Ap A0 rfl rfl ⟨rfl,trivial⟩
theorem B2m (z:Int)(d:Nat)(hz:z=d)(h:d<10):Be Tryz.prog 94 [.one (vi z)] [.one (vy (UInt8.ofNat (48+d)))]:=by
 refine B5 A0 false Tryz.func94 rfl Az fun W=>?_
 conv=>whnf
 refine F4 (fun h'=>?_) fun h'=>?_<;>conv=>whnf
 ·(repeat refine An ?_)
  exact Ap A0 rfl rfl ⟨congrArg Af.val (congrArg (Value.int .u8) (by rw [hz,UInt8.toNat_ofNat'];omega)),trivial⟩
 omega
theorem Xj (σ:Int)(hσ:σ=1∨σ= -1)(u:Nat)(hu:0<u)(hb:u≤9223372036854775808)(hn:Eu .i64 (σ * u)):Be Tryz.prog 60 [.one (vi (σ * u))] [.one (vs (dec (σ * u)))]:=by
 have hd0:=A9g hu
 refine B5 A0 false Tryz.func60 rfl Az fun W=>?_
 conv=>whnf
 refine ⟨fun h0=>have h0:=eq_of_beq h0;?_,fun h0=>have h0:=beq_eq_false_iff_ne.1 h0;?_⟩<;>conv=>whnf
 ·exfalso;rcases hσ with rfl|rfl<;>omega
 refine C0 A0 false [] (fun k:Nat=>[(0,.c (vi (σ * Ia u k))),(4,.c (vs ⟨(Yc u k).toArray⟩))]) (fun k=>[]) (fun k=>[])
  (fun k=>k≤19∧B41 u k) (fun k=>19-k) 0 ⟨Nat.zero_le _,by first|rfl|assumption|simp⟩ ⟨G3,G3,trivial⟩ trivial trivial Co A7 (fun k hk=>?_)
 obtain ⟨hk,he⟩:=hk
 conv=>whnf
 refine ⟨fun hq=>have hq:=bne_iff_ne.1 hq;?_,fun hq=>have hq:=bne_eq_false_iff_eq.1 hq;?_⟩<;>conv=>whnf
 ·have hm:0<Ia u k:=by
   by_cases h:0<Ia u k
   ·exact h
   exfalso;apply hq;rw [show Ia u k=0 by omega];simp
  have hk':=B78 hb hm
  have hr:=B8m hσ (Ia u k)
  have hdv:=B8l hσ (Ia u k)
  have ho:=hn.1
  have ho:=hn.2
  have hss:=A4k u k
  have hle:=B55 u k
  have hmm:=Nat.mod_lt (Ia u k) (show 10>0 by decide)
  (repeat refine An ?_)
  refine F4 (fun hneg=>?_) fun hneg=>?_<;>conv=>whnf
  ·refine ⟨by (show _∧_;rcases hσ with rfl|rfl<;>omega),?_⟩
   conv=>whnf
   refine At (B2m (0-((σ * Ia u k).tmod 10)) (Ia u k % 10) (by rcases hσ with rfl|rfl<;>omega) hmm) rfl (A8 ?_)
   refine Eo 0 (U8 [UInt8.ofNat (48+Ia u k % 10)]) rfl (A2v rfl) ?_
   refine B9r A0 rfl rfl rfl rfl rfl rfl rfl rfl rfl [UInt8.ofNat (48+Ia u k % 10)] rfl (A8 ?_)
   (repeat refine An ?_)
   refine ⟨by (show _∧_;rw [hdv];rcases hσ with rfl|rfl<;>omega),?_⟩
   conv=>whnf
   refine B8 [] (k+1) ⟨by omega,Yy he hm⟩ Ac ⟨congrArg (fun z=>AV.c (vi z)) hdv,congrArg (fun z=>AV.c (vs z)) (A0l _ _),trivial⟩ trivial trivial A7 Co A7
  refine At (B2m ((σ * Ia u k).tmod 10) (Ia u k % 10) (by rcases hσ with rfl|rfl<;>omega) hmm) rfl (A8 ?_)
  refine Eo 0 (U8 [UInt8.ofNat (48+Ia u k % 10)]) rfl (A2v rfl) ?_
  refine B9r A0 rfl rfl rfl rfl rfl rfl rfl rfl rfl [UInt8.ofNat (48+Ia u k % 10)] rfl (A8 ?_)
  (repeat refine An ?_)
  refine ⟨by (show _∧_;rw [hdv];rcases hσ with rfl|rfl<;>omega),?_⟩
  conv=>whnf
  refine B8 [] (k+1) ⟨by omega,Yy he hm⟩ Ac ⟨congrArg (fun z=>AV.c (vi z)) hdv,congrArg (fun z=>AV.c (vs z)) (A0l _ _),trivial⟩ trivial trivial A7 Co A7
 have hm:Ia u k=0:=by rcases hσ with rfl|rfl<;>omega
 have hd:Lib.decDigits u=Yc u k:=by
  rcases he with ⟨h,_⟩|⟨_,h⟩
  ·omega
  exact h
 have hss:=A4k u k
 refine ⟨fun hb'=>?_,fun hb'=>?_⟩<;>conv=>whnf
 ·(repeat refine An ?_)
  refine Ap A0 rfl rfl ⟨?_,trivial⟩
  have hs:σ * (u:Int)<0:=of_decide_eq_true hb'
  exact congrArg vs (by rw [dec,Lib.itoa,if_pos hs,←hd,show (σ * (u:Int)).natAbs=u by rcases hσ with rfl|rfl<;>omega];exact A0l _ _)
 refine Ap A0 rfl rfl ⟨?_,trivial⟩
 have hs:¬ σ * (u:Int)<0:=of_decide_eq_false hb'
 exact congrArg vs (by rw [dec,Lib.itoa,if_neg hs,←hd,show (σ * (u:Int)).toNat=u by rcases hσ with rfl|rfl<;>omega])
theorem Uc (n:Int)(h:Eu .i64 n):Be Tryz.prog 60 [.one (vi n)] [.one (vs (dec n))]:=by
 rcases Int.lt_trichotomy n 0 with h0|rfl|h0
 ·have e:n=(-1) * ((n.natAbs:Nat):Int):=by omega
  have:=Xj (-1) (.inr rfl) n.natAbs Ac (by have:=h.1;omega) (by rw [←e];exact h)
  rwa [←e] at this
 ·refine B5 A0 false Tryz.func60 rfl Az fun W=>?_
  conv=>whnf
  refine ⟨fun h0=>have h0:=eq_of_beq h0;?_,fun h0=>have h0:=beq_eq_false_iff_ne.1 h0;?_⟩<;>conv=>whnf
  ·exact Ap A0 rfl rfl ⟨congrArg vs (by rw [dec,Lib.itoa,if_neg Az,Lib.decDigits,dif_pos Az];rfl),trivial⟩
  exact absurd rfl h0
 have e:n=1 * ((n.natAbs:Nat):Int):=by omega
 have:=Xj 1 (.inl rfl) n.natAbs Ac (by have:=h.2;omega) (by rw [←e];exact h)
 rwa [←e] at this
end Go.Proofs.YtdendlkeiaccpaaGreatDoor
