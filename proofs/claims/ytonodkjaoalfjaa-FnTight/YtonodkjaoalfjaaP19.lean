/- Part 19 of the proof that each of the laws FnTight returns true for every input. No conditions. -/
import Derived.Test.YtonodkjaoalfjaaP18
import Derived.Test.YtonodkjaoalfjaaP4
import Derived.Test.YtonodkjaoalfjaaP6

set_option linter.unusedSimpArgs false
set_option linter.unusedVariables false
set_option maxRecDepth 100000
namespace Go.Proofs.Ytonodkjaoalfjaa
open Go.Sx
theorem B0e {α:Type} [Inhabited α] {l:List α}{x:α}(h:x∈l):∃i,i<l.length∧l.getD i default=x:=by
 obtain ⟨i,hi,rfl⟩:=List.getElem_of_mem h
 exact ⟨i,hi,by simp only [List.getD,List.getElem?_eq_getElem hi,Option.getD_some]⟩
theorem B3p {α:Type}(f:Nat→List α)(R:α→α→Prop)(h1:∀e,(f e).Pairwise R)(h2:∀e e',e<e'→∀x∈f e,∀y∈f e',R x y):∀n,((List.range n).flatMap f).Pairwise R
 | 0=>List.Pairwise.nil
 |n+1=>by
  rw [Hm]
  refine List.pairwise_append.2 ⟨B3p f R h1 h2 n,h1 n,fun x hx y hy=>?_⟩
  obtain ⟨e,he,hx⟩:=List.mem_flatMap.1 hx
  exact h2 e n (List.mem_range.1 he) x hx y hy
theorem A9m {n:Int}{l:List Ac}{w:Nat}{r:Ac}(h:r∈A6t n l w):r∈l∧De r.key n=w:=by
 simp only [A6t,List.mem_flatMap,List.mem_filter] at h
 obtain ⟨e,_,h,hw⟩:=h
 simp only [G7,List.mem_filter] at h
 exact ⟨h.1,eq_of_beq hw⟩
theorem B1g (n:Int)(l:List Ac)(w:Nat):(A6t n l w).Pairwise fun a b=>a.stamp.epoch≤b.stamp.epoch:=by
 have hm:∀(e:Nat) (r:Ac),r∈((G7 l e).filter fun r=>De r.key n==w)→r.stamp.epoch=e:=fun e r hr=>by
  have:=(List.mem_filter.1 hr).1
  simp only [G7,List.mem_filter] at this
  exact eq_of_beq this.2
 refine B3p _ _ (fun e=>?_) (fun e e' hlt x hx y hy=>?_) 4
 ·rw [List.pairwise_iff_getElem]
  intro i j hi hj _
  have a:=hm e _ (List.getElem_mem hi)
  have b:=hm e _ (List.getElem_mem hj)
  omega
 ·have a:=hm e x hx
  have b:=hm e' y hy
  omega
theorem B46 {l:List Ac}(h1:∀r∈l,r.op=0∧r.stamp.turn=0)(h2:l.Pairwise fun a b=>a.stamp.epoch≤b.stamp.epoch):Za l:=fun i hi=>by
 have e:∀j,(h:j<l.length)→l.getD j default=l[j]:=fun j h=>by simp [List.getD,h]
 have a:=h1 _ (List.getElem_mem hi)
 refine ⟨by rw [e i hi];exact a.1,by rw [e i hi];exact a.2,fun h0=>?_⟩
 rw [e i hi,e (i-1) Ag]
 exact List.pairwise_iff_getElem.1 h2 (i-1) i Ag hi Ag
theorem B21:∀(l:List Int),(∀x∈l,x=0)→l.sum=0
 | [],_=>rfl
 |x::l,h=>by
  rw [List.sum_cons,h x (List.mem_cons_self ..),B21 l (fun y hy=>h y (List.mem_cons_of_mem _ hy))]
  rfl
theorem B3n:∀{l:List Nat} {x:Nat},x∈l→x≤l.sum
 |y::l,x,h=>by
  rw [List.sum_cons]
  rcases List.mem_cons.1 h with rfl|h
  ·omega
  ·have:=B3n h
   omega
theorem A84:∀(l:List Nat),(∀x∈l,x=0)→l.sum=0
 | [],_=>rfl
 |x::l,h=>by
  rw [List.sum_cons,h x (List.mem_cons_self ..),A84 l (fun y hy=>h y (List.mem_cons_of_mem _ hy))]
theorem B0q {g:An}{l:List Ac}(hN:Rs g l)(i:Nat)(hi:i<(Ej g l).1.workers.length):wk (Ej g l).1 i=⟨[],[],A6t g.workers l i,[],List.replicate 4 0,List.replicate 4 false,List.replicate 4 false,[]⟩:=by
 unfold Ej at *
 rw [if_pos hN] at *
 unfold wk D6 at *
 simp only [List.length_map,List.length_range] at hi
 simp only [List.getD,List.getElem?_map,List.getElem?_range hi,Option.map_some,Option.getD_some]
theorem B06 {g:An}{l:List Ac}(hN:Rs g l):((Ej g l).1.workers.length:Int)=g.workers:=by
 have:=hN.1.2.1
 unfold Ej D6
 rw [if_pos hN]
 simp only [List.length_map,List.length_range]
 omega
theorem A91 {g:An}{l:List Ac}(hN:Rs g l):∀x∈(Ej g l).1.links,x=Gm g.cap:=by
 unfold Ej
 rw [if_pos hN]
 exact fun x hx=>List.eq_of_mem_replicate hx
theorem B2p {g:An}{l:List Ac}(hN:Rs g l):∀x∈(Ej g l).1.tokens,x=default:=by
 unfold Ej
 rw [if_pos hN]
 exact fun x hx=>List.eq_of_mem_replicate hx
theorem B48 {g:An}{l:List Ac}(hN:Rs g l):Ar (Ej g l).1:=by
 have hlen:=B06 hN
 have hwk:=B0q hN
 have hlk:=A91 hN
 have htk:=B2p hN
 have hg:(Ej g l).1.graph=g:=by unfold Ej;rw [if_pos hN]
 have hw:=hN.1.2.1
 have hc:=hN.1.2.2.1
 refine ⟨⟨by rw [hg];exact hN.1,by rw [hg];exact hlen,?_,?_⟩,fun w hw'=>?_,fun i hi=>?_,fun t ht=>?_,fun x hx=>?_⟩
 ·rw [hg]
  unfold Ej
  rw [if_pos hN]
  simp only [List.length_replicate]
  obtain ⟨n,hn⟩:∃n:Nat,g.workers=n:=⟨g.workers.toNat,by omega⟩
  rw [hn]
  simp only [Int.toNat_natCast]
  exact Int.natCast_mul n n
 ·unfold Ej
  rw [if_pos hN]
  rfl
 ·obtain ⟨i,hi,rfl⟩:=B0e hw'
  have:(Ej g l).1.workers.getD i default=wk (Ej g l).1 i:=rfl
  rw [this,hwk i hi,hg]
  refine ⟨⟨fun r hr=>(by cases hr),fun r hr=>(by cases hr),fun r hr=>?_,fun i hi=>absurd hi (Nat.not_lt_zero i)⟩,⟨rfl,rfl,rfl⟩,?_,fun n hn=>?_,fun i hi=>absurd hi (Nat.not_lt_zero i)⟩
  ·have:=hN.2.2 r (A9m hr).1
   have:=hN.1.1
   exact ⟨‹_∧_∧_›.1,by omega⟩
  ·exact B46 (fun r hr=>(hN.2.2 r (A9m hr).1).2) (B1g _ _ _)
  ·rw [List.eq_of_mem_replicate hn]
   unfold Gu
   omega
 ·have:=hlk _ (B9 (d:=default) hi)
  unfold Lr
  rw [this]
  have hb:Dn g.cap 1 4=g.cap:=by unfold Dn;rw [if_neg Ag,if_neg Ag]
  refine ⟨⟨?_,fun r hr=>(by cases hr)⟩,by unfold Se;exact ⟨by unfold Gm;rw [hb,hg],fun r hr=>(by cases hr),fun _=>rfl⟩⟩
  unfold Sf Gm
  rw [hb]
  simp only [List.length_nil]
  omega
 ·rw [htk t ht,hg]
  have:Nl g.workers default↔(0≤(0:Int)∧(0:Int)≤g.workers-1)∧(false=false→(0:Int)=0)∧(-1000000≤(0:Int)∧(0:Int)≤1000000):=Iff.rfl
  exact this.2 ⟨by omega,fun _=>rfl,by omega⟩
 ·unfold Ej at hx
  rw [if_pos hN] at hx
  cases hx
theorem B4o {g:An}{l:List Ac}(hN:Rs g l):A60 0 (Ej g l).1:=by
 have hlen:=B06 hN
 have hwk:=B0q hN
 have hlk:=A91 hN
 have htk:=B2p hN
 have hok:=B48 hN
 have hnews:(Ej g l).1.news=[]:=by unfold Ej;rw [if_pos hN]
 have htok:∀e:Int,0≤e→e≤3→Ab (Ej g l).1 e=default:=fun e h0 h1=>htk _ (B9 (d:=default) (by have:=hok.1.2.2.2;omega))
 have hsum:∀i,i<(Ej g l).1.workers.length→∀e:Int,0≤e→e≤3→A4j (wk (Ej g l).1 i) e=0:=fun i hi e h0 h1=>by
  rw [hwk i hi]
  have:e=0∨e=1∨e=2∨e=3:=by omega
  rcases this with rfl|rfl|rfl|rfl<;>rfl
 have hdn:∀i,i<(Ej g l).1.workers.length→(wk (Ej g l).1 i).dones=[]:=fun i hi=>by rw [hwk i hi]
 have hnd:∀i,i<(Ej g l).1.workers.length→∀e,En (wk (Ej g l).1 i) e=false:=fun i hi e=>by unfold En;rw [hdn i hi];rfl
 have hl:=A8v hok
 refine ⟨hok,⟨⟨fun x hx=>?_,fun i hi e he=>?_⟩,fun e he=>?_,fun i h1 h2=>?_⟩,fun i hi e h0 h1=>?_,fun e h0 h1=>?_,fun x hx=>?_,fun e h0 h1=>⟨?_,fun hg=>?_,fun hd=>?_⟩⟩
 ·rw [hnews] at hx;cases hx
 ·rw [hnd i hi] at he;cases he
 ·rw [hnd 0 hl] at he;cases he
 ·rw [hnews,hdn i h2];exact Nat.zero_le _
 ·rw [hsum i hi e h0 h1];omega
 ·rw [htok e h0 h1]
  show B0m 0 0 0
  unfold B0m
  omega
 ·rw [hlk x hx]
  show (0:Int)≤(0:Nat)
  omega
 ·unfold A81 A74 A6l
  rw [List.take_length,B21,A84]
  ·rfl
  ·intro x hx
   obtain ⟨y,hy,rfl⟩:=List.mem_map.1 hx
   rw [hlk y hy]
   rfl
  ·intro x hx
   obtain ⟨y,hy,rfl⟩:=List.mem_map.1 hx
   obtain ⟨i,hi,rfl⟩:=B0e hy
   exact hsum i hi e h0 h1
 ·rw [htok e h0 h1] at hg;cases hg
 ·rw [A8f,hnd 0 hl] at hd;cases hd
structure Gb where
 a:Option Addr
 n:Nat
 c:Nat
 b:Nat→Nat
 hb:∀i,b i≤255
 hn:n≤16777216
abbrev Gb.v (d:Gb):Value:= .slice d.a d.n d.c
abbrev Gb.cell (d:Gb):A7:= .sl d.n 1 fun i=>[.val (.int .u8 (d.b i))]
abbrev Gb.pins (d:Gb):List (A7×Value):=[(d.cell,d.v)]
abbrev Gb.cur (d:Gb) (i h:Int):List A7:=[.val d.v,vi i,vi h]
abbrev HT:World→Prop:=fun _=>True
theorem Mp (d:Gb)(i h:Int)(hi:0≤i∧i≤d.n):Dq Try.prog HT 68 d.pins (d.cur i h) [] (fun r:Int×Int×Int=>(0≤r.1∧r.1≤d.n)∧0≤r.2.2∧r.2.2≤255) (fun r=>d.cur r.1 r.2.1) (fun r=>[.one (vi r.2.2)]):=by
 have hn:=d.hn
 refine Ex A0 true Try.func68 rfl Cb fun B b hH hp=>?_
 conv=>whnf
 first|(refine At 2 rfl [0,1,2,3,4,5,6,7,8,9,10,11,12] A6 (go A0 true ?_);conv=>whnf)|(refine At 3 rfl [0,1,2,3,4,5,6,7,8,9] A6 (go A0 true ?_);conv=>whnf)|(refine At 4 rfl [0,1,2,3,4,5,6,7,8,9,10,11,12,13,14] A6 (go A0 true ?_);conv=>whnf)
 refine A7p rfl rfl rfl rfl Cb (fun r=>go A0 true ?_)
 conv=>whnf
 refine A7p rfl rfl rfl rfl Cb (fun r2=>go A0 true ?_)
 conv=>whnf
 refine A75 rfl rfl rfl rfl (fun r3=>go A0 true ?_)
 conv=>whnf
 refine A59 rfl rfl rfl rfl Cb Cb (fun x0 h0 h1=>go A0 true ?_)
 conv=>whnf
 first|(refine At 2 rfl [0,1,2,3,4,5,6,7,8,9,10,11,12] A6 (go A0 true ?_);conv=>whnf)|(refine At 3 rfl [0,1,2,3,4,5,6,7,8,9] A6 (go A0 true ?_);conv=>whnf)|(refine At 4 rfl [0,1,2,3,4,5,6,7,8,9,10,11,12,13,14] A6 (go A0 true ?_);conv=>whnf)
 refine G2 (fun hlt=>?_) fun hlt=>?_<;>conv=>whnf
 ·first|(refine At 2 rfl [0,1,2,3,4,5,6,7,8,9,10,11,12] A6 (go A0 true ?_);conv=>whnf)|(refine At 3 rfl [0,1,2,3,4,5,6,7,8,9] A6 (go A0 true ?_);conv=>whnf)|(refine At 4 rfl [0,1,2,3,4,5,6,7,8,9,10,11,12,13,14] A6 (go A0 true ?_);conv=>whnf)
  refine A7c A0 hp 0 rfl rfl rfl rfl rfl rfl rfl rfl rfl (⟨hi.1,hlt⟩) (go A0 true ?_)
  conv=>whnf
  refine A59 rfl rfl rfl rfl Cb Cb (fun x1 g0 g1=>go A0 true ?_)
  conv=>whnf
  exact C9 A0 (i+1,_,x1) ⟨⟨by omega,by show i+1≤_;omega⟩,g0,g1⟩ rfl rfl rfl rfl ⟨⟨Qq _ _,by show A7.val _=_;rw [show IntKind.i64.wrap (i+1)=i+1 by rw [IntKind.wrap_i64];omega],rfl,trivial⟩,rfl,trivial⟩
 ·exact C9 A0 (i,_,x0) ⟨hi,h0,h1⟩ rfl rfl rfl rfl C1
theorem A50 {i:Int}(h: -9223372036854775808≤i∧i≤9223372036854775807):IntKind.i64.wrap i=i:=by rw [IntKind.wrap_i64];omega
theorem A6c (d:Gb):Ta Try.prog 21 d.pins [.one (.val d.v)] (fun _:Int=>True) (fun h=>d.cur 0 h):=by
 have hn:=d.hn
 refine A16 A0 true Try.func21 rfl Cb fun W hp=>?_
 conv=>whnf
 refine Cc A0 true [] (fun j:Nat×Int=>[(3,.c (vi j.2)),(4,.c (vi j.1))]) (fun j=>[]) (fun j=>[]) (fun j=>(j.1:Int)≤d.n) (fun j=>d.n-j.1) ((0,_)) (Int.natCast_nonneg _) ⟨by first|rfl|simp [Dc,ren2,ren1,ren0],by first|rfl|simp [Dc,ren2,ren1,ren0],trivial⟩ trivial trivial Dg A6 (fun j hj=>?_)
 conv=>whnf
 refine G2 (fun h=>?_) fun h=>?_<;>conv=>whnf
 ·refine Yi (by first|with_reducible rfl|assumption|(simp only [decide_eq_true_eq];omega)|simp) ?_
  conv=>whnf
  refine Yi (by first|with_reducible rfl|assumption|(simp only [decide_eq_true_eq];omega)|simp) ?_
  conv=>whnf
  refine G2 (fun h2=>?_) fun h2=>?_<;>conv=>whnf
  ·refine A7c A0 hp 0 rfl rfl rfl rfl rfl rfl rfl rfl rfl (⟨by omega,h⟩) (go A0 true ?_)
   conv=>whnf
   refine A59 rfl rfl rfl rfl Cb Cb (fun r r0 r1=>go A0 true ?_)
   conv=>whnf
   refine B8 [] ((j.1+1,r)) ((by show ((j.1+1:Nat):Int)≤_;omega)) (by show d.n-(j.1+1)<_;omega) ⟨rfl,(by show AV.c (vi _)=AV.c (vi _);rw [A50 Ag];rfl),trivial⟩ trivial trivial A6 Dg A6
  ·exact A6v A0 j.2 trivial rfl rfl rfl C1
 ·repeat' (first|(refine L9 ?_;conv=>whnf)|(refine La ?_;conv=>whnf)|(refine ⟨fun h=>?_,fun h=>?_⟩<;>conv=>whnf)|(refine He ?_;conv=>whnf)|fail)
  exact A6v A0 j.2 trivial rfl rfl rfl C1
theorem Cv (d:Gb)(i h n:Int)(hi:0≤i∧i≤d.n)(hn:n≤1099511627776):Dq Try.prog HT 46 d.pins (d.cur i h) [.one (vi n)] (fun r:Int×Int×Int=>(0≤r.1∧r.1≤d.n)∧0≤r.2.2∧(n≤0→r.2.2=0)∧(0<n→r.2.2<n)) (fun r=>d.cur r.1 r.2.1) (fun r=>[.one (vi r.2.2)]):=by
 have hdn:=d.hn
 refine Ex A0 false Try.func46 rfl Cb fun B b hH hp=>?_
 conv=>whnf
 refine G2 (fun h0=>?_) fun h0=>?_<;>conv=>whnf
 ·exact C9 A0 (i,h,0) ⟨hi,Int.le_refl _,fun _=>rfl,fun h=>by omega⟩ rfl rfl rfl rfl C1
 ·refine G2 (fun h1=>?_) fun h1=>?_<;>conv=>whnf
  ·refine Cm (Mp d i h hi) hH hp rfl C1 rfl rfl (fun r hr=>go A0 false ?_)
   conv=>whnf
   (repeat refine Ak ?_)
   exact C9 A0 (r.1,r.2.1,r.2.2.tmod n) ⟨hr.1,Int.tmod_nonneg _ hr.2.1,fun h=>by omega,fun h=>Int.tmod_lt_of_pos _ h⟩ rfl rfl rfl rfl C1
  ·refine Cm (Mp d i h hi) hH hp rfl C1 rfl rfl (fun r hr=>go A0 false ?_)
   conv=>whnf
   refine Cm (Mp d r.1 r.2.1 hr.1) hH hp rfl C1 rfl rfl (fun r2 hr2=>go A0 false ?_)
   conv=>whnf
   refine Cm (Mp d r2.1 r2.2.1 hr2.1) hH hp rfl C1 rfl rfl (fun r3 hr3=>go A0 false ?_)
   conv=>whnf
   refine Cm (Mp d r3.1 r3.2.1 hr3.1) hH hp rfl C1 rfl rfl (fun r4 hr4=>go A0 false ?_)
   conv=>whnf
   (repeat refine Ak ?_)
   exact C9 A0 (r4.1,r4.2.1,(r.2.2 * 16777216+r2.2.2 * 65536+r3.2.2 * 256+r4.2.2).tmod n) ⟨hr4.1,Int.tmod_nonneg _ Ag,fun h=>by omega,fun h=>Int.tmod_lt_of_pos _ h⟩ rfl rfl rfl rfl C1
theorem A4p (d:Gb)(i h n:Int)(hi:0≤i∧i≤d.n)(hn:n≤1099511627776):Dq Try.prog HT 47 d.pins (d.cur i h) [.one (vi n)] (fun r:Int×Int×Bool=>0≤r.1∧r.1≤d.n) (fun r=>d.cur r.1 r.2.1) (fun r=>[.one (vb r.2.2)]):=by
 refine Ex A0 false Try.func47 rfl Cb fun B b hH hp=>?_
 conv=>whnf
 refine Cm (Cv d i h n hi hn) hH hp rfl C1 rfl rfl (fun r hr=>go A0 false ?_)
 conv=>whnf
 exact C9 A0 (r.1,r.2.1,_) hr.1 rfl rfl rfl rfl C1
theorem Wm (d:Gb)(i h:Int)(xs:List Int)(hi:0≤i∧i≤d.n)(hx:0<xs.length∧xs.length≤16777216):Dq Try.prog HT 69 d.pins (d.cur i h) [.one (Ds xs)] (fun r:Int×Int×Nat=>(0≤r.1∧r.1≤d.n)∧r.2.2<xs.length) (fun r=>d.cur r.1 r.2.1) (fun r=>[.one (vi (xs.getD r.2.2 0))]):=by
 refine Ex A0 false Try.func69 rfl Cb fun B b hH hp=>?_
 conv=>whnf
 refine Cm (Cv d i h xs.length hi Ag) hH hp rfl C1 rfl rfl (fun r hr=>go A0 false ?_)
 conv=>whnf
 (repeat refine Ak ?_)
 exact C9 A0 (r.1,r.2.1,r.2.2.toNat) ⟨hr.1,by have:=hr.2.2.2 Ag;show r.2.2.toNat<_;omega⟩ rfl rfl rfl rfl C1
end Go.Proofs.Ytonodkjaoalfjaa
