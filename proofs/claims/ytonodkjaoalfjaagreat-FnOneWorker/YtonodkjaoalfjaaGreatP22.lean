/- Part 22 of the proof that each of the laws FnOneWorker returns true for every input. No conditions. -/
import Derived.Test.YtonodkjaoalfjaaGreatP21
import Derived.Test.YtonodkjaoalfjaaGreatP4
import Derived.Test.YtonodkjaoalfjaaGreatP6

set_option linter.unusedSimpArgs false
set_option linter.unusedVariables false
set_option maxRecDepth 100000
namespace Go.Proofs.YtonodkjaoalfjaaGreat
open Go.Sx
theorem T9 {α:Type} [Inhabited α] {l:List α}{x:α}(h:x∈l):∃i,i<l.length∧l.getD i default=x:=by
 obtain ⟨i,hi,rfl⟩:=List.getElem_of_mem h
 exact ⟨i,hi,by simp only [List.getD,List.getElem?_eq_getElem hi,Option.getD_some]⟩
theorem A83 {α:Type}(f:Nat→List α)(R:α→α→Prop)(h1:∀e,(f e).Pairwise R)(h2:∀e e',e<e'→∀x∈f e,∀y∈f e',R x y):∀n,((List.range n).flatMap f).Pairwise R
 | 0=>List.Pairwise.nil
 |n+1=>by
  rw [Hj]
  refine List.pairwise_append.2 ⟨A83 f R h1 h2 n,h1 n,fun x hx y hy=>?_⟩
  obtain ⟨e,he,hx⟩:=List.mem_flatMap.1 hx
  exact h2 e n (List.mem_range.1 he) x hx y hy
theorem Mm {n:Int}{l:List A5}{w:Nat}{r:A5}(h:r∈Nr n l w):r∈l∧Cf r.key n=w:=by
 simp only [Nr,List.mem_flatMap,List.mem_filter] at h
 obtain ⟨e,_,h,hw⟩:=h
 simp only [Bs,List.mem_filter] at h
 exact ⟨h.1,eq_of_beq hw⟩
theorem Y7 (n:Int)(l:List A5)(w:Nat):(Nr n l w).Pairwise fun a b=>a.stamp.epoch≤b.stamp.epoch:=by
 have hm:∀(e:Nat) (r:A5),r∈((Bs l e).filter fun r=>Cf r.key n==w)→r.stamp.epoch=e:=fun e r hr=>by
  have:=(List.mem_filter.1 hr).1
  simp only [Bs,List.mem_filter] at this
  exact eq_of_beq this.2
 refine A83 _ _ (fun e=>?_) (fun e e' hlt x hx y hy=>?_) 4
 ·rw [List.pairwise_iff_getElem]
  intro i j hi hj _
  have a:=hm e _ (List.getElem_mem hi)
  have b:=hm e _ (List.getElem_mem hj)
  omega
 ·have a:=hm e x hx
  have b:=hm e' y hy
  omega
theorem B6l {l:List A5}(h1:∀r∈l,r.op=0∧r.stamp.turn=0)(h2:l.Pairwise fun a b=>a.stamp.epoch≤b.stamp.epoch):A5v l:=fun i hi=>by
 have e:∀j,(h:j<l.length)→l.getD j default=l[j]:=fun j h=>by simp [List.getD,h]
 have a:=h1 _ (List.getElem_mem hi)
 refine ⟨by rw [e i hi];exact a.1,by rw [e i hi];exact a.2,fun h0=>?_⟩
 rw [e i hi,e (i-1) Ac]
 exact List.pairwise_iff_getElem.1 h2 (i-1) i Ac hi Ac
theorem A5h:∀(l:List Int),(∀x∈l,x=0)→l.sum=0
 | [],_=>rfl
 |x::l,h=>by
  rw [List.sum_cons,h x (List.mem_cons_self ..),A5h l (fun y hy=>h y (List.mem_cons_of_mem _ hy))]
  rfl
theorem A1d:∀{l:List Nat} {x:Nat},x∈l→x≤l.sum
 |y::l,x,h=>by
  rw [List.sum_cons]
  rcases List.mem_cons.1 h with rfl|h
  ·omega
  ·have:=A1d h
   omega
theorem Q3:∀(l:List Nat),(∀x∈l,x=0)→l.sum=0
 | [],_=>rfl
 |x::l,h=>by
  rw [List.sum_cons,h x (List.mem_cons_self ..),Q3 l (fun y hy=>h y (List.mem_cons_of_mem _ hy))]
theorem Pv {g:Ad}{l:List A5}(hN:K6 g l)(i:Nat)(hi:i<(Ah g l).1.workers.length):wk (Ah g l).1 i=⟨[],[],Nr g.workers l i,[],List.replicate 4 0,List.replicate 4 false,List.replicate 4 false,[]⟩:=by
 unfold Ah at *
 rw [if_pos hN] at *
 unfold wk E8 at *
 simp only [List.length_map,List.length_range] at hi
 simp only [List.getD,List.getElem?_map,List.getElem?_range hi,Option.map_some,Option.getD_some]
theorem S3 {g:Ad}{l:List A5}(hN:K6 g l):((Ah g l).1.workers.length:Int)=g.workers:=by
 have:=hN.1.2.1
 unfold Ah E8
 rw [if_pos hN]
 simp only [List.length_map,List.length_range]
 omega
theorem P4 {g:Ad}{l:List A5}(hN:K6 g l):∀x∈(Ah g l).1.links,x=Gv g.cap:=by
 unfold Ah
 rw [if_pos hN]
 exact fun x hx=>List.eq_of_mem_replicate hx
theorem A34 {g:Ad}{l:List A5}(hN:K6 g l):∀x∈(Ah g l).1.tokens,x=default:=by
 unfold Ah
 rw [if_pos hN]
 exact fun x hx=>List.eq_of_mem_replicate hx
theorem B6v {g:Ad}{l:List A5}(hN:K6 g l):Ap (Ah g l).1:=by
 have hlen:=S3 hN
 have hwk:=Pv hN
 have hlk:=P4 hN
 have htk:=A34 hN
 have hg:(Ah g l).1.graph=g:=by unfold Ah;rw [if_pos hN]
 have hw:=hN.1.2.1
 have hc:=hN.1.2.2.1
 refine ⟨⟨by rw [hg];exact hN.1,by rw [hg];exact hlen,?_,?_⟩,fun w hw'=>?_,fun i hi=>?_,fun t ht=>?_,fun x hx=>?_⟩
 ·rw [hg]
  unfold Ah
  rw [if_pos hN]
  simp only [List.length_replicate]
  obtain ⟨n,hn⟩:∃n:Nat,g.workers=n:=⟨g.workers.toNat,by omega⟩
  rw [hn]
  simp only [Int.toNat_natCast]
  exact Int.natCast_mul n n
 ·unfold Ah
  rw [if_pos hN]
  rfl
 ·obtain ⟨i,hi,rfl⟩:=T9 hw'
  have:(Ah g l).1.workers.getD i default=wk (Ah g l).1 i:=rfl
  rw [this,hwk i hi,hg]
  refine ⟨⟨fun r hr=>(by cases hr),fun r hr=>(by cases hr),fun r hr=>?_,fun i hi=>absurd hi (Nat.not_lt_zero i)⟩,⟨rfl,rfl,rfl⟩,?_,fun n hn=>?_,fun i hi=>absurd hi (Nat.not_lt_zero i)⟩
  ·have:=hN.2.2 r (Mm hr).1
   have:=hN.1.1
   exact ⟨‹_∧_∧_›.1,by omega⟩
  ·exact B6l (fun r hr=>(hN.2.2 r (Mm hr).1).2) (Y7 _ _ _)
  ·rw [List.eq_of_mem_replicate hn]
   unfold Jy
   omega
 ·have:=hlk _ (Aq (d:=default) hi)
  unfold Od
  rw [this]
  have hb:En g.cap 1 4=g.cap:=by unfold En;rw [if_neg Ac,if_neg Ac]
  refine ⟨⟨?_,fun r hr=>(by cases hr)⟩,by unfold Uw;exact ⟨by unfold Gv;rw [hb,hg],fun r hr=>(by cases hr),fun _=>rfl⟩⟩
  unfold Tl Gv
  rw [hb]
  simp only [List.length_nil]
  omega
 ·rw [htk t ht,hg]
  have:O7 g.workers default↔(0≤(0:Int)∧(0:Int)≤g.workers-1)∧(false=false→(0:Int)=0)∧(-1000000≤(0:Int)∧(0:Int)≤1000000):=Iff.rfl
  exact this.2 ⟨by omega,fun _=>rfl,by omega⟩
 ·unfold Ah at hx
  rw [if_pos hN] at hx
  cases hx
theorem A33 {g:Ad}{l:List A5}(hN:K6 g l):Et 0 (Ah g l).1:=by
 have hlen:=S3 hN
 have hwk:=Pv hN
 have hlk:=P4 hN
 have htk:=A34 hN
 have hok:=B6v hN
 have hnews:(Ah g l).1.news=[]:=by unfold Ah;rw [if_pos hN]
 have htok:∀e:Int,0≤e→e≤3→A4 (Ah g l).1 e=default:=fun e h0 h1=>htk _ (Aq (d:=default) (by have:=hok.1.2.2.2;omega))
 have hsum:∀i,i<(Ah g l).1.workers.length→∀e:Int,0≤e→e≤3→Dx (wk (Ah g l).1 i) e=0:=fun i hi e h0 h1=>by
  rw [hwk i hi]
  have:e=0∨e=1∨e=2∨e=3:=by omega
  rcases this with rfl|rfl|rfl|rfl<;>rfl
 have hdn:∀i,i<(Ah g l).1.workers.length→(wk (Ah g l).1 i).dones=[]:=fun i hi=>by rw [hwk i hi]
 have hnd:∀i,i<(Ah g l).1.workers.length→∀e,B1 (wk (Ah g l).1 i) e=false:=fun i hi e=>by unfold B1;rw [hdn i hi];rfl
 have hl:=Ki hok
 refine ⟨hok,⟨⟨fun x hx=>?_,fun i hi e he=>?_⟩,fun e he=>?_,fun i h1 h2=>?_⟩,fun i hi e h0 h1=>?_,fun e h0 h1=>?_,fun x hx=>?_,fun e h0 h1=>⟨?_,fun hg=>?_,fun hd=>?_⟩⟩
 ·rw [hnews] at hx;cases hx
 ·rw [hnd i hi] at he;cases he
 ·rw [hnd 0 hl] at he;cases he
 ·rw [hnews,hdn i h2];exact Nat.zero_le _
 ·rw [hsum i hi e h0 h1];omega
 ·rw [htok e h0 h1]
  show Ue 0 0 0
  unfold Ue
  omega
 ·rw [hlk x hx]
  show (0:Int)≤(0:Nat)
  omega
 ·unfold Ln Ep Ev
  rw [List.take_length,A5h,Q3]
  ·rfl
  ·intro x hx
   obtain ⟨y,hy,rfl⟩:=List.mem_map.1 hx
   rw [hlk y hy]
   rfl
  ·intro x hx
   obtain ⟨y,hy,rfl⟩:=List.mem_map.1 hx
   obtain ⟨i,hi,rfl⟩:=T9 hy
   exact hsum i hi e h0 h1
 ·rw [htok e h0 h1] at hg;cases hg
 ·rw [Hd,hnd 0 hl] at hd;cases hd
structure I9 where
 a:Option Addr
 n:Nat
 c:Nat
 b:Nat→Nat
 hb:∀i,b i≤255
 hn:n≤16777216
abbrev I9.v (d:I9):Value:= .slice d.a d.n d.c
abbrev I9.cell (d:I9):A8:= .sl d.n 1 fun i=>[.val (.int .u8 (d.b i))]
abbrev I9.pins (d:I9):List (A8×Value):=[(d.cell,d.v)]
abbrev I9.cur (d:I9) (i h:Int):List A8:=[.val d.v,vi i,vi h]
abbrev HT:World→Prop:=fun _=>True
theorem Rl (d:I9)(i h:Int)(hi:0≤i∧i≤d.n):Iv Tryz.prog HT 140 d.pins (d.cur i h) [] (fun r:Int×Int×Int=>(0≤r.1∧r.1≤d.n)∧0≤r.2.2∧r.2.2≤255) (fun r=>d.cur r.1 r.2.1) (fun r=>[.one (vi r.2.2)]):=by
 have hn:=d.hn
 refine Ol A0 true Tryz.func140 rfl Bu fun B b hH hp=>?_
 conv=>whnf
 first|(refine B9 2 rfl [0,1,2,3,4,5,6,7,8,9,10,11,12] Aa (go A0 true ?_);conv=>whnf)|(refine B9 3 rfl [0,1,2,3,4,5,6,7,8,9] Aa (go A0 true ?_);conv=>whnf)|(refine B9 4 rfl [0,1,2,3,4,5,6,7,8,9,10,11,12,13,14] Aa (go A0 true ?_);conv=>whnf)
 refine B94 rfl rfl rfl rfl Bu (fun r=>go A0 true ?_)
 conv=>whnf
 refine B94 rfl rfl rfl rfl Bu (fun r2=>go A0 true ?_)
 conv=>whnf
 refine C0p rfl rfl rfl rfl (fun r3=>go A0 true ?_)
 conv=>whnf
 refine B72 rfl rfl rfl rfl Bu Bu (fun x0 h0 h1=>go A0 true ?_)
 conv=>whnf
 first|(refine B9 2 rfl [0,1,2,3,4,5,6,7,8,9,10,11,12] Aa (go A0 true ?_);conv=>whnf)|(refine B9 3 rfl [0,1,2,3,4,5,6,7,8,9] Aa (go A0 true ?_);conv=>whnf)|(refine B9 4 rfl [0,1,2,3,4,5,6,7,8,9,10,11,12,13,14] Aa (go A0 true ?_);conv=>whnf)
 refine G5 (fun hlt=>?_) fun hlt=>?_<;>conv=>whnf
 ·first|(refine B9 2 rfl [0,1,2,3,4,5,6,7,8,9,10,11,12] Aa (go A0 true ?_);conv=>whnf)|(refine B9 3 rfl [0,1,2,3,4,5,6,7,8,9] Aa (go A0 true ?_);conv=>whnf)|(refine B9 4 rfl [0,1,2,3,4,5,6,7,8,9,10,11,12,13,14] Aa (go A0 true ?_);conv=>whnf)
  refine B9k A0 hp 0 rfl rfl rfl rfl rfl rfl rfl rfl rfl (⟨hi.1,hlt⟩) (go A0 true ?_)
  conv=>whnf
  refine B72 rfl rfl rfl rfl Bu Bu (fun x1 g0 g1=>go A0 true ?_)
  conv=>whnf
  exact Kk A0 (i+1,_,x1) ⟨⟨by omega,by show i+1≤_;omega⟩,g0,g1⟩ rfl rfl rfl rfl ⟨⟨Wr _ _,by show A8.val _=_;rw [show IntKind.i64.wrap (i+1)=i+1 by rw [IntKind.wrap_i64];omega],rfl,trivial⟩,rfl,trivial⟩
 ·exact Kk A0 (i,_,x0) ⟨hi,h0,h1⟩ rfl rfl rfl rfl Ca
theorem B7q {i:Int}(h: -9223372036854775808≤i∧i≤9223372036854775807):IntKind.i64.wrap i=i:=by rw [IntKind.wrap_i64];omega
theorem B76 (d:I9):A5w Tryz.prog 50 d.pins [.one (.val d.v)] (fun _:Int=>True) (fun h=>d.cur 0 h):=by
 have hn:=d.hn
 refine B79 A0 true Tryz.func50 rfl Bu fun W hp=>?_
 conv=>whnf
 refine Bw A0 true [] (fun j:Nat×Int=>[(3,.c (vi j.2)),(4,.c (vi j.1))]) (fun j=>[]) (fun j=>[]) (fun j=>(j.1:Int)≤d.n) (fun j=>d.n-j.1) ((0,_)) (Int.natCast_nonneg _) ⟨by first|rfl|simp [Dl,ren2,ren1,ren0],by first|rfl|simp [Dl,ren2,ren1,ren0],trivial⟩ trivial trivial D0 Aa (fun j hj=>?_)
 conv=>whnf
 refine G5 (fun h=>?_) fun h=>?_<;>conv=>whnf
 ·refine Z7 (by first|with_reducible rfl|assumption|(simp only [decide_eq_true_eq];omega)|simp) ?_
  conv=>whnf
  refine Z7 (by first|with_reducible rfl|assumption|(simp only [decide_eq_true_eq];omega)|simp) ?_
  conv=>whnf
  refine G5 (fun h2=>?_) fun h2=>?_<;>conv=>whnf
  ·refine B9k A0 hp 0 rfl rfl rfl rfl rfl rfl rfl rfl rfl (⟨by omega,h⟩) (go A0 true ?_)
   conv=>whnf
   refine B72 rfl rfl rfl rfl Bu Bu (fun r r0 r1=>go A0 true ?_)
   conv=>whnf
   refine B5 [] ((j.1+1,r)) ((by show ((j.1+1:Nat):Int)≤_;omega)) (by show d.n-(j.1+1)<_;omega) ⟨rfl,(by show AV.c (vi _)=AV.c (vi _);rw [B7q Ac];rfl),trivial⟩ trivial trivial Aa D0 Aa
  ·exact B93 A0 j.2 trivial rfl rfl rfl Ca
 ·repeat' (first|(refine Ms ?_;conv=>whnf)|(refine Mt ?_;conv=>whnf)|(refine ⟨fun h=>?_,fun h=>?_⟩<;>conv=>whnf)|(refine Kf ?_;conv=>whnf)|fail)
  exact B93 A0 j.2 trivial rfl rfl rfl Ca
theorem E5 (d:I9)(i h n:Int)(hi:0≤i∧i≤d.n)(hn:n≤1099511627776):Iv Tryz.prog HT 101 d.pins (d.cur i h) [.one (vi n)] (fun r:Int×Int×Int=>(0≤r.1∧r.1≤d.n)∧0≤r.2.2∧(n≤0→r.2.2=0)∧(0<n→r.2.2<n)) (fun r=>d.cur r.1 r.2.1) (fun r=>[.one (vi r.2.2)]):=by
 have hdn:=d.hn
 refine Ol A0 false Tryz.func101 rfl Bu fun B b hH hp=>?_
 conv=>whnf
 refine G5 (fun h0=>?_) fun h0=>?_<;>conv=>whnf
 ·exact Kk A0 (i,h,0) ⟨hi,Int.le_refl _,fun _=>rfl,fun h=>by omega⟩ rfl rfl rfl rfl Ca
 ·refine G5 (fun h1=>?_) fun h1=>?_<;>conv=>whnf
  ·refine Fg (Rl d i h hi) hH hp rfl Ca rfl rfl (fun r hr=>go A0 false ?_)
   conv=>whnf
   (repeat refine Ar ?_)
   exact Kk A0 (r.1,r.2.1,r.2.2.tmod n) ⟨hr.1,Int.tmod_nonneg _ hr.2.1,fun h=>by omega,fun h=>Int.tmod_lt_of_pos _ h⟩ rfl rfl rfl rfl Ca
  ·refine Fg (Rl d i h hi) hH hp rfl Ca rfl rfl (fun r hr=>go A0 false ?_)
   conv=>whnf
   refine Fg (Rl d r.1 r.2.1 hr.1) hH hp rfl Ca rfl rfl (fun r2 hr2=>go A0 false ?_)
   conv=>whnf
   refine Fg (Rl d r2.1 r2.2.1 hr2.1) hH hp rfl Ca rfl rfl (fun r3 hr3=>go A0 false ?_)
   conv=>whnf
   refine Fg (Rl d r3.1 r3.2.1 hr3.1) hH hp rfl Ca rfl rfl (fun r4 hr4=>go A0 false ?_)
   conv=>whnf
   (repeat refine Ar ?_)
   exact Kk A0 (r4.1,r4.2.1,(r.2.2 * 16777216+r2.2.2 * 65536+r3.2.2 * 256+r4.2.2).tmod n) ⟨hr4.1,Int.tmod_nonneg _ Ac,fun h=>by omega,fun h=>Int.tmod_lt_of_pos _ h⟩ rfl rfl rfl rfl Ca
theorem B54 (d:I9)(i h n:Int)(hi:0≤i∧i≤d.n)(hn:n≤1099511627776):Iv Tryz.prog HT 102 d.pins (d.cur i h) [.one (vi n)] (fun r:Int×Int×Bool=>0≤r.1∧r.1≤d.n) (fun r=>d.cur r.1 r.2.1) (fun r=>[.one (vb r.2.2)]):=by
 refine Ol A0 false Tryz.func102 rfl Bu fun B b hH hp=>?_
 conv=>whnf
 refine Fg (E5 d i h n hi hn) hH hp rfl Ca rfl rfl (fun r hr=>go A0 false ?_)
 conv=>whnf
 exact Kk A0 (r.1,r.2.1,_) hr.1 rfl rfl rfl rfl Ca
theorem A57 (d:I9)(i h:Int)(xs:List Int)(hi:0≤i∧i≤d.n)(hx:0<xs.length∧xs.length≤16777216):Iv Tryz.prog HT 117 d.pins (d.cur i h) [.one (F1 xs)] (fun r:Int×Int×Nat=>(0≤r.1∧r.1≤d.n)∧r.2.2<xs.length) (fun r=>d.cur r.1 r.2.1) (fun r=>[.one (vi (xs.getD r.2.2 0))]):=by
 refine Ol A0 false Tryz.func117 rfl Bu fun B b hH hp=>?_
 conv=>whnf
 refine Fg (E5 d i h xs.length hi Ac) hH hp rfl Ca rfl rfl (fun r hr=>go A0 false ?_)
 conv=>whnf
 (repeat refine Ar ?_)
 exact Kk A0 (r.1,r.2.1,r.2.2.toNat) ⟨hr.1,by have:=hr.2.2.2 Ac;show r.2.2.toNat<_;omega⟩ rfl rfl rfl rfl Ca
end Go.Proofs.YtonodkjaoalfjaaGreat
