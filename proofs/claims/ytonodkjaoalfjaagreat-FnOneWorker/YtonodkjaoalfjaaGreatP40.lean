/- Part 40 of the proof that each of the laws FnOneWorker returns true for every input. No conditions. -/
import Derived.Test.YtonodkjaoalfjaaGreatP24
import Derived.Test.YtonodkjaoalfjaaGreatP23
import Derived.Test.YtonodkjaoalfjaaGreatP39
import Derived.Test.YtonodkjaoalfjaaGreatP8
import Derived.Test.YtonodkjaoalfjaaGreatP15
import Derived.Test.YtonodkjaoalfjaaGreatP29
import Derived.Test.YtonodkjaoalfjaaGreatP30
import Derived.Test.YtonodkjaoalfjaaGreatP6
import Derived.Test.YtonodkjaoalfjaaGreatP19
import Derived.Test.YtonodkjaoalfjaaGreatP27
import Derived.Test.YtonodkjaoalfjaaGreatP14
import Derived.Test.YtonodkjaoalfjaaGreatP31
import Derived.Test.YtonodkjaoalfjaaGreatP34

set_option linter.unusedSimpArgs false
set_option linter.unusedVariables false
set_option maxRecDepth 100000
namespace Go.Proofs.YtonodkjaoalfjaaGreat
open Go.Sx
theorem B57 (d:I9):M0 Tryz.prog HT 7 d.pins [] [.one (.val d.v)] (fun r:Ad×List A5×List Bl=>(A5u r.1∧Sk r.1)∧Me r.2.1∧r.2.2.length≤80) (fun r=>[.agg r.1.c,.one (Ax r.2.1),.one (Fu r.2.2)]):=by
 refine A0v A0 false Tryz.func7 rfl Bu fun B hH hp=>?_
 conv=>whnf
 refine B9a (B76 d) hp rfl (fun h0 _=>go A0 false ?_)
 conv=>whnf
 refine Fg (A9z d 0 h0 ⟨Int.le_refl _,Int.natCast_nonneg _⟩) hH hp rfl Ca rfl rfl (fun r hr=>go A0 false ?_)
 conv=>whnf
 refine Fg (A90 d r.1 r.2.1 hr.1) hH hp rfl Ca rfl rfl (fun r2 hr2=>go A0 false ?_)
 conv=>whnf
 refine Fg (B2y d r2.1 r2.2.1 80 Bu hr2.1) hH hp rfl Ca rfl rfl (fun r3 hr3=>go A0 false ?_)
 conv=>whnf
 exact A4w A0 (r.2.2,r2.2.2,r3.2.2) ⟨hr.2,hr2.2,hr3.2⟩ rfl rfl Ca
theorem B4h {l:List Cb}(h:Uz l):E7 ⟨l,1,1⟩:=by
 obtain ⟨G,a,b,k,hG,ha,hb,hk,hl⟩:=h
 have ha:a=1∨a=2∨a=3:=by omega
 have hb:b=0∨b=1∨b=2∨b=3:=by omega
 have hk:k=1∨k=2∨k=3:=by omega
 rcases hl with rfl|rfl|rfl|rfl|rfl
 ·show E7 ⟨[⟨1,0,0,[1]⟩,⟨G,0,0,[2,5]⟩,⟨4,a,0,[3]⟩,⟨3,k,0,[4]⟩,⟨7,0,0,[1]⟩,⟨8,0,0,[]⟩],1,1⟩
  rcases hG with rfl|rfl<;>rcases ha with rfl|rfl|rfl<;>rcases hk with rfl|rfl|rfl<;>decide
 ·rcases hG with rfl|rfl<;>rcases ha with rfl|rfl|rfl<;>rcases hb with rfl|rfl|rfl|rfl<;>decide
 ·rcases hG with rfl|rfl<;>rcases ha with rfl|rfl|rfl<;>rcases hb with rfl|rfl|rfl|rfl<;>decide
 ·rcases hG with rfl|rfl<;>rcases ha with rfl|rfl|rfl<;>rcases hb with rfl|rfl|rfl|rfl<;>decide
 ·rcases hG with rfl|rfl<;>rcases ha with rfl|rfl|rfl<;>rcases hb with rfl|rfl|rfl|rfl<;>decide
theorem B3g {g:Ad}(h:Sk g):E7 g:=by
 obtain ⟨h1,h2,hn⟩:=h
 have:E7 ⟨g.nodes,1,1⟩:=B4h hn
 exact ⟨this.1,by omega,by omega,this.2.2.2⟩
theorem B6w {g:Ad}{ins:List A5}(hg:Sk g)(hi:Me ins):K6 g ins:=by
 refine ⟨B3g hg,by have:=hi.1;omega,fun r hr=>?_⟩
 obtain ⟨h1,h2,h3,h4,h5⟩:=hi.2 r hr
 exact ⟨⟨by omega,h3,by omega,by omega,by omega⟩,h1,h2⟩
theorem B8h (a:Option Addr)(n cp:Nat):B0 Tryz.prog 6 [.one (.val (.slice a n cp))] [.one (vb (decide ((n:Int)>1_048_576)))]:=by
 refine Ay A0 false Tryz.func6 rfl Bu fun W=>?_
 conv=>whnf
 exact Ao A0 rfl rfl ⟨by rfl,trivial⟩
theorem A5p (xs:List A5):(Mr xs).w=xs.length+12:=by simp [Ab.w,Mr]
theorem B6x {n:Int}{l:List A5}{k:Nat}(hl:l.length≤20):((E8 n l k).map Ab.w).sum≤k * 92:=by
 induction k with
 |zero=>simp [E8]
 |succ k ih=>
  rw [Zb,List.map_append,List.sum_append]
  have h1:=Wx n l k 4
  simp only [List.map_cons,List.map_nil,List.sum_cons,List.sum_nil,A5p]
  omega
theorem B8k (m:Nat)(n:Int):((List.replicate m (Gv n)).map C2.w).sum=0:=by
 induction m with
 |zero=>rfl
 |succ m ih=>
  rw [List.replicate_succ,List.map_cons,List.sum_cons,ih]
  rfl
theorem B9r {g:Ad}{l:List A5}:(Ah g l).1.w≤g.w+2000:=by
 by_cases h:K6 g l
 ·have hw:=h.1.2.1
  obtain ⟨n,hn⟩:∃n:Nat,g.workers=n:=⟨g.workers.toNat,by omega⟩
  have h1:=B6x (n:=g.workers) (l:=l) (k:=g.workers.toNat) h.2.1
  have h2:=B8k (g.workers.toNat * g.workers.toNat) g.cap
  have h3:=A35 g.workers l g.workers.toNat
  have h4:g.workers.toNat * g.workers.toNat≤16:=Nat.mul_le_mul (show g.workers.toNat≤4 by omega) (show g.workers.toNat≤4 by omega)
  rw [Ul h]
  simp only [A3.w,wS,List.length_replicate,List.length_nil]
  rw [h2,h3]
  have h5:g.workers.toNat≤4:=by omega
  omega
 ·rw [R3 h]
  show Pw.w≤_
  have:Pw.w=0:=rfl
  omega
theorem B6y {g:Ad}{l:List A5}:J9 (Ah g l).1:=by
 by_cases h:K6 g l
 ·rw [Ul h]
  intro k hk
  have:=List.eq_of_mem_replicate hk
  rw [this]
  show (0:Int)≤_
  decide
 ·rw [R3 h]
  intro k hk
  cases hk
theorem A99 (n:Nat):∀c:A3,(Di n c).1.w≤c.w+176 * n:=by
 induction n with
 |zero=>intro c;exact Nat.le_refl _
 |succ n ih=>
  intro c
  have h1:=A89 (c:=c)
  rw [Di]
  split
  ·show (Ba c).1.w≤_
   omega
  ·have h2:=ih (Ba c).1
   show (Di n (Ba c).1).1.w≤_
   omega
theorem A59 {w:Ab}{e:Int}{k:Nat}(hk:k<w.dones.length)(hb:∀i,i<k→(w.dones.getD i default).epoch≠e)(h:(w.dones.getD k default).epoch=e):Dc w e=(w.dones.getD k default,true):=by
 have hd:B1 w e=true:=Tm hk (by simpa using h)
 have hf:Ek (fun d:E3=>d.epoch==e) w.dones=k:=Qw _ _ k hk (fun i hi=>by simpa using hb i hi) (by simpa using h)
 unfold Dc
 rw [if_pos hd,hf]
theorem A91 {w:Ab}{e:Int}(hb:∀i,i<w.dones.length→(w.dones.getD i default).epoch≠e):Dc w e=(default,false):=by
 have hd:B1 w e=false:=by
  unfold B1
  rw [List.any_eq_false]
  intro y hy
  obtain ⟨i,hi,rfl⟩:=List.getElem_of_mem hy
  have:=hb i hi
  rw [show w.dones.getD i default=w.dones[i] by simp [List.getD,hi]] at this
  simpa using this
 unfold Dc
 rw [if_neg (by rw [hd];decide)]
theorem A7g (x:Ab)(e:Int)(h:x.w≤16000000):B0 Tryz.prog 10 [.agg x.c,.one (vi e)] [.agg (Dc x e).1.c,.one (vb (Dc x e).2)]:=by
 have hl:x.dones.length≤16000000:=by simp only [Ab.w] at h;omega
 refine Ay A0 false Tryz.func10 rfl Bu fun W=>?_
 conv=>whnf
 refine Bw A0 false [] (fun k:Nat=>[(6,.c (vi k))]) (fun k=>[⟨0,[.c (Ax x.queue),.c (Ax x.staged),.c (Ax x.inputs),.c (Ai x.cells),.c (F1 x.sums),.c (Gm x.black),.c (Gm x.caps),.c (Jn x.dones)]⟩,⟨1,[.c (vi 0),.c (vb false)]⟩]) (fun k=>[])
  (fun k=>k≤x.dones.length∧∀i,i<k→(x.dones.getD i default).epoch≠e) (fun k=>x.dones.length-k) 0 ⟨Nat.zero_le _,by first|rfl|assumption|simp⟩ ⟨by first|rfl|simp [Dl,ren2,ren1,ren0],trivial⟩ Dh trivial D0 Aa (fun k hk=>?_)
 obtain ⟨hk,he⟩:=hk
 conv=>whnf
 conv=>whnf
 refine G5 (fun h1=>?_) fun h1=>?_<;>conv=>whnf
 ·have h1:k<x.dones.length:=by omega
  (repeat refine Ar ?_)
  refine ⟨fun h2=>have h2:=eq_of_beq h2;?_,fun h2=>have h2:=beq_eq_false_iff_ne.1 h2;?_⟩<;>conv=>whnf
  ·rw [Int.toNat_natCast] at h2
   (repeat refine Ar ?_)
   rw [A59 h1 he h2]
   refine Ao A0 rfl rfl ?_
   exact Ca
  ·rw [Int.toNat_natCast] at h2
   (repeat refine Ar ?_)
   refine B5 [] (k+1) ⟨by omega,fun i hi=>(Nat.lt_succ_iff_lt_or_eq.1 hi).elim (fun h4=>he i h4) (fun h4=>by subst h4;exact h2)⟩ Ac ⟨rfl,trivial⟩ trivial Dh Aa D0 Aa
 ·rw [A91 (fun i hi=>he i Ac)]
  refine Ao A0 rfl rfl ?_
  exact Ca
theorem B1f (a b:List A7)(ha:a.length≤16777216)(hb:b.length≤16777216):B0 Tryz.prog 11 [.one (Ai a),.one (Ai b)] [.one (vb (decide (a=b)))]:=by
 refine Ay A0 false Tryz.func11 rfl Bu fun W=>?_
 conv=>whnf
 refine ⟨fun hn=>have hn:=bne_iff_ne.1 hn;?_,fun hn=>have hn:=bne_eq_false_iff_eq.1 hn;?_⟩<;>conv=>whnf
 ·exact Ao A0 rfl rfl ⟨congrArg vb (decide_eq_false fun e=>hn (by rw [e])),trivial⟩
 refine Bw A0 false [] (fun k:Nat=>[(5,.c (vi k))]) (fun k=>[]) (fun k=>[])
  (fun k=>k≤a.length∧a.take k=b.take k) (fun k=>a.length-k) 0 ⟨Nat.zero_le _,by first|rfl|assumption|simp⟩ ⟨by first|rfl|simp [Dl,ren2,ren1,ren0],trivial⟩ trivial trivial D0 Aa (fun k hk=>?_)
 obtain ⟨hk,he⟩:=hk
 conv=>whnf
 refine G5 (fun h=>?_) fun h=>?_<;>conv=>whnf
 ·have h:k<a.length:=by omega
  have hs:=A2f a b k he h Ac
  (repeat refine Ar ?_)
  first|(refine B9 6 rfl [0,1,2,3,4,5,6,7,8] Aa (Al ?_))
  (repeat refine Ar ?_)
  refine ⟨fun hc=>?_,fun hc=>?_⟩<;>conv=>whnf
  ·have hc:(!decide (a.getD k default=b.getD k default))=true:=by rw [←A7.eqv];exact hc
   exact Ao A0 rfl rfl ⟨congrArg vb (decide_eq_false fun e=>by subst e;simp at hc),trivial⟩
  ·have hc:(!decide (a.getD k default=b.getD k default))=false:=by rw [←A7.eqv];exact hc
   (repeat refine Ar ?_)
   refine B5 [] (k+1) ⟨by omega,hs.2 (by simpa using hc)⟩ Ac ⟨rfl,trivial⟩ trivial trivial Aa D0 Aa
 ·exact Ao A0 rfl rfl ⟨congrArg vb (decide_eq_true (by rw [←Fi a k Ac,he,Fi b k Ac])),trivial⟩
theorem A7q {α:Type}(f:α→Int):∀(l:List α),(∀x∈l,f x=0)→Zx f l=0:=by
 have:∀(l:List α),(∀x∈l,f x=0)→l.foldl (fun n x=>IntKind.i64.wrap (n+f x)) 0=0:=by
  intro l
  induction l with
  |nil=>intro _;rfl
  |cons x l ih=>
   intro h
   rw [List.foldl_cons,h x (List.mem_cons_self ..)]
   have e:IntKind.i64.wrap (0+0)=0:=by decide
   rw [e]
   exact ih fun y hy=>h y (List.mem_cons_of_mem _ hy)
 exact this
theorem B0x {k:Nat}{c:A3}(hR:Et k c)(hA:Lj c):Zx (fun l:C2=>(l.queue.length:Int)) c.links=0:=A7q _ _ fun l hl=>by
 obtain ⟨j,hj,rfl⟩:=T9 hl
 rw [(Wv hR.ok hA.ov).2 j hj]
 rfl
theorem B4f {g:Ad}{ins:List A5}(hg:Sk g)(hi:Me ins):K6 ⟨g.nodes,1,g.cap⟩ ins:=B6w (g:=⟨g.nodes,1,g.cap⟩) ⟨⟨Int.le_refl _,(by decide:(1:Int)≤3)⟩,hg.2.1,hg.2.2⟩ hi
set_option maxHeartbeats 4000000 in
theorem A3e (xs:List UInt8):B0 Tryz.prog 3 [.one (B48 xs)] [.one (vb true)]:=by
 refine B8a A0 false Tryz.func3 rfl Bu fun W a cp hp=>?_
 conv=>whnf
 have hH:∀w,Au.rel ⟨W,fun _=>False⟩ w→HT w:=fun _ _=>trivial
 refine Aw (B8h a xs.length cp) rfl (Al ?_)
 refine ⟨fun hb=>?_,fun hb=>?_⟩<;>conv=>whnf
 ·exact Ao A0 rfl rfl ⟨rfl,trivial⟩
 have hb:(xs.length:Int)≤16777216:=by have:=of_decide_eq_false hb;omega
 let d:I9:=⟨a,xs.length,cp,fun i=>(xs.getD i default).toNat,fun i=>by have:=(xs.getD i default).toNat_lt;omega,by omega⟩
 have hp:Kt ⟨W,fun _=>False⟩ d.pins:=hp
 refine B74 (B57 d) hH hp rfl (fun r hr=>go A0 false ?_)
 conv=>whnf
 obtain ⟨g,ins,pk⟩:=r
 obtain ⟨⟨hgd,hgs⟩,hin,hpk⟩:(A5u g∧Sk g)∧Me ins∧pk.length≤80:=hr
 have hN:K6 ⟨g.nodes,1,g.cap⟩ ins:=B4f hgs hin
 have hgw:g.w≤64:=hgd.1
 have hgw2:(⟨g.nodes,1,g.cap⟩:Ad).w=g.w:=rfl
 have hil:=hin.1
 have hwC:=B9r (g:=⟨g.nodes,1,g.cap⟩) (l:=ins)
 have hok:(Ah ⟨g.nodes,1,g.cap⟩ ins).2=true:=by rw [Ul hN]
 obtain ⟨_,hend,⟨k',hRz⟩,hAO,hgz⟩:=B46 (pk:=[]) 3000 Bu (g:=⟨g.nodes,1,g.cap⟩) hgs.2.2 hN hin (Nat.zero_le _) (.inr rfl)
 have hres:∀e:Int,0≤e∧e≤3→∀best,Si ⟨g.nodes,1,g.cap⟩ ins e best []→(Dc (wk (Di 3000 (Ah ⟨g.nodes,1,g.cap⟩ ins).1).1 0) e).2=true→(Dc (wk (Di 3000 (Ah ⟨g.nodes,1,g.cap⟩ ins).1).1 0) e).1.capped=false→
  Hv (Di 3000 (Ah ⟨g.nodes,1,g.cap⟩ ins).1).1 e=Ee ⟨g.nodes,1,g.cap⟩ best:=fun e he best hF=>A7d (pk:=[]) 3000 (Nat.le_refl _) (g:=⟨g.nodes,1,g.cap⟩) hgs.2.2 hN hin (Nat.zero_le _) he hF
 refine Aw (W6 ⟨g.nodes,1,g.cap⟩ ins Ac Ac) rfl (Al ?_)
 have hnil:(Bh (Ah ⟨g.nodes,1,g.cap⟩ ins).1 []).1=(Ah ⟨g.nodes,1,g.cap⟩ ins).1:=rfl
 rw [hnil] at hend hRz hAO hgz
 have h3000:(En 3000 0 3000).toNat=3000:=by decide
 have hwZ:=A99 3000 (Ah ⟨g.nodes,1,g.cap⟩ ins).1
 refine Aw (A3o (Ah ⟨g.nodes,1,g.cap⟩ ins).1 3000 Ac B6y) rfl (Al ?_)
 rw [h3000]
 generalize hZ:Di 3000 (Ah ⟨g.nodes,1,g.cap⟩ ins).1=Z at *
 obtain ⟨Z,m⟩:=Z
 dsimp only at hend hRz hAO hgz hwZ hres
 have hlZ:Z.workers.length=1:=by have:=hRz.ok.1.2.1;rw [hgz] at this;simp only at this;omega
 have hw0:=A3.worker_le (Nat.le_refl Z.w) (show 0<Z.workers.length by omega)
 rw [hok]
 repeat refine Bi ?_
 refine O3 (decide_eq_false (show ¬ ((m:Int)≥3000) by omega)) ?_
 conv=>whnf
 repeat ((first|refine Kf ?_|refine O3 rfl ?_|refine O3 (by rw [hlZ];rfl) ?_);conv=>whnf)
 refine Bw A0 false [] (fun k:Nat=>[(9,.c (vi k))]) (fun k=>[⟨4,[.c (Bp Z.graph.nodes),.c (vi Z.graph.workers),.c (vi Z.graph.cap),.c (Be Z.workers),.c (Dt Z.links),.c (C0 Z.tokens),.c (Ef Z.news)]⟩,⟨3,[.own 0,.c (vi 1),.c (vi g.cap)]⟩]) (fun k=>[⟨0,Bp g.nodes⟩,⟨1,Ax ins⟩])
  (fun k=>k≤4) (fun k=>4-k) 0 (Nat.zero_le _) ⟨by first|rfl|simp [Dl,ren2,ren1,ren0],trivial⟩ Dh ⟨by first|rfl|exact (congrArg (fun l=>Du _ _ l) (List.append_nil _)).symm|(show (_:A8)=_;simp)|simp,by first|rfl|exact (congrArg (fun l=>Du _ _ l) (List.append_nil _)).symm|(show (_:A8)=_;simp)|simp,trivial⟩ D0 Aa (fun k hk=>?_)
 conv=>whnf
 conv=>whnf
 refine ⟨fun hlt=>?_,fun hlt=>?_⟩<;>conv=>whnf
 ·have hlt:k<4:=by have:=of_decide_eq_true hlt;omega
  have hdn:=B0w (e:=k) hRz hAO ⟨Int.natCast_nonneg _,by omega⟩
  have hrk:=hres k ⟨Int.natCast_nonneg _,by omega⟩
  (repeat refine Ar ?_)
  refine Aw (A7g (wk Z 0) k (by show (Z.workers.getD 0 default).w≤_;omega)) rfl (Al ?_)
  rw [hdn]
  cases hcap:(Dc (wk Z 0) k).1.capped
  ·first|(refine B9 13 rfl [0,1,2,3,4,5,6,7,8,10,11,12,9,13,14,15,16,17] Aa (Al ?_))
   repeat refine Bi ?_
   refine Aw (A18 Z k Ac) rfl (Al ?_)
   repeat refine Bi ?_
   refine B2l (A2a ⟨g.nodes,1,g.cap⟩ k ins Ac hN.1 (A8n hN) ⟨Int.natCast_nonneg _,by omega⟩ Ac) (fun _ _ _ _=>trivial) trivial rfl (fun l hl=>go A0 false ?_)
   conv=>whnf
   obtain ⟨best,hF,hlo,hll⟩:=hl
   have hsame:Hv Z k=l:=(hrk best hF hdn hcap).trans hlo.symm
   rw [hsame]
   repeat refine Bi ?_
   refine Aw (B1f l l Ac Ac) rfl (Al ?_)
   repeat ((first|refine O3 rfl ?_|refine O3 (by rw [decide_eq_true rfl];rfl) ?_);conv=>whnf)
   repeat refine Bi ?_
   (repeat refine Ar ?_)
   refine B5 [] (k+1) Ac Ac ⟨rfl,trivial⟩ ⟨rfl,rfl,trivial⟩ Dh Aa D0 Aa
  ·first|(refine B9 13 rfl [0,1,2,3,4,5,6,7,8,10,11,12,9,13,14,15,16,17] Aa (Al ?_))
   repeat refine Bi ?_
   (repeat refine Ar ?_)
   refine B5 [] (k+1) Ac Ac ⟨rfl,trivial⟩ ⟨rfl,rfl,trivial⟩ Dh Aa D0 Aa
 ·refine Aw (A17 Z Ac) rfl (Al ?_)
  rw [B0x hRz hAO]
  repeat (refine Z7 rfl ?_;conv=>whnf)
  repeat refine Bi ?_
  have hsl:∀w∈Z.workers,w.sums.length=4:=fun w hw=>(hRz.ok.2.1 w hw).2.1.1
  have hss:∀w∈Z.workers,-1000000≤Dx w 0∧Dx w 0≤1000000:=fun w hw=>by
   have h4:=hsl w hw
   have:=(hRz.ok.2.1 w hw).2.2.2.1 (Dx w 0) (Aq Ac)
   exact this
  refine Aw (Ye Z 0 Ac ⟨Int.le_refl _,by decide⟩ hsl hss) rfl (Al ?_)
  rw [B0y hRz hAO ⟨Int.le_refl _,by decide⟩]
  repeat (refine Z7 rfl ?_;conv=>whnf)
  repeat refine Bi ?_
  exact Ao A0 rfl rfl ⟨rfl,trivial⟩
end Go.Proofs.YtonodkjaoalfjaaGreat
