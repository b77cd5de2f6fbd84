/- Part 27 of the proof that each of the laws FnUnfair returns true for every input. No conditions. -/
import Derived.Test.YtonodkjaoalfjaaP26
import Derived.Test.YtonodkjaoalfjaaP14
import Derived.Test.YtonodkjaoalfjaaP21
import Derived.Test.YtonodkjaoalfjaaP24
import Derived.Test.YtonodkjaoalfjaaP8
import Derived.Test.YtonodkjaoalfjaaP10

set_option linter.unusedSimpArgs false
set_option linter.unusedVariables false
set_option maxRecDepth 100000
namespace Go.Proofs.Ytonodkjaoalfjaa
open Go.Sx
theorem Wd (xs:List Ac):(J9 xs).w=xs.length+12:=by simp [Ad.w,J9]
theorem A48 {n:Int}{l:List Ac}{k:Nat}(hl:l.length≤20):((D6 n l k).map Ad.w).sum≤k * 92:=by
 induction k with
 |zero=>simp [D6]
 |succ k ih=>
  rw [St,List.map_append,List.sum_append]
  have h1:=Qt n l k 4
  simp only [List.map_cons,List.map_nil,List.sum_cons,List.sum_nil,Wd]
  omega
theorem A6o (m:Nat)(n:Int):((List.replicate m (Gm n)).map C0.w).sum=0:=by
 induction m with
 |zero=>rfl
 |succ m ih=>
  rw [List.replicate_succ,List.map_cons,List.sum_cons,ih]
  rfl
theorem A7j {g:An}{l:List Ac}:(Ej g l).1.w≤g.w+2000:=by
 by_cases h:Rs g l
 ·have hw:=h.1.2.1
  obtain ⟨n,hn⟩:∃n:Nat,g.workers=n:=⟨g.workers.toNat,by omega⟩
  have h1:=A48 (n:=g.workers) (l:=l) (k:=g.workers.toNat) h.2.1
  have h2:=A6o (g.workers.toNat * g.workers.toNat) g.cap
  have h3:=Ql g.workers l g.workers.toNat
  have h4:g.workers.toNat * g.workers.toNat≤16:=Nat.mul_le_mul (show g.workers.toNat≤4 by omega) (show g.workers.toNat≤4 by omega)
  rw [N3 h]
  simp only [A3.w,wS,List.length_replicate,List.length_nil]
  rw [h2,h3]
  have h5:g.workers.toNat≤4:=by omega
  omega
 ·rw [Nz h]
  show L4.w≤_
  have:L4.w=0:=rfl
  omega
set_option maxHeartbeats 4000000 in
theorem A2c (xs:List UInt8):Bp Try.prog 3 [.one (A3n xs)] [.one (vb true)]:=by
 refine A6h A0 false Try.func3 rfl Cb fun W a cp hp=>?_
 conv=>whnf
 have hH:∀w,Am.rel ⟨W,fun _=>False⟩ w→HT w:=fun _ _=>trivial
 refine B7 (A6m a xs.length cp) rfl (Af ?_)
 refine ⟨fun hb=>?_,fun hb=>?_⟩<;>conv=>whnf
 ·exact B1 A0 rfl rfl ⟨rfl,trivial⟩
 have hb:(xs.length:Int)≤16777216:=by have:=of_decide_eq_false hb;omega
 let d:Gb:=⟨a,xs.length,cp,fun i=>(xs.getD i default).toNat,fun i=>by have:=(xs.getD i default).toNat_lt;omega,by omega⟩
 have hp:It ⟨W,fun _=>False⟩ d.pins:=hp
 refine A6b (A4r d) hH hp rfl (fun r hr=>go A0 false ?_)
 conv=>whnf
 obtain ⟨g,ins,pk⟩:=r
 obtain ⟨⟨hgd,hgs⟩,hin,_⟩:(Wh g∧Po g)∧A4h ins∧pk.length≤80:=hr
 have hN:Rs g ins:=A47 hgs hin
 have hgw:g.w≤64:=hgd.1
 have hww:=hgs.1
 have hil:=hin.1
 refine B7 (Rb g ins Ag Ag) rfl (Af ?_)
 (repeat refine Ak ?_)
 have hlenC:((Ej g ins).1.workers.length:Int)=g.workers:=by
  rw [N3 hN]
  have:=Ql g.workers ins g.workers.toNat
  show ((D6 g.workers ins g.workers.toNat).length:Int)=g.workers
  omega
 have hgC:(Ej g ins).1.graph=g:=by rw [N3 hN]
 have hwC:=A7j (g:=g) (l:=ins)
 have hui:=A7i hN
 generalize hC:(Ej g ins).1=C at *
 have hm0:=Int.tmod_nonneg g.workers (show (0:Int)≤xs.length from Int.natCast_nonneg _)
 have hm1:=Int.tmod_lt_of_pos (xs.length:Int) (show 0<g.workers by omega)
 generalize hwd:(xs.length:Int).tmod g.workers=w at *
 have h12:(Dn 12 0 40).toNat=12:=by decide
 have hl:=A3k (pN C) 12 (A3b C)
 refine B7 (Qh C 12) rfl (Af ?_)
 rw [h12]
 refine B7 (Mx (rr (pN C) 12) w Ag) rfl (Af ?_)
 have hl2:=Wb (rr (pN C) 12) w
 have hl3:=Wc (pN C) w
 have hl4:=Sc (rr (pN C) 12) w
 have hkeep:=Xp (c:=C) (ps:=rr (pN C) 12) (w:=w) hm0
 have hdone:∀e:Int,0≤e→Qp (A9 C w) e=true→Fl (Ce C (Dj (rr (pN C) 12) w)).1 e=false:=fun e he ho=>W8 ⟨hm0,by omega⟩ he (hui e w) ho
 generalize hL:Dj (rr (pN C) 12) w=L at *
 have hrw:=A3m (c:=C) (l:=L)
 have hrlen:=A0z C L
 refine B7 (Uc C L Ag (by rw [hgC];show _∧_;omega)) rfl (Af ?_)
 generalize hX:(Ce C L).1=X at *
 refine ⟨fun h0=>have h0:=eq_of_beq h0;?_,fun h0=>have h0:=beq_eq_false_iff_ne.1 h0;?_⟩<;>conv=>whnf
 ·omega
 have hwt:w.toNat<C.workers.length:=by omega
 have hcw:=A3.worker_le (Nat.le_refl C.w) hwt
 have hwx:w.toNat<X.workers.length:=by omega
 refine Cc A0 false [] (fun k:Nat=>[(12,.c (vi k))]) (fun k=>[⟨5,[.c (Bt X.graph.nodes),.c (vi X.graph.workers),.c (vi X.graph.cap),.c (Ap X.workers),.c (D7 X.links),.c (Cl X.tokens),.c (D0 X.news)]⟩,⟨4,[.c (Bt C.graph.nodes),.c (vi C.graph.workers),.c (vi C.graph.cap),.c (Ap C.workers),.c (D7 C.links),.c (Cl C.tokens),.c (D0 C.news)]⟩]) (fun k=>[])
  (fun k=>k≤4) (fun k=>4-k) 0 (Nat.zero_le _) ⟨by first|rfl|simp [Dc,ren2,ren1,ren0],trivial⟩ D8 trivial Dg A6 (fun k hk=>?_)
 conv=>whnf
 conv=>whnf
 refine ⟨fun hlt=>?_,fun hlt=>?_⟩<;>conv=>whnf
 ·have hlt:k<4:=by have:=of_decide_eq_true hlt;omega
  (repeat refine Ak ?_)
  refine B7 (Rh (A9 C w) k (by show (C.workers.getD w.toNat default).w≤_;omega)) rfl (Af ?_)
  refine ⟨fun ho=>?_,fun ho=>?_⟩<;>conv=>whnf
  ·repeat refine Bg ?_
   refine B7 (Kz X k Ag) rfl (Af ?_)
   rw [hdone k (Int.natCast_nonneg _) ho]
   repeat refine Bg ?_
   (repeat refine Ak ?_)
   refine B8 [] (k+1) Ag Ag ⟨rfl,trivial⟩ trivial D8 A6 Dg A6
  ·repeat refine Bg ?_
   (repeat refine Ak ?_)
   refine B8 [] (k+1) Ag Ag ⟨rfl,trivial⟩ trivial D8 A6 Dg A6
 ·have hXw:=A3.worker_le (Nat.le_refl X.w) hwx
  have hxi:(A9 X w).inputs.length≤(A9 X w).w:=by unfold Ad.w;omega
  have hci:(A9 C w).inputs.length≤(A9 C w).w:=by unfold Ad.w;omega
  have hX2:(A9 X w).w≤X.w:=hXw
  have hC2:(A9 C w).w≤C.w:=hcw
  first|(refine At 15 rfl [0,1,2,3,4,5,6,7,8,9,10,11,12,13,14,15,18,19,16,17,20,21,22] A6 (Af ?_))
  (repeat refine Ak ?_)
  refine B7 (Vv (A9 X w).inputs (A9 C w).inputs Ag Ag) rfl (Af ?_)
  refine ⟨fun hq=>?_,fun hq=>?_⟩<;>conv=>whnf
  ·repeat refine Bg ?_
   refine B7 (Nc L w Ag) rfl (Af ?_)
   rw [hl4]
   repeat refine Bg ?_
   exact B1 A0 rfl rfl ⟨congrArg vb (beq_self_eq_true _).symm,trivial⟩
  ·exact absurd hkeep (of_decide_eq_false hq)
end Go.Proofs.Ytonodkjaoalfjaa
