/- Part 40 of the proof that each of the laws FnExactRunScriptOf, FnExactSpreadResult returns true for every input. No conditions. -/
import Derived.Test.YtlbmkgkmbjadcaaGreatP37
import Derived.Test.YtlbmkgkmbjadcaaGreatP39
import Derived.Test.YtlbmkgkmbjadcaaGreatP35
import Derived.Test.YtlbmkgkmbjadcaaGreatP20

set_option linter.unusedSimpArgs false
set_option linter.unusedVariables false
set_option maxRecDepth 100000
namespace Go.Proofs.YtlbmkgkmbjadcaaGreat
open Go.Sx
def Cs (s:D9):A4×List Bool×Bool:=
 if (B4 s.graph s.inputs).2=true then ((Dj (E7 s.rounds 0 3000).toNat (Bd (B4 s.graph s.inputs).1 s.picks).1).1,(Bd (B4 s.graph s.inputs).1 s.picks).2,true) else (Ir,[],false)
theorem B28 {s:D9}(h:(B4 s.graph s.inputs).2=false):Cs s=(Ir,[],false):=if_neg (by rw [h];decide)
theorem A75 {s:D9}(h:(B4 s.graph s.inputs).2=true):Cs s=((Dj (E7 s.rounds 0 3000).toNat (Bd (B4 s.graph s.inputs).1 s.picks).1).1,(Bd (B4 s.graph s.inputs).1 s.picks).2,true):=if_pos h
theorem A4v (xs:List A3):(Jz xs).w=xs.length+12:=by simp [A6.w,Jz]
theorem B4x {n:Int}{l:List A3}{k:Nat}(hl:l.length≤20):((Dx n l k).map A6.w).sum≤k * 92:=by
 induction k with
 |zero=>simp [Dx]
 |succ k ih=>
  rw [Ta,List.map_append,List.sum_append]
  have h1:=Pa n l k 4
  simp only [List.map_cons,List.map_nil,List.sum_cons,List.sum_nil,A4v]
  omega
theorem B58 (m:Nat)(n:Int):((List.replicate m (Fp n)).map As.w).sum=0:=by
 induction m with
 |zero=>rfl
 |succ m ih=>
  rw [List.replicate_succ,List.map_cons,List.sum_cons,ih]
  rfl
theorem Zl {g:Ar}{l:List A3}:(B4 g l).1.w≤g.w+2000:=by
 by_cases h:V9 g l
 ·have hw:=h.1.2.1
  obtain ⟨n,hn⟩:∃n:Nat,g.workers=n:=⟨g.workers.toNat,by omega⟩
  have h1:=B4x (n:=g.workers) (l:=l) (k:=g.workers.toNat) h.2.1
  have h2:=B58 (g.workers.toNat * g.workers.toNat) g.cap
  have h3:=S7 g.workers l g.workers.toNat
  have h4:g.workers.toNat * g.workers.toNat≤16:=Nat.mul_le_mul (show g.workers.toNat≤4 by omega) (show g.workers.toNat≤4 by omega)
  rw [Pz h]
  simp only [A4.w,wS,List.length_replicate,List.length_nil]
  rw [h2,h3]
  have h5:g.workers.toNat≤4:=by omega
  omega
 ·rw [Jb h]
  show Ir.w≤_
  have:Ir.w=0:=rfl
  omega
theorem A1b {g:Ar}{l:List A3}:Jl (B4 g l).1:=by
 by_cases h:V9 g l
 ·rw [Pz h]
  intro k hk
  have:=List.eq_of_mem_replicate hk
  rw [this]
  show (0:Int)≤_
  decide
 ·rw [Jb h]
  intro k hk
  cases hk
set_option maxHeartbeats 1000000 in
theorem Oc (x:D9)(hx:x.w≤1040000+8576):Aq Tryz.prog 9 [.agg x.c] [.agg (Cs x).1.c,.one (Cx (Cs x).2.1),.one (vb (Cs x).2.2)]:=by
 have hw:x.graph.w+x.inputs.length+x.picks.length≤1040000+8576:=hx
 have h1:=Zl (g:=x.graph) (l:=x.inputs)
 have h2:=Ra (c:=(B4 x.graph x.inputs).1) (l:=x.picks)
 refine Aj A0 false Tryz.func9 rfl Bs fun W=>?_
 conv=>whnf
 refine Av (P2 x.graph x.inputs Ad Ad) rfl (Ae ?_)
 refine ⟨fun hk=>?_,fun hk=>?_⟩<;>conv=>whnf
 ·have hk:(B4 x.graph x.inputs).2=false:=by simpa using hk
  rw [B28 hk]
  refine Ah A0 rfl rfl ?_
  exact C1
 have hk:(B4 x.graph x.inputs).2=true:=by simpa using hk
 repeat refine B9 ?_
 refine Av (Kz (B4 x.graph x.inputs).1 x.picks Ad A1b) rfl (Ae ?_)
 refine Av (U2 (Bd (B4 x.graph x.inputs).1 x.picks).1 x.rounds Ad (Xg A1b)) rfl (Ae ?_)
 rw [A75 hk]
 refine Ah A0 rfl rfl ?_
 exact C1
theorem A4j (x:Ar)(n:Int)(h:x.w≤16777216):Aq Tryz.prog 60 [.agg x.c,.one (vi n)] [.agg (Ar.c {x with cap:=n})]:=by
 refine Aj A0 false Tryz.func60 rfl Bs fun W=>?_
 conv=>whnf
 refine Av (Di x h) rfl (Ae ?_)
 exact Ah A0 rfl rfl ⟨⟨rfl,rfl,rfl,trivial⟩,trivial⟩
theorem A3c (x:Ar)(n:Int)(h:x.w≤16777216):Aq Tryz.prog 65 [.agg x.c,.one (vi n)] [.agg (Ar.c {x with cap:=n})]:=by
 refine Aj A0 false Tryz.func65 rfl Bs fun W=>?_
 conv=>whnf
 refine Av (Dg x h) rfl (Ae ?_)
 exact Ah A0 rfl rfl ⟨⟨rfl,rfl,rfl,trivial⟩,trivial⟩
theorem Uq (x:Ar)(n:Int)(h:x.w≤16777216):Aq Tryz.prog 61 [.agg x.c,.one (vi n)] [.agg (Ar.c {x with workers:=n})]:=by
 refine Aj A0 false Tryz.func61 rfl Bs fun W=>?_
 conv=>whnf
 refine Av (Di x h) rfl (Ae ?_)
 exact Ah A0 rfl rfl ⟨⟨rfl,rfl,rfl,trivial⟩,trivial⟩
theorem Un (x:Ar)(n:Int)(h:x.w≤16777216):Aq Tryz.prog 66 [.agg x.c,.one (vi n)] [.agg (Ar.c {x with workers:=n})]:=by
 refine Aj A0 false Tryz.func66 rfl Bs fun W=>?_
 conv=>whnf
 refine Av (Dg x h) rfl (Ae ?_)
 exact Ah A0 rfl rfl ⟨⟨rfl,rfl,rfl,trivial⟩,trivial⟩
def Hi (g:Ar) (l:List A3) (e:Int):List Aa×Bool:=
 if (B4 g l).2=true then
  (P9 (Dj 3000 (B4 g l).1).1 e,(Kk ((Dj 3000 (B4 g l).1).1.workers.getD 0 default) e).2&&!(Kk ((Dj 3000 (B4 g l).1).1.workers.getD 0 default) e).1.capped)
 else ([],false)
def Ec (g:Ar) (l:List A3) (e w k:Int):List Aa×Bool:=Hi {g with workers:=w,cap:=k} l e
theorem B5s {g:Ar}{l:List A3}{e:Int}(h:(B4 g l).2=false):Hi g l e=([],false):=if_neg (by rw [h];decide)
theorem A0q {g:Ar}{l:List A3}{e:Int}(h:(B4 g l).2=true):Hi g l e=(P9 (Dj 3000 (B4 g l).1).1 e,(Kk ((Dj 3000 (B4 g l).1).1.workers.getD 0 default) e).2&&!(Kk ((Dj 3000 (B4 g l).1).1.workers.getD 0 default) e).1.capped):=if_pos h
theorem B2t {g:Ar}{l:List A3}(h:(B4 g l).2=true):0<(B4 g l).1.workers.length:=by
 by_cases hN:V9 g l
 ·rw [Pz hN]
  show 0<(Dx g.workers l g.workers.toNat).length
  rw [S7]
  have:=hN.1.2.1
  omega
 ·rw [Jb hN] at h
  cases h
theorem B05:(E7 3000 0 3000).toNat=3000:=rfl
theorem A5v {g:Ar}{l:List A3}(h:(B4 g l).2=true):G8 .i64 (B4 g l).1.graph.workers:=by
 by_cases hN:V9 g l
 ·rw [Pz hN]
  have:=hN.1.2.1
  show (_:Int)≤g.workers∧g.workers≤_
  omega
 ·rw [Jb hN] at h
  cases h
set_option maxHeartbeats 4000000 in
theorem Wg (g:Ar)(l:List A3)(e:Int)(hg:g.w≤1040000+8576)(hl:l.length≤1040000+8576):Aq Tryz.prog 64 [.agg g.c,.one (A9 l),.one (vi e)] [.one (Ao (Hi g l e).1),.one (vb (Hi g l e).2)]:=by
 refine Aj A0 false Tryz.func64 rfl Bs fun W=>?_
 conv=>whnf
 refine Av (P2 g l Ad Ad) rfl (Ae ?_)
 refine ⟨fun hk=>?_,fun hk=>?_⟩<;>conv=>whnf
 ·have hk:(B4 g l).2=false:=by simpa using hk
  repeat refine B9 ?_
  rw [B5s hk]
  refine Ah A0 rfl rfl ?_
  exact C1
 have hk:(B4 g l).2=true:=by simpa using hk
 have h0:=B2t hk
 have hw1:=Zl (g:=g) (l:=l)
 have hw2:=Pv 3000 (B4 g l).1
 have hl0:0<(Dj 3000 (B4 g l).1).1.workers.length:=by rw [Vz];exact h0
 have hwk:=A4.worker_le (Nat.le_refl (Dj 3000 (B4 g l).1).1.w) hl0
 repeat refine B9 ?_
 refine Av (U2 (B4 g l).1 3000 Ad A1b) rfl (Ae ?_)
 rw [B05]
 generalize hC:(Dj 3000 (B4 g l).1).1=C at *
 (repeat refine An ?_)
 refine Qg A0 rfl rfl rfl rfl rfl (jn:=0) rfl (r:=A6.c ((C.workers).getD (0) default)) rfl hl0 rfl rfl (fun u=>go A0 false ?_)
 conv=>whnf
 refine Ai (A5m (C.workers.getD 0 default) e Ad) rfl (Ae ?_)
 refine Kv 8 (0) [(0,12),(1,13),(2,14),(3,15),(4,16),(5,17),(6,18),(7,19)] (Ap C.workers) hl0 rfl rfl Lw rfl (Cm rfl) (Iy ?_)
 conv=>whnf
 first|(refine Ak 6 rfl [0,1,3,2,4,5,6,7,8,9,10] A5 (Ae ?_))
 refine Av (A0u C e Ad) rfl (Ae ?_)
 repeat refine B9 ?_
 refine ⟨fun h5=>?_,fun h5=>?_⟩<;>conv=>whnf
 ·repeat refine B9 ?_
  rw [A0q hk,hC,h5]
  refine Ah A0 rfl rfl ?_
  exact C1
 ·repeat refine B9 ?_
  rw [A0q hk,hC,h5]
  refine Ah A0 rfl rfl ?_
  exact C1
theorem My (g:Ar)(l:List A3)(e w k:Int)(hg:g.w≤1040000+8576)(hl:l.length≤1040000+8576):Aq Tryz.prog 23 [.agg g.c,.one (A9 l),.one (vi e),.one (vi w),.one (vi k)] [.one (Ao (Ec g l e w k).1),.one (vb (Ec g l e w k).2)]:=by
 refine Aj A0 false Tryz.func23 rfl Bs fun W=>?_
 conv=>whnf
 refine Av (Un g w Ad) rfl (Ae ?_)
 refine Av (A3c {g with workers:=w} k (by show g.w≤_;omega)) rfl (Ae ?_)
 refine Av (Wg {g with workers:=w,cap:=k} l e hg hl) rfl (Ae ?_)
 refine Ah A0 rfl rfl ?_
 exact C1
set_option maxHeartbeats 4000000 in
theorem Uh (x:A4)(most:Int)(h:x.w≤6000000)(og:G8 .i64 x.graph.workers):Aq Tryz.prog 38 [.agg x.c,.one (vi most)] [.agg (Dj (E7 most 0 3000).toNat x).1.c,.one (vi (Dj (E7 most 0 3000).toNat x).2)]:=by
 have hb:=Ha most 0 3000 Bs
 have hal:=Rg x
 obtain ⟨n,hn⟩:∃n:Nat,E7 most 0 3000=n:=⟨(E7 most 0 3000).toNat,by omega⟩
 rw [hn,Int.toNat_natCast]
 refine Aj A0 false Tryz.func38 rfl Bs fun W=>?_
 conv=>whnf
 have hp:N6 ⟨W,fun _=>False⟩ []:=fun _ h=>by cases h
 have hH:∀w,B5.rel ⟨W,fun _=>False⟩ w→True:=fun _ _=>trivial
 refine B5p (Zx x Ad) hp rfl (fun r hr=>go A0 false ?_)
 conv=>whnf
 refine Av (A1t x) rfl (Ae ?_)
 refine Ai (Pn most 0 3000) rfl (Ae ?_)
 rw [hn]
 refine B6 A0 false [] (fun k:Nat=>[(8,.c (vi (k+1)))]) (fun k=>[⟨2,[.own 3,.c (vi (Ku x k).graph.workers),.c (vi (Ku x k).graph.cap),.own 4,.own 5,.own 6,.own 7,.c (vb (B8 (Ku x k)))]⟩,⟨1,[.c (.val (.slice none 0 0)),.c (vi 0),.c (vi 0),.c (.val (.slice none 0 0)),.c (.val (.slice none 0 0)),.c (.val (.slice none 0 0)),.c (.val (.slice none 0 0))]⟩]) (fun k=>[⟨8,D5 (Lx (Ge x))⟩,⟨3,Bb (Ku x k).graph.nodes⟩,⟨4,Ap (Ku x k).workers⟩,⟨5,Bu (Ku x k).links⟩,⟨6,Be (Ku x k).tokens⟩,⟨7,C3 (Ku x k).news⟩])
  (fun k=>k≤n∧∀i,i<k→(Cn (Ku x i)).2≠0) (fun k=>n-k) 0 ⟨Nat.zero_le _,by first|rfl|assumption|simp⟩ ⟨by first|rfl|simp [Cr,ren2,ren1,ren0],trivial⟩ Cp ⟨by first|rfl|exact (congrArg (fun l=>Cb _ _ l) (List.append_nil _)).symm|(show (_:Ab)=_;simp)|simp,by first|rfl|exact (congrArg (fun l=>Cb _ _ l) (List.append_nil _)).symm|(show (_:Ab)=_;simp)|simp,by first|rfl|exact (congrArg (fun l=>Cb _ _ l) (List.append_nil _)).symm|(show (_:Ab)=_;simp)|simp,by first|rfl|exact (congrArg (fun l=>Cb _ _ l) (List.append_nil _)).symm|(show (_:Ab)=_;simp)|simp,by first|rfl|exact (congrArg (fun l=>Cb _ _ l) (List.append_nil _)).symm|(show (_:Ab)=_;simp)|simp,by first|rfl|exact (congrArg (fun l=>Cb _ _ l) (List.append_nil _)).symm|(show (_:Ab)=_;simp)|simp,trivial⟩ Cc A5 (fun k hk=>?_)
 obtain ⟨hk,he⟩:=hk
 conv=>whnf
 conv=>whnf
 refine ⟨fun hlt=>?_,fun hlt=>?_⟩<;>conv=>whnf
 ·have hlt:k<n:=by have:=of_decide_eq_true hlt;omega
  have hw:=B5r x k
  have hP:Ge (Ku x k)=Ge x:=B20 (Zc x k)
  have hF1:(Bd (Ku x k) (Lx (Ge x))).1=Ku x (k+1):=by
   show _=(Cn (Ku x k)).1
   unfold Cn
   rw [hP]
  have hF2:cnt (Ku x k) (Lx (Ge x))=(Cn (Ku x k)).2:=by
   unfold Cn cnt
   rw [hP]
  refine K8 (B0c (Ku x k) (Lx (Ge x)) Ad (by rw [Zc];exact og)) hH hp rfl C1 rfl rfl (fun r2 hr2=>go A0 false ?_)
  conv=>whnf
  rw [hF1,hF2]
  refine ⟨fun h0=>have h0:=eq_of_beq h0;?_,fun h0=>have h0:=beq_eq_false_iff_ne.1 h0;?_⟩<;>conv=>whnf
  ·have h0:(Cn (Ku x k)).2=0:=by omega
   repeat refine B9 ?_
   rw [Rr hlt he h0]
   refine Ah A0 rfl rfl ?_
   exact C1
  ·have h0:(Cn (Ku x k)).2≠0:=by omega
   (repeat refine An ?_)
   refine At [(3,9),(4,10),(5,11),(6,12),(7,13)] (k+1) ⟨by omega,fun i hi=>(Nat.lt_succ_iff_lt_or_eq.1 hi).elim (fun h4=>he i h4) (fun h4=>by subst h4;exact h0)⟩ Ad ⟨rfl,trivial⟩ ⟨rfl,rfl,rfl,rfl,rfl,rfl,trivial⟩ Cp A5 Cc A5
 ·have hlt:¬ k<n:=by have:=of_decide_eq_false hlt;omega
  obtain rfl:k=n:=by omega
  repeat refine B9 ?_
  rw [Rq he]
  refine Ah A0 rfl rfl ?_
  exact C1
set_option maxHeartbeats 1000000 in
theorem Up (x:D9)(hx:x.w≤1040000+8576):Aq Tryz.prog 7 [.agg x.c] [.agg (Cs x).1.c,.one (Cx (Cs x).2.1),.one (vb (Cs x).2.2)]:=by
 have hw:x.graph.w+x.inputs.length+x.picks.length≤1040000+8576:=hx
 have h1:=Zl (g:=x.graph) (l:=x.inputs)
 have h2:=Ra (c:=(B4 x.graph x.inputs).1) (l:=x.picks)
 refine Aj A0 false Tryz.func7 rfl Bs fun W=>?_
 conv=>whnf
 refine Av (Po x.graph x.inputs Ad Ad) rfl (Ae ?_)
 refine ⟨fun hk=>?_,fun hk=>?_⟩<;>conv=>whnf
 ·have hk:(B4 x.graph x.inputs).2=false:=by simpa using hk
  rw [B28 hk]
  refine Rl 8 (Cx []) rfl Do ?_
  refine Ah A0 rfl rfl ?_
  exact C1
 have hk:(B4 x.graph x.inputs).2=true:=by simpa using hk
 repeat refine B9 ?_
 refine Av (A1w (B4 x.graph x.inputs).1 x.picks Ad (A5v hk)) rfl (Ae ?_)
 refine Av (Uh (Bd (B4 x.graph x.inputs).1 x.picks).1 x.rounds Ad (by rw [Nz];exact A5v hk)) rfl (Ae ?_)
 rw [A75 hk]
 refine Ah A0 rfl rfl ?_
 exact C1
set_option maxHeartbeats 4000000 in
theorem Xr (g:Ar)(l:List A3)(e:Int)(hg:g.w≤1040000+8576)(hl:l.length≤1040000+8576):Aq Tryz.prog 59 [.agg g.c,.one (A9 l),.one (vi e)] [.one (Ao (Hi g l e).1),.one (vb (Hi g l e).2)]:=by
 refine Aj A0 false Tryz.func59 rfl Bs fun W=>?_
 conv=>whnf
 refine Av (Po g l Ad Ad) rfl (Ae ?_)
 refine ⟨fun hk=>?_,fun hk=>?_⟩<;>conv=>whnf
 ·have hk:(B4 g l).2=false:=by simpa using hk
  repeat refine B9 ?_
  rw [B5s hk]
  refine Rl 7 (Ao []) rfl Do ?_
  refine Ah A0 rfl rfl ?_
  exact C1
 have hk:(B4 g l).2=true:=by simpa using hk
 have h0:=B2t hk
 have hw1:=Zl (g:=g) (l:=l)
 have hw2:=Pv 3000 (B4 g l).1
 have hl0:0<(Dj 3000 (B4 g l).1).1.workers.length:=by rw [Vz];exact h0
 have hwk:=A4.worker_le (Nat.le_refl (Dj 3000 (B4 g l).1).1.w) hl0
 repeat refine B9 ?_
 refine Av (Uh (B4 g l).1 3000 Ad (A5v hk)) rfl (Ae ?_)
 rw [B05]
 generalize hC:(Dj 3000 (B4 g l).1).1=C at *
 (repeat refine An ?_)
 refine Qg A0 rfl rfl rfl rfl rfl (jn:=0) rfl (r:=A6.c ((C.workers).getD (0) default)) rfl hl0 rfl rfl (fun u=>go A0 false ?_)
 conv=>whnf
 refine Ai (A6g (C.workers.getD 0 default) e Ad) rfl (Ae ?_)
 refine Kv 8 (0) [(0,12),(1,13),(2,14),(3,15),(4,16),(5,17),(6,18),(7,19)] (Ap C.workers) hl0 rfl rfl Lw rfl (Cm rfl) (Iy ?_)
 conv=>whnf
 first|(refine Ak 6 rfl [0,1,3,2,4,5,6,7,8,9,10] A5 (Ae ?_))
 refine Av (A1u C e Ad) rfl (Ae ?_)
 repeat refine B9 ?_
 refine ⟨fun h5=>?_,fun h5=>?_⟩<;>conv=>whnf
 ·repeat refine B9 ?_
  rw [A0q hk,hC,h5]
  refine Ah A0 rfl rfl ?_
  exact C1
 ·repeat refine B9 ?_
  rw [A0q hk,hC,h5]
  refine Ah A0 rfl rfl ?_
  exact C1
theorem Tl (g:Ar)(l:List A3)(e w k:Int)(hg:g.w≤1040000+8576)(hl:l.length≤1040000+8576):Aq Tryz.prog 20 [.agg g.c,.one (A9 l),.one (vi e),.one (vi w),.one (vi k)] [.one (Ao (Ec g l e w k).1),.one (vb (Ec g l e w k).2)]:=by
 refine Aj A0 false Tryz.func20 rfl Bs fun W=>?_
 conv=>whnf
 refine Av (Uq g w Ad) rfl (Ae ?_)
 refine Av (A4j {g with workers:=w} k (by show g.w≤_;omega)) rfl (Ae ?_)
 refine Av (Xr {g with workers:=w,cap:=k} l e hg hl) rfl (Ae ?_)
 refine Ah A0 rfl rfl ?_
 exact C1
theorem A36 (x:D9)(hx:x.w≤1040000+8576):(Cs x).1.w≤16777216:=by
 have hw:x.graph.w+x.inputs.length+x.picks.length≤1040000+8576:=hx
 have h1:=Zl (g:=x.graph) (l:=x.inputs)
 have h2:=Ra (c:=(B4 x.graph x.inputs).1) (l:=x.picks)
 have hb:=Ha x.rounds 0 3000 Bs
 have h3:=Pv (E7 x.rounds 0 3000).toNat (Bd (B4 x.graph x.inputs).1 x.picks).1
 unfold Cs
 split
 ·show (Dj _ _).1.w≤_
  omega
 ·show Ir.w≤_
  have:Ir.w=0:=rfl
  omega
theorem Yl (x:D9)(hx:x.w≤1040000+8576):(Cs x).2.1.length≤16777216:=by
 have hw:x.graph.w+x.inputs.length+x.picks.length≤1040000+8576:=hx
 unfold Cs
 split
 ·show (Bd _ _).2.length≤_
  rw [Pl]
  omega
 ·exact Nat.zero_le _
theorem A6n (g:Ar)(l:List A3)(e w k:Int)(hg:g.w≤1040000+8576):(Ec g l e w k).1.length≤16777216:=by
 have h1:=Zl (g:= {g with workers:=w,cap:=k}) (l:=l)
 have h2:=Pv 3000 (B4 {g with workers:=w,cap:=k} l).1
 have h3:Ar.w {g with workers:=w,cap:=k}=g.w:=rfl
 unfold Ec Hi
 split
 ·exact Nat.le_trans (List.length_filter_le _ _) (Nw (Ot Ad))
 ·exact Nat.zero_le _
end Go.Proofs.YtlbmkgkmbjadcaaGreat
