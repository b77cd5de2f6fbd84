/- Part 47 of the proof that each of the laws FnScriptsBack returns true for every input. No conditions. -/
import Derived.Test.YtmhcebdkjgkmlaaGreatDoorR41
import Derived.Test.YtmhcebdkjgkmlaaGreatDoorR40
import Derived.Test.YtmhcebdkjgkmlaaGreatDoorR42
import Derived.Test.YtmhcebdkjgkmlaaGreatDoorR14
import Derived.Test.YtmhcebdkjgkmlaaGreatDoorR45
import Derived.Test.YtmhcebdkjgkmlaaGreatDoorR46

set_option linter.unusedSimpArgs false
set_option linter.unusedVariables false
set_option maxRecDepth 100000
namespace Go.Proofs.YtmhcebdkjgkmlaaGreatDoor
open Go.Sx
theorem A3u (c:A3)(e:Int):(Dc c e).1.az=c.az:=by
 unfold Dc
 dsimp only
 repeat' split
 all_goals first
  |rfl
  |(unfold Ll;split<;>rfl)
theorem B8v (c:A3)(p:Cs):(At c p).1.az=c.az:=by
 unfold At
 split
 ·unfold Fy;split<;>rfl
 split
 ·unfold Ey;split<;>rfl
 split
 ·unfold D4;repeat' split
  all_goals rfl
 split
 ·unfold Ek;split<;>rfl
 split
 ·unfold F5;split<;>rfl
 split
 ·exact A3u c p.a
 split
 ·unfold Fj;repeat' split
  all_goals rfl
 rfl
theorem B5s (l:List Cs):∀s:A3×List Bool,(l.foldl Jy s).1.az=s.1.az:=by
 induction l with
 |nil=>intro s;rfl
 |cons p r ih=>intro s;exact (ih (Jy s p)).trans (B8v s.1 p)
theorem U2 (c:A3)(l:List Cs):(B0 c l).1.az=c.az:=B5s l (c,[])
theorem B0a (c:A3)(k:Nat):(Pg c k).az=c.az:=by
 induction k with
 |zero=>rfl
 |succ k ih=>exact (U2 (Pg c k) _).trans ih
theorem C6k {c d:A3}(h:d.az=c.az):Iv d=Iv c:=by
 unfold Iv;rw [h]
def cnt (c:A3) (l:List Cs):Nat:=((B0 c l).2.filter id).length
theorem A11 {c:A3}{p:Cs}(h3:p.kind≠3)(h4:p.kind≠4):Av (At c p).1=Av c:=by
 by_cases hc:B1 c
 ·rw [B6a hc,Ab h3,Ab h4]
  exact (D7 hc).symm
 rw [B0r hc]
set_option maxHeartbeats 4000000 in
theorem B56 (x:A3)(p:Cs)(h:x.w≤8000000)(og:Js .i64 x.az.aq):MtR (fun _=>True) 127 [] (rc x) [.agg p.c] (fun _:Unit=>True) (fun _=>rc (At x p).1) (fun _=>[.one (vb (At x p).2)]):=by
 refine zeP Tryz.func127 fun B b hH hp=>?_;refine Mf (fun k1=>?_) fun k1=>?_
 ·have hfl:=A11 (c:=x) (p:=p) A7 A7
  refine Ix (C67 x p.a A7) hH hp fun r hr=>?_
  have hz:rc (At x p).1=rcb (Fy x p.a).1 (Av x):=by
   have e:At x p=Fy x p.a:=by unfold At;rw [Ah k1]
   show rcb (At x p).1 (Av (At x p).1)=_
   rw [hfl,e]
  have hv:(At x p).2=(Fy x p.a).2:=by unfold At;rw [Ah k1]
  rw [hz,hv];exact Iy () trivial
 refine Mf (fun k2=>?_) fun k2=>?_
 ·have hfl:=A11 (c:=x) (p:=p) A7 A7
  refine Ix (C24 x p.a A7) hH hp fun r hr=>?_
  have hz:rc (At x p).1=rcb (Ey x p.a).1 (Av x):=by
   have e:At x p=Ey x p.a:=by unfold At;rw [Ab k1,Ah k2]
   show rcb (At x p).1 (Av (At x p).1)=_
   rw [hfl,e]
  have hv:(At x p).2=(Ey x p.a).2:=by unfold At;rw [Ab k1,Ah k2]
  rw [hz,hv];exact Iy () trivial
 refine Mf (fun k3=>?_) fun k3=>?_
 ·refine Ix (C65 x p.a h og) hH hp fun r hr=>?_
  have e:At x p=D4 x p.a:=by unfold At;rw [Ab k1,Ab k2,Ah k3]
  rw [e];exact Iy () trivial
 refine Mf (fun k4=>?_) fun k4=>?_
 ·refine Ix (C66 x p.a p.b h og) hH hp fun r hr=>?_
  have e:At x p=Ek x p.a p.b:=by unfold At;rw [Ab k1,Ab k2,Ab k3,Ah k4]
  rw [e];exact Iy () trivial
 have hfl:=A11 (c:=x) (p:=p) k3 k4;refine Mf (fun k5=>?_) fun k5=>?_
 ·refine Ix (B8k x p.a p.b A7 og) hH hp fun r hr=>?_
  have hz:rc (At x p).1=rcb (F5 x p.a p.b).1 (Av x):=by
   have e:At x p=F5 x p.a p.b:=by unfold At;rw [Ab k1,Ab k2,Ab k3,Ab k4,Ah k5]
   show rcb (At x p).1 (Av (At x p).1)=_
   rw [hfl,e]
  have hv:(At x p).2=(F5 x p.a p.b).2:=by unfold At;rw [Ab k1,Ab k2,Ab k3,Ab k4,Ah k5]
  rw [hz,hv];exact Iy () trivial
 refine Mf (fun k6=>?_) fun k6=>?_
 ·refine Ix (C27 x p.a A7) hH hp fun r hr=>?_
  have hz:rc (At x p).1=rcb (Dc x p.a).1 (Av x):=by
   have e:At x p=Dc x p.a:=by unfold At;rw [Ab k1,Ab k2,Ab k3,Ab k4,Ab k5,Ah k6]
   show rcb (At x p).1 (Av (At x p).1)=_
   rw [hfl,e]
  have hv:(At x p).2=(Dc x p.a).2:=by unfold At;rw [Ab k1,Ab k2,Ab k3,Ab k4,Ab k5,Ah k6]
  rw [hz,hv];exact Iy () trivial
 refine Mf (fun k7=>?_) fun k7=>?_
 ·refine Ix (C62 x p.a A7) hH hp fun r hr=>?_
  have hz:rc (At x p).1=rcb (Fj x p.a).1 (Av x):=by
   have e:At x p=Fj x p.a:=by unfold At;rw [Ab k1,Ab k2,Ab k3,Ab k4,Ab k5,Ab k6,Ah k7]
   show rcb (At x p).1 (Av (At x p).1)=_
   rw [hfl,e]
  have hv:(At x p).2=(Fj x p.a).2:=by unfold At;rw [Ab k1,Ab k2,Ab k3,Ab k4,Ab k5,Ab k6,Ah k7]
  rw [hz,hv];exact Iy () trivial
 have e:At x p=(x,false):=by unfold At;rw [Ab k1,Ab k2,Ab k3,Ab k4,Ab k5,Ab k6,Ab k7]
 rw [e];exact Iy () trivial
set_option maxHeartbeats 4000000 in
theorem B21 (x:A3)(l:List Cs)(h:x.w+4 * l.length≤8000000)(og:Js .i64 x.az.aq):Df 63 [.agg x.c,.one (Ch l)] [.agg (B0 x l).1.c,.one (Dz (B0 x l).2)]:=by
 refine Dy Tryz.func63 fun W=>?_;have hp:Ln ⟨W,fun _=>False⟩ []:=fun _ h=>by cases h
 have hH:∀w,Er.rel ⟨W,fun _=>False⟩ w→True:=fun _ _=>trivial
 refine B3r (B02 x A7) hp rfl (fun r hr=>go A0 false ?_);conv=>whnf
 refine Fi 8 (Dz []) rfl Dx ?_;refine Fs [11] (fun k:Nat=>[(8,.c (vi k))]) (fun k=>[⟨2,[.own 3,.c (vi (B0 x (l.take k)).1.az.aq),.c (vi (B0 x (l.take k)).1.az.cap),.own 4,.own 5,.own 6,.own 7,.c (vb (Av (B0 x (l.take k)).1))]⟩,⟨1,[.c (.val (.slice none 0 0)),.c (vi 0),.c (vi 0),.c (.val (.slice none 0 0)),.c (.val (.slice none 0 0)),.c (.val (.slice none 0 0)),.c (.val (.slice none 0 0))]⟩]) (fun k=>[⟨8,Dz (B0 x (l.take k)).2⟩,⟨3,Ay (B0 x (l.take k)).1.az.ay⟩,⟨4,Ai (B0 x (l.take k)).1.aq⟩,⟨5,Bo (B0 x (l.take k)).1.ak⟩,⟨6,B4 (B0 x (l.take k)).1.ar⟩,⟨7,C4 (B0 x (l.take k)).1.au⟩]) (fun k=>k≤l.length) (fun k=>l.length-k) fun k hk=>?_;conv=>whnf
 refine E3 (fun hlt=>?_) fun hlt=>?_
 ·have hlt:k<l.length:=by omega
  have hw:=Yy (c:=x) (l:=l.take k);have hn:=W5 (c:=x) (l:=l.take k);have ht:(l.take k).length=k:=by rw [G2];omega
  have hs:=A1w (c:=x) hlt;refine B6 ?_;refine Ix (B56 (B0 x (l.take k)).1 (l.getD k default) A7 (by rw [U2];exact og)) hH hp fun r2 hr2=>?_;refine Bg A0 rfl (Dz ((B0 x (l.take k)).2++[(At (B0 x (l.take k)).1 (l.getD k default)).2])) (An rfl) Ij A7 (F1 ?_);refine A58 [(3,9),(4,10),(5,11),(6,12),(7,13),(8,15)] (k+1) A7 A7 ⟨rfl,trivial⟩ ⟨A6 Dz (by rw [hs];rfl),A6 (fun s:A3×List Bool=>Ay s.1.az.ay) hs.symm,A6 (fun s:A3×List Bool=>Ai s.1.aq) hs.symm,A6 (fun s:A3×List Bool=>Bo s.1.ak) hs.symm,A6 (fun s:A3×List Bool=>B4 s.1.ar) hs.symm,A6 (fun s:A3×List Bool=>C4 s.1.au) hs.symm,trivial⟩ (by rw [hs];repeat' (first|exact trivial|exact rfl|refine ⟨?_,?_⟩)) Ak ab8 Ak
 obtain rfl:k=l.length:=by omega
 rw [H5];refine Ar ?_;exact Dk
set_option maxHeartbeats 4000000 in
theorem C26 (x:A3)(l:List Cs)(h:x.w+4 * l.length≤8000000)(og:Js .i64 x.az.aq):MtR (fun _=>True) 99 [] (rc x) [.one (Ch l)] (fun _:Unit=>True) (fun _=>rc (B0 x l).1) (fun _=>[.one (vi (cnt x l))]):=by
 refine zeP Tryz.func99 fun B b hH hp=>?_;refine Fs [] (fun k:Nat=>[(6,.c (vi k)),(5,.c (vi (cnt x (l.take k))))]) (fun k=>[⟨0,[.own 1,.c (vi (B0 x (l.take k)).1.az.aq),.c (vi (B0 x (l.take k)).1.az.cap),.own 2,.own 3,.own 4,.own 5,.c (vb (Av (B0 x (l.take k)).1))]⟩]) (fun k=>[⟨1,Ay (B0 x (l.take k)).1.az.ay⟩,⟨2,Ai (B0 x (l.take k)).1.aq⟩,⟨3,Bo (B0 x (l.take k)).1.ak⟩,⟨4,B4 (B0 x (l.take k)).1.ar⟩,⟨5,C4 (B0 x (l.take k)).1.au⟩]) (fun k=>k≤l.length) (fun k=>l.length-k) fun k hk=>?_;conv=>whnf
 refine E3 (fun hlt=>?_) fun hlt=>?_
 ·have hlt:k<l.length:=by omega
  have hw:=Yy (c:=x) (l:=l.take k);have hn:=W5 (c:=x) (l:=l.take k);have ht:(l.take k).length=k:=by rw [G2];omega
  have hs:=A1w (c:=x) hlt
  have hcn:cnt x (l.take (k+1))=cnt x (l.take k)+if (At (B0 x (l.take k)).1 (l.getD k default)).2=true then 1 else 0:=by
   unfold cnt;rw [hs]
   show ((((B0 x (l.take k)).2++[(At (B0 x (l.take k)).1 (l.getD k default)).2]).filter id)).length=_
   rw [List.filter_append,Dn]
   cases (At (B0 x (l.take k)).1 (l.getD k default)).2<;>rfl
  have hcl:cnt x (l.take k)≤k:=by
   unfold cnt;exact G0 (Pm _ _) A7
  refine B6 ?_;refine Ix (B56 (B0 x (l.take k)).1 (l.getD k default) A7 (by rw [U2];exact og)) hH hp fun r2 hr2=>?_;refine C2 (fun hb=>?_) fun hb=>?_
  ·rw [Ah hb] at hcn
   refine B6 ?_;refine A58 [(1,6),(2,7),(3,8),(4,9),(5,10)] (k+1) A7 A7 ⟨rfl,A6 (fun n:Nat=>AV.c (vi (n:Int))) hcn.symm,trivial⟩ ⟨A6 (fun s:A3×List Bool=>Ay s.1.az.ay) hs.symm,A6 (fun s:A3×List Bool=>Ai s.1.aq) hs.symm,A6 (fun s:A3×List Bool=>Bo s.1.ak) hs.symm,A6 (fun s:A3×List Bool=>B4 s.1.ar) hs.symm,A6 (fun s:A3×List Bool=>C4 s.1.au) hs.symm,trivial⟩ (by rw [hs];repeat' (first|exact trivial|exact rfl|refine ⟨?_,?_⟩)) Ak ab8 Ak
  rw [Ab (by rw [hb];decide)] at hcn;refine B6 ?_;refine A58 [(1,6),(2,7),(3,8),(4,9),(5,10)] (k+1) A7 A7 ⟨rfl,A6 (fun n:Nat=>AV.c (vi (n:Int))) hcn.symm,trivial⟩ ⟨A6 (fun s:A3×List Bool=>Ay s.1.az.ay) hs.symm,A6 (fun s:A3×List Bool=>Ai s.1.aq) hs.symm,A6 (fun s:A3×List Bool=>Bo s.1.ak) hs.symm,A6 (fun s:A3×List Bool=>B4 s.1.ar) hs.symm,A6 (fun s:A3×List Bool=>C4 s.1.au) hs.symm,trivial⟩ (by rw [hs];repeat' (first|exact trivial|exact rfl|refine ⟨?_,?_⟩)) Ak ab8 Ak
 obtain rfl:k=l.length:=by omega
 rw [H5];refine Ar ?_;exact Iy () trivial
set_option maxHeartbeats 4000000 in
theorem B54 (x:A3)(most:Int)(h:x.w≤6000000)(og:Js .i64 x.az.aq):Df 47 [.agg x.c,.one (vi most)] [.agg (H0 (E5 most 0 3000).toNat x).1.c,.one (vi (H0 (E5 most 0 3000).toNat x).2)]:=by
 have hb:=Hn most 0 3000 Bk;have hal:=Zg x;obtain ⟨n,hn⟩:∃n:Nat,E5 most 0 3000=n:=⟨(E5 most 0 3000).toNat,by omega⟩;rw [hn,Cp];refine Dy Tryz.func47 fun W=>?_;have hp:Ln ⟨W,fun _=>False⟩ []:=fun _ h=>by cases h
 have hH:∀w,Er.rel ⟨W,fun _=>False⟩ w→True:=fun _ _=>trivial
 refine B3r (B02 x A7) hp rfl (fun r hr=>go A0 false ?_);conv=>whnf
 refine Hp (B2x x) ?_;refine Fh (Ou most 0 3000) ?_;rw [hn];refine Fs [] (fun k:Nat=>[(8,.c (vi (k+1)))]) (fun k=>[⟨2,[.own 3,.c (vi (Pg x k).az.aq),.c (vi (Pg x k).az.cap),.own 4,.own 5,.own 6,.own 7,.c (vb (Av (Pg x k)))]⟩,⟨1,[.c (.val (.slice none 0 0)),.c (vi 0),.c (vi 0),.c (.val (.slice none 0 0)),.c (.val (.slice none 0 0)),.c (.val (.slice none 0 0)),.c (.val (.slice none 0 0))]⟩]) (fun k=>[⟨8,Ch (R2 (Iv x))⟩,⟨3,Ay (Pg x k).az.ay⟩,⟨4,Ai (Pg x k).aq⟩,⟨5,Bo (Pg x k).ak⟩,⟨6,B4 (Pg x k).ar⟩,⟨7,C4 (Pg x k).au⟩]) (fun k=>k≤n∧∀i,i<k→(Ck (Pg x i)).2≠0) (fun k=>n-k) fun k hk=>?_;obtain ⟨hk,he⟩:=hk;conv=>whnf
 refine C2 (fun hlt=>?_) fun hlt=>?_
 ·have hlt:k<n:=by have:=Bp hlt;omega
  have hw:=D0j x k;have hP:Iv (Pg x k)=Iv x:=C6k (B0a x k)
  have hF1:(B0 (Pg x k) (R2 (Iv x))).1=Pg x (k+1):=by
   show _=(Ck (Pg x k)).1
   unfold Ck;rw [hP]
  have hF2:cnt (Pg x k) (R2 (Iv x))=(Ck (Pg x k)).2:=by
   unfold Ck cnt;rw [hP]
  refine Ix (C26 (Pg x k) (R2 (Iv x)) A7 (by rw [B0a];exact og)) hH hp fun r2 hr2=>?_;rw [hF1,hF2];refine Mf (fun h0=>?_) fun h0=>?_
  ·have h0:(Ck (Pg x k)).2=0:=by omega
   refine Ar ?_;rw [Zs hlt he h0];exact Dk
  have h0:(Ck (Pg x k)).2≠0:=by omega
  refine B6 ?_;refine Co [(3,9),(4,10),(5,11),(6,12),(7,13)] (k+1) ⟨by omega,fun i hi=>(Wl.1 hi).elim (fun h4=>he i h4) (fun h4=>by subst h4;exact h0)⟩ A7 ⟨rfl,trivial⟩ ⟨rfl,rfl,rfl,rfl,rfl,rfl,trivial⟩
 have hlt:¬ k<n:=by have:=Cy hlt;omega
 obtain rfl:k=n:=by omega
 refine Ar ?_;rw [Zr he];exact Dk
set_option maxHeartbeats 1000000 in
theorem A3s (x:B5)(hx:x.w≤1040000+8576):Df 24 [.agg x.c] [.agg (Fa x).1.c,.one (Dz (Fa x).2.1),.one (vb (Fa x).2.2)]:=by
 have hw:x.az.w+x.ap.length+x.an.length≤1040000+8576:=hx;have h1:=C59 (g:=x.az) (l:=x.ap);have h2:=Yy (c:=(C9 x.az x.ap).1) (l:=x.an);refine Dy Tryz.func24 fun W=>?_;refine Hp (A7f x.az x.ap A7 A7) ?_;refine C2 (fun hk=>?_) fun hk=>?_
 ·have hk:(C9 x.az x.ap).2=false:=by simpa using hk
  rw [B8c hk];refine R9 8 (Dz []) rfl Dx ?_;exact Dk
 have hk:(C9 x.az x.ap).2=true:=by simpa using hk
 refine Ar ?_;refine Hp (B21 (C9 x.az x.ap).1 x.an A7 (C58 hk)) ?_;refine Hp (B54 (B0 (C9 x.az x.ap).1 x.an).1 x.aa A7 (by rw [U2];exact C58 hk)) ?_;rw [C0b hk];exact Dk
theorem A60 (x:ByteArray):(Ct x).1.w≤324∧(Ct x).1.an.length≤200:=by
 have h0:(default:B5).w≤324∧(default:B5).an.length≤200:=⟨Ff _,Ff _⟩;unfold Ct
 split
 ·exact h0
 split
 ·exact h0
 rename_i hbad
 dsimp only
 split
 ·have hg:Rz (Bh x) (Bh x).length:=fun j hj=>by simpa using List.find?_range_eq_none.1 hbad j hj
  have:=B03 (Bh x).length (Bu _) hg
  exact ⟨this.w.2,this.2.2.2⟩
 exact h0
theorem B8f (l:List ByteArray)(hl:l.length≤2000000):Df 25 [.one (En l),.one (En l)] [.one (vb true)]:=by
 refine Dy Tryz.func25 fun W=>?_;refine Xi (fun hn=>?_) fun hn=>?_
 ·omega
 refine Fs [] (fun k:Nat=>[(5,.c (vi k))]) (fun k=>[]) (fun k=>[]) (fun k=>k≤l.length) (fun k=>l.length-k) fun k hk=>?_;refine E3 (fun h=>?_) fun h=>?_
 ·have h:k<l.length:=by omega
  first|(refine Ae 6 rfl [0,1,2,3,4,5,6,7,8] Ak (Ag ?_))
  refine B6 ?_;refine A20 (by rw [Fm];rfl) ?_;conv=>whnf
  refine B6 ?_;refine Co [] (k+1) A7 A7 ⟨rfl,trivial⟩ trivial
 exact Dk
variable {s : B5}
theorem A89 (h:(Fa s).2.2=true):Xg s.az s.ap:=by
 by_cases hn:Xg s.az s.ap
 ·exact hn
 rw [B8c (by rw [N4 hn])] at h
 cases h
theorem A9a (h:s.w≤1200):(Fa s).1.w≤540000∧(Fa s).2.1.length≤1200:=by
 have hw:s.az.w+s.ap.length+s.an.length≤1200:=h;have h1:=C59 (g:=s.az) (l:=s.ap);have h2:=Yy (c:=(C9 s.az s.ap).1) (l:=s.an);have hb:=Hn s.aa 0 3000 Bk;have h3:=C1z (E5 s.aa 0 3000).toNat (B0 (C9 s.az s.ap).1 s.an).1;unfold Fa
 split
 ·refine ⟨?_,?_⟩
  ·show (H0 _ _).1.w≤_
   omega
  show (B0 _ _).2.length≤_
  rw [W5];omega
 exact ⟨Ff _,Ff _⟩
theorem B7t (h:C3t s):(Aw s).length≤60:=by
 have h1:=h.2.1.2;have h2:=h.2.2.1;have h3:=h.2.2.2.1.1;rw [Aw]
 split<;>simp<;>omega
theorem B00 (L:List ByteArray)(k:Nat)(h:k<L.length):Oq (L.take (k+1))=Oq (L.take k)++L.getD k default++⟨#[10,32,10]⟩:=by
 have e:Zi (L.take (k+1))=Zi (L.take k)++((L.getD k default).data.toList++[10,32,10]):=by
  unfold Zi;exact B1o _ _ _ h
 apply Qx
 simp [Oq,e,Wp]
theorem A1x {L:List ByteArray}(h:∀l∈L,l.size≤300):∀k,k≤L.length→(Oq (L.take k)).size≤8+303 * k
 | 0,_=>by rw [List.take_zero];decide
 |k+1,hk=>by
  have h1:=A1x h k A7;have h2:=Xd L k 300 h;rw [B00 L k A7];simp only [H4,Xl,Gh,Ep,Hi];omega
set_option maxHeartbeats 4000000 in
theorem A8t (xs:List UInt8):Ex Tryz.prog Tab 6 [.one (W6 xs)] [.one (vb true)]:=by
 have hb3:=Qd ⟨#[103,114,97,112,104,32,49,32,49,10,110,111,100,101,32,105,110,32,48,32,48,10,119,97,108,107]⟩ Bk;obtain ⟨z3,hz3⟩:∃z,Ct ⟨#[103,114,97,112,104,32,49,32,49,10,110,111,100,101,32,105,110,32,48,32,48,10,119,97,108,107]⟩=(z,3):=⟨_,Prod.ext rfl C07⟩;rw [hz3] at hb3;refine C8h A0 false Tryz.func6 rfl Bk fun W hW a cp hp=>?_;conv=>whnf
 have hH:∀w,Er.rel ⟨W,fun _=>False⟩ w→HT w:=fun _ _=>trivial
 refine Fh (D09 a xs.length cp) ?_;refine C2 (fun hb=>?_) fun hb=>?_
 ·exact Af A0 rfl rfl ⟨rfl,trivial⟩
 have hb:(xs.length:Int)≤16777216:=by have:=Cy hb;omega
 let d:Ig:=⟨a,xs.length,cp,fun i=>(xs.getD i default).toNat,fun i=>by have:=(xs.getD i default).toNat_lt;omega,by omega⟩
 have hp:Ln ⟨W,fun _=>False⟩ d.pins:=hp
 refine D0f (C8a d) hp rfl (fun x hx=>go A0 false ?_);conv=>whnf
 have hxl:=B7t hx;have hsm:=B40 hx.1.1 hx.2.1.1;have hrs:=A9a hx.1.2;have hxw:=hx.1.2;refine F4 (A3p x hx.1.1 A7) C6 hW rfl (Ag ?_);refine Fh (A3o x A7) ?_;refine Fh (A3s x A7) ?_;refine Fh (Us x hx.1.1 A7) ?_;refine Ao (B8f (Aw x) A7) rfl (Ft ?_);refine Ao (B7v (Fa x).1 A7) rfl (Ft ?_);have eb:decide ((Fa x).2.1=(Fa x).2.1)=true:=D7 rfl;refine Ao (B2e (Fa x).2.1 (Fa x).2.1 A7 A7) rfl (Ft ?_);refine D0f (D00 d) hp rfl (fun ab hab=>go A0 false ?_);conv=>whnf
 refine C4c (C79 d) hH hp rfl (fun t ht=>go A0 false ?_);conv=>whnf
 refine F4 (Qd t A7) C6 hW rfl (Ag ?_);refine Fh (A7m t A7) ?_;have hrt:=(A60 t).1;have hab1:=hab.1;have hab2:=hab.2;have es:decide ((Ct t).1=(Ct t).1)=true:=D7 rfl
 first|(refine Ae 13 rfl [0,1,3,4,2,5,6,7,8,9,10,11,12,13,14,15,16,17] Ak (Ag ?_))
 refine Ar ?_;refine Ao (A5z ab.1 ab.2 A7 A7) rfl (Ft ?_);refine Ao (A59 ab.1 ab.2 A7 A7) rfl (Ft ?_);refine Ao (A59 (Ct t).1 (Ct t).1 A7 A7) rfl (Ft ?_);have hlw:∀l∈Aw x,l.size≤300:=hsm;refine Fs [] (fun k:Nat=>[(18,.c (vs (Oq ((Aw x).take k)))),(19,.c (vi k))]) (fun k=>[⟨0,[.c (Ay x.az.ay),.c (vi x.az.aq),.c (vi x.az.cap),.c (Aa x.ap),.c (Ch x.an),.c (vi x.aa)]⟩]) (fun k=>[]) (fun k=>k≤(Aw x).length) (fun k=>(Aw x).length-k) fun k hk=>?_;refine E3 (fun h'=>?_) fun h'=>?_
 ·have h':k<(Aw x).length:=by omega
  have h1:=A1x hsm k A7;have h2:=Xd (Aw x) k 300 hsm
  have h3:(Oq ((Aw x).take k)++(Aw x).getD ((k:Int).toNat) default).size+(⟨#[10,32,10]⟩:ByteArray).size≤9223372036854775807:=by
   simp only [H4,Xl,Gh,Ep,Hi,Cp];omega
  refine Ar ?_;refine Co [] (k+1) A7 A7 ⟨A6 (fun b=>AV.c (vs b)) (B00 _ k h').symm,rfl,trivial⟩ trivial
 have e:k=(Aw x).length:=by omega
 have e2:(Aw x).take k=Aw x:=by rw [e,H5]
 have h4:=A1x hsm (Aw x).length A7;rw [H5] at h4;rw [e2];obtain ⟨zr,hzr⟩:∃z,z=Ct (Oq (Aw x)):=⟨_,rfl⟩;have hb4:=Qd (Oq (Aw x)) A7;rw [←hzr] at hb4;refine F4 (hb4) C6 hW rfl (Ag ?_);refine F4 (hb3) C6 hW rfl (Ag ?_);refine C2 (fun ho=>?_) fun ho=>?_
 ·refine Ar ?_
  exact Af A0 rfl rfl ⟨rfl,trivial⟩
 have hok:(Fa x).2.2=true:=by simpa using ho
 refine Ar ?_;refine C2 (fun hz=>?_) fun hz=>?_
 ·refine Ar ?_
  exact Af A0 rfl rfl ⟨rfl,trivial⟩
 have hz:¬ 12000<(Oq (Aw x)).size:=by have:=Cy hz;omega
 have hsb:=B5u (A89 hok) hx.2.2.2.1.2 (by have:=hx.2.2.2.1.1;omega) (by rcases hx.2.2.2.2 with e|e|e<;>rw [e]<;>decide) (fun l hl=>G0 (hsm l hl) Bk) hz
 rw [hsb] at hzr;subst hzr;refine Ar ?_;refine Ao (A59 x x A7 A7) rfl (Ft ?_);exact Af A0 rfl rfl ⟨rfl,trivial⟩
end Go.Proofs.YtmhcebdkjgkmlaaGreatDoor
