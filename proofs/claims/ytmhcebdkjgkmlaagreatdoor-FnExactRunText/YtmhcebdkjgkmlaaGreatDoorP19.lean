/- Part 19 of the proof that each of the laws FnExactWhoIsDone, FnExactResultText, FnExactRunText returns true for every input. No conditions. -/
import Derived.Test.YtmhcebdkjgkmlaaGreatDoorP18

set_option linter.unusedSimpArgs false
set_option linter.unusedVariables false
set_option maxRecDepth 100000
namespace Go.Proofs.YtmhcebdkjgkmlaaGreatDoor
open Go.Sx
def Bv (x:ByteArray):A3×List Bool×Bool×Int:=
 if (B6 x).2=0 then ((Ek (B6 x).1).1,(Ek (B6 x).1).2.1,(Ek (B6 x).1).2.2,0) else (L3,[],false,(B6 x).2)
variable {x : ByteArray}
theorem Mh (h:(B6 x).2=0):Bv x=((Ek (B6 x).1).1,(Ek (B6 x).1).2.1,(Ek (B6 x).1).2.2,0):=Ak h
theorem O1 (h:¬ (B6 x).2=0):Bv x=(L3,[],false,(B6 x).2):=Ab h
theorem N7 (x:ByteArray):(B6 x).1.w≤324∧(B6 x).1.aa.length≤200:=by
 have h0:(default:Db).w≤324∧(default:Db).aa.length≤200:=⟨Fk _,Fk _⟩;unfold B6
 split
 ·exact h0
 split
 ·exact h0
 rename_i hbad
 dsimp only
 split
 ·have hg:Rz (Bk x) (Bk x).length:=fun j hj=>by simpa using List.find?_range_eq_none.1 hbad j hj
  have:=B2l (Bk x).length (Df _) hg
  exact ⟨this.w.2,this.2.2.2⟩
 exact h0
theorem A10 {s:Db}(h:s.w≤324):(Ek s).1.w≤540000∧(Ek s).2.1.length≤324:=by
 have hw:s.az.w+s.au.length+s.aa.length≤324:=h;have h1:=C7k (g:=s.az) (l:=s.au);have h2:=Zq (c:=(Bg s.az s.au).1) (l:=s.aa);have hb:=Hc s.bq 0 3000 Cw;have h3:=B1g (Dl s.bq 0 3000).toNat (Aw (Bg s.az s.au).1 s.aa).1;unfold Ek
 split
 ·refine ⟨?_,?_⟩
  ·show (E5 _ _).1.w≤_
   omega
  show (Aw _ _).2.length≤_
  rw [Wp];omega
 exact ⟨Fk _,Fk _⟩
theorem Jn (x:ByteArray):(Bv x).1.w≤540000∧(Bv x).2.1.length≤324:=by
 by_cases h:(B6 x).2=0
 ·rw [Mh h]
  exact A10 (N7 x).1
 rw [O1 h];exact ⟨Fk _,Fk _⟩
theorem B7o (h:(Bv x).2.2.1=true):OkQ (Bv x).1∧H1 (Bv x).1:=by
 by_cases hr:(B6 x).2=0
 ·rw [Mh hr] at h ⊢
  refine Yo ?_
  by_cases hk:(Bg (B6 x).1.az (B6 x).1.au).2=true
  ·exact hk
  rw [A8w (by simpa using hk)] at h
  cases h
 rw [O1 hr] at h
 cases h
theorem Uc (x:ByteArray):(Bv x).1.ok:=by
 by_cases hr:(B6 x).2=0
 ·have:=(A10 (N7 x).1).1
  rw [Mh hr];exact B4d A7
 rw [O1 hr];exact A1r
theorem C3p (n:Nat):∀c:A3,M0 c→M0 (E5 n c).1:=by
 induction n with
 |zero=>intro c h;exact h
 |succ n ih=>
  intro c h;unfold E5
  split
  ·exact A25 h
  exact ih _ (A25 h)
theorem B7n (x:ByteArray):M0 (Bv x).1:=by
 by_cases hr:(B6 x).2=0
 ·rw [Mh hr]
  by_cases hk:(Bg (B6 x).1.az (B6 x).1.au).2=true
  ·rw [A5z hk]
   exact C3p _ _ (A11 B30)
  rw [A8w (by simpa using hk)];exact fun k hk=>by cases hk
 rw [O1 hr];exact fun k hk=>by cases hk
theorem Zu (x:ByteArray)(hx:x.size≤1048576):Dj 41 [.one (vs x)] [.agg (Bv x).1.c,.one (D9 (Bv x).2.1),.one (vb (Bv x).2.2.1),.one (vi (Bv x).2.2.2)]:=by
 have hs:=(N7 x).1;refine E3 Tryz.func41 fun W=>?_;refine F0 (A89 x hx) ?_;refine zne (fun h=>?_) fun h=>?_
 ·rw [O1 h]
  refine Q2 2 (D9 []) rfl C3 ?_;exact D0
 refine Gg (A5f (B6 x).1 A7) ?_;rw [Mh h];exact D0
theorem Tz (x:ByteArray)(hx:x.size≤1048576):Dy Tryz.prog Vb 43 [.one (vs x)] [.agg (Bv x).1.c,.one (D9 (Bv x).2.1),.one (vi (Bv x).2.2.2),.one (vb (Bv x).2.2.1)]:=by
 have hs:=(N7 x).1;refine Ga A0 false Tryz.func43 rfl Cw fun W hW=>?_;conv=>whnf
 refine Dt (A7p x hx) B3 hW rfl (Aj ?_);refine zne (fun h=>?_) fun h=>?_
 ·rw [O1 h]
  exact D0
 refine Gg (A5b (B6 x).1 A7) ?_;rw [Mh h];exact D0
def Wt (p:Nat→Bool) (n:Nat):List Int:=(List.range n).flatMap fun k=>if p k then [(k:Int)] else []
theorem Zx (p:Nat→Bool)(k:Nat):Wt p (k+1)=Wt p k++if p k then [(k:Int)] else []:=Pj _ _
theorem A3f (p:Nat→Bool)(k:Nat):(Wt p k).length≤k:=by
 induction k with
 |zero=>exact Df _
 |succ k ih=>rw [Zx,D7];split<;>simp<;>omega
theorem D28 (x:A3)(hx:x.w≤16777216)(f:Nat)(cs ds:List Ag)(p:Nat→Bool)(hf:∀k:Nat,k<x.aq.length→Dj f [.one (vi k),.ptr cs,.ptr ds] [.one (vb (p k))]):
  Dj 44 [.agg x.c,.fn f [.ptr cs,.ptr ds]] [.one (Ej (Wt p x.aq.length))]:=by
 have hl:=A3.workers_le hx;refine E3 Tryz.func44 fun W=>?_;refine U4 5 1 (fun i=>(fun n=>[vi n]) (([]:List Int).getD i default)) rfl ?_;refine Fv [] (fun k:Nat=>[(10,.c (vi k))]) (fun k=>[]) (fun k=>[⟨1,Ej (Wt p k)⟩]) (fun k=>k≤x.aq.length) (fun k=>x.aq.length-k) fun k hk=>?_;refine Eh (fun h'=>?_) fun h'=>?_
 ·have h':k<x.aq.length:=by omega
  have ht:=Zx p k;have hn:=A3f p k;refine B8 ?_;refine F0 (hf k h') ?_;refine Cc (fun hc=>?_) fun hc=>?_
  ·refine B8 ?_
   refine B9 A0 rfl (Ej (Wt p k++[(k:Int)])) (Ao rfl) Hy A7 (Er ?_);refine Ci [(1,3)] (k+1) A7 A7 ⟨rfl,trivial⟩ ⟨A6 Ej (by rw [ht,Ak hc]),trivial⟩
  refine B8 ?_;refine Ci [] (k+1) A7 A7 ⟨rfl,trivial⟩ ⟨A6 Ej (by rw [ht,Ab (by rw [hc];decide),Hw]),trivial⟩
 refine An A0 rfl rfl ⟨?_,trivial⟩;exact A6 (fun k=>Ej (Wt p k)) (show k=x.aq.length by omega)
def Vp (x:A3) (e:Int) (k:Nat):Bool:=Kl (x.aq.getD k default) e
def L7 (x:ByteArray) (e:Int):List Int:=Wt (Vp (Bv x).1 e) (Bv x).1.aq.length
theorem B8f (x:ByteArray)(e:Int):(L7 x e).length≤1000000:=by
 have h1:=A3f (Vp (Bv x).1 e) (Bv x).1.aq.length;have h2:=A3.workers_le (Jn x).1;unfold L7;omega
theorem B0s (t:ByteArray)(e:Int)(hx:t.size≤1048576):Dj 8 [.one (vs t),.one (vi e)] [.one (Ej (L7 t e))]:=by
 have hL:=Zu t hx;have hw:=(Jn t).1;unfold L7;generalize Bv t=r at hL hw ⊢;obtain ⟨x,told,ok,n⟩:=r
 dsimp only at hL hw ⊢
 have hl:=A3.workers_le hw;refine E3 Tryz.func8 fun W=>?_;refine F0 (hL) ?_;refine H5 0 (Ej []) rfl C3 ?_;refine Fv [11] (fun k:Nat=>[(10,.c (vi k))]) (fun k=>[⟨1,[.c (Ax x.az.ak),.c (vi x.az.aq),.c (vi x.az.cap),.c (Af x.aq),.c (B7 x.ay),.c (Au x.ap),.c (Bd x.ac)]⟩]) (fun k=>[⟨0,Ej (Wt (Vp x e) k)⟩]) (fun k=>k≤x.aq.length) (fun k=>x.aq.length-k) fun k hk=>?_;refine Eh (fun h'=>?_) fun h'=>?_
 ·have h':k<x.aq.length:=by omega
  have hw:=Go.Sx.A3.worker_le hw h';have ht:=Zx (Vp x e) k;have hn:=A3f (Vp x e) k;refine B8 ?_;refine F0 (Zt (x.aq.getD k default) e A7) ?_;refine Cc (fun hc=>?_) fun hc=>?_
  ·refine B8 ?_
   refine B9 A0 rfl (Ej (Wt (Vp x e) k++[(k:Int)])) (Ao rfl) Hy A7 (Er ?_);refine Ci [(0,3)] (k+1) A7 A7 ⟨rfl,trivial⟩ ⟨A6 Ej (by rw [ht,Ak (show Vp x e k=true from hc)]),trivial⟩
  refine B8 ?_;refine Ci [] (k+1) A7 A7 ⟨rfl,trivial⟩ ⟨A6 Ej (by rw [ht,Ab (by rw [show Vp x e k=false from hc];decide),Hw]),trivial⟩
 refine An A0 rfl rfl ⟨?_,trivial⟩;exact A6 (fun k=>Ej (Wt (Vp x e) k)) (show k=x.aq.length by omega)
theorem C6u (x:A3)(e:Int)(hx:x.w≤540000)(k:Nat)(hk:k<x.aq.length):Dj 45 [.one (vi k),.ptr x.c,.ptr [vi e]] [.one (vb (Vp x e k))]:=by
 have hl:=A3.workers_le hx;have hw:=Go.Sx.A3.worker_le hx hk;refine E3 Tryz.func45 fun W=>?_
 first|(refine Al 1 rfl [0,1,2,3,4,5,6,7] Ah (Aj ?_))
 refine B8 ?_;refine As (Z9 (x.aq.getD k default) e A7) rfl (Er ?_);exact An A0 rfl rfl ⟨rfl,trivial⟩
theorem Ya (t:ByteArray)(e:Int)(hx:t.size≤1048576):Dy Tryz.prog Vb 9 [.one (vs t),.one (vi e)] [.one (Ej (L7 t e))]:=by
 have hL:=Tz t hx;have hw:=(Jn t).1;unfold L7;generalize Bv t=r at hL hw ⊢;obtain ⟨x,told,ok,n⟩:=r
 dsimp only at hL hw ⊢
 refine Ga A0 false Tryz.func9 rfl Cw fun W hW=>?_;conv=>whnf
 refine Dt (hL) B3 hW rfl (Aj ?_);refine Ll (D28 x A7 _ x.c [vi e] (Vp x e) (fun k hk=>C6u x e hw k hk)) rfl (Aj ?_);exact An A0 rfl rfl ⟨rfl,trivial⟩
def Jt (x:Ad):ByteArray:=Ia x.ab++(⟨#[32]⟩:ByteArray)++Ia x.op++(⟨#[32]⟩:ByteArray)++Ia x.key++(⟨#[32]⟩:ByteArray)++Ia x.val
theorem B4j (x:Ad)(o:x.ok):Dj 101 [.agg x.c] [.one (vs (Jt x))]:=by
 obtain ⟨o1,o2,o3,o4⟩:=o;have d1:=Bq o1;have d2:=Bq o2;have d3:=Bq o3;have d4:=Bq o4;refine E3 Tryz.func101 fun W=>?_
 repeat' (first|(refine I1 ?_;conv=>whnf)|(refine I2 ?_;conv=>whnf)|(refine ⟨fun h=>?_,fun h=>?_⟩<;>conv=>whnf)|(refine As (Dp _ o1) rfl (Aj ?_))|(refine As (Dp _ o2) rfl (Aj ?_))|(refine As (Dp _ o3) rfl (Aj ?_))|(refine As (Dp _ o4) rfl (Aj ?_))|(refine Co ?_;conv=>whnf)|(refine Al 1 rfl [0,1,4,5,9,10,14,15,2,3,6,7,8,11,12,13,16,17,18] Ah (Aj ?_))|fail)
 exact An A0 rfl rfl ⟨rfl,trivial⟩
theorem B3c (x:Ad)(o:x.ok):Dy Tryz.prog Vb 106 [.agg x.c] [.one (vs (Jt x))]:=by
 obtain ⟨o1,o2,o3,o4⟩:=o;have d1:=Bq o1;have d2:=Bq o2;have d3:=Bq o3;have d4:=Bq o4;refine Ga A0 false Tryz.func106 rfl Cw fun W hW=>?_;conv=>whnf
 repeat' (first|(refine I1 ?_;conv=>whnf)|(refine I2 ?_;conv=>whnf)|(refine ⟨fun h=>?_,fun h=>?_⟩<;>conv=>whnf)|(refine Dt (Dn _ o1) B3 hW rfl (Aj ?_))|(refine Dt (Dn _ o2) B3 hW rfl (Aj ?_))|(refine Dt (Dn _ o3) B3 hW rfl (Aj ?_))|(refine Dt (Dn _ o4) B3 hW rfl (Aj ?_))|(refine Co ?_;conv=>whnf)|(refine Al 1 rfl [0,1,4,5,9,10,14,15,2,3,6,7,8,11,12,13,16,17,18] Ah (Aj ?_))|fail)
 exact An A0 rfl rfl ⟨rfl,trivial⟩
variable {y : Ad}
theorem C7d {l:List Ad}{x:Ad}(h:y∈Dc l x):y∈l∨y=x:=by
 unfold Dc at h
 split at h
 ·exact .inl h
 rcases Ng.1 h with h|h
 ·exact .inl (List.mem_of_mem_take h)
 rcases Ca.1 h with h|h
 ·exact .inr h
 exact .inl (A3s h)
theorem B6w {cs:List Ad}:∀{l:List Ad},y∈cs.foldl Dc l→y∈l∨y∈cs:=by
 induction cs with
 |nil=>intro l h;exact .inl h
 |cons c r ih=>
  intro l h
  rcases ih h with h|h
  ·rcases C7d h with h|h
   ·exact .inl h
   exact .inr (by rw [h];exact Lc)
  exact .inr (Da _ h)
theorem C95 {ws:List Ae}:∀{l:List Ad},y∈ws.foldl (fun l w=>w.cells.foldl Dc l) l→y∈l∨∃w∈ws,y∈w.cells:=by
 induction ws with
 |nil=>intro l h;exact .inl h
 |cons c r ih=>
  intro l h
  rcases ih h with h|⟨w,hw,h⟩
  ·rcases B6w h with h|h
   ·exact .inl h
   exact .inr ⟨c,Lc,h⟩
  exact .inr ⟨w,Da _ hw,h⟩
theorem A4n {x:A3}(ox:x.ok){e:Int}(h:y∈Ec x e):y.ok:=by
 have h1:y∈E4 x:=(Uu.1 (Uu.1 h).1).1
 rcases C95 h1 with h1|⟨w,hw,h1⟩
 ·cases h1
 exact (ox.2.1.2 w hw).2.2.2.1.2 y h1
def A1v (x:A3) (k:Nat):List ByteArray:=(List.range k).flatMap fun (e:Nat)=>(Ec x e).map Jt
def Om (x:A3):List ByteArray:=A1v x 4
theorem B16 (x:A3)(k:Nat):A1v x (k+1)=A1v x k++(Ec x k).map Jt:=by
 rw [A1v,Sj,A0k]
 simp [A1v]
theorem B85 (l:List Ad)(k:Nat):((List.range k).map fun (e:Nat)=>(l.filter (fun y=>y.ab==(e:Int))).length).sum≤(l.filter (fun y=>decide (0≤y.ab∧y.ab<(k:Int)))).length:=by
 induction k with
 |zero=>simp
 |succ k ih=>
  rw [Sj,Qs,List.sum_append];simp only [Gz,Wz,V9,List.sum_nil,Ru]
  have e:(l.filter (fun y=>decide (0≤y.ab∧y.ab<(k:Int)))).length+(l.filter (fun y=>y.ab==(k:Int))).length≤(l.filter (fun y=>decide (0≤y.ab∧y.ab<((k+1:Nat):Int)))).length:=by
   clear ih
   induction l with
   |nil=>simp
   |cons y r ih=>
    simp only [List.filter_cons]
    by_cases h1:0≤y.ab∧y.ab<(k:Int)
    ·rw [Ak (by simpa using h1),Ab Qv,Ak Qv]
     simp only [Gi];omega
    by_cases h2:y.ab=(k:Int)
    ·rw [Ab (by simpa using h1),Ak (by simpa using h2),Ak Qv]
     simp only [Gi];omega
    rw [Ab (by simpa using h1),Ab (by simpa using h2),Ab Qv];exact ih
  omega
theorem A1w (x:A3)(k:Nat):(A1v x k).length≤(E4 x).length:=by
 rw [A1v,List.length_flatMap];have h1:=B85 (Ed x.az (E4 x)) k;have h2:=Ni (fun y:Ad=>decide (0≤y.ab∧y.ab<(k:Int))) (Ed x.az (E4 x));have h3:=Po (g:=x.az) (Df (E4 x).length);simp only [J8];have e:((List.range k).map fun (e:Nat)=>(Ec x e).length)=((List.range k).map fun (e:Nat)=>((Ed x.az (E4 x)).filter (fun y=>y.ab==(e:Int))).length):=rfl;rw [e];omega
theorem A1u {x:A3}{n:Nat}(h:x.w≤n)(e:Int):(Ec x e).length≤n:=Ew (Ni _ _) (Po (Mb h))
theorem W6 {α β:Type} [Inhabited α] (f:α→β){l:List α}{k:Nat}(hk:k<l.length):(l.take (k+1)).map f=(l.take k).map f++[f (l.getD k default)]:=by
 rw [A3u hk,Qs]
 simp [List.getD,hk]
set_option maxHeartbeats 1000000 in
theorem A18 (x:A3)(ox:x.ok)(hx:x.w≤1100000):Dj 48 [.agg x.c] [.one (Cj (Om x))]:=by
 have hc:=Mb hx;refine E3 Tryz.func48 fun W=>?_;refine H5 1 (Cj []) rfl C3 ?_;refine Fv [5,6,7] (fun k:Nat=>[(4,.c (vi k))]) (fun k=>[⟨0,[.c (Ax x.az.ak),.c (vi x.az.aq),.c (vi x.az.cap),.c (Af x.aq),.c (B7 x.ay),.c (Au x.ap),.c (Bd x.ac)]⟩]) (fun k=>[⟨1,Cj (A1v x k)⟩]) (fun k=>k≤4) (fun k=>4-k) fun k hk=>?_;conv=>whnf
 refine Cc (fun h=>?_) fun h=>?_
 ·have h:k<4:=by have:=Bj h;omega
  have h1:=A1w x k;have h2:=A1u hx k;refine Gg (B4m x k A7) ?_;refine Fv [] (fun j:Nat=>[(6,.c (vi j))]) (fun j=>[⟨0,[.c (Ax x.az.ak),.c (vi x.az.aq),.c (vi x.az.cap),.c (Af x.aq),.c (B7 x.ay),.c (Au x.ap),.c (Bd x.ac)]⟩]) (fun j=>[⟨2,Ai (Ec x k)⟩,⟨1,Cj (A1v x k++((Ec x k).take j).map Jt)⟩]) (fun j=>j≤(Ec x k).length) (fun j=>(Ec x k).length-j) fun j hj=>?_;conv=>whnf
  refine Eh (fun h'=>?_) fun h'=>?_
  ·have h':j<(Ec x k).length:=by omega
   have h3:(((Ec x k).take j).map Jt).length≤j:=by rw [J8,Eo];omega
   refine B8 ?_;refine F0 (B4j ((Ec x k).getD j default) (A4n ox (Am h'))) ?_;refine B9 A0 rfl (Cj (A1v x k++((Ec x k).take j).map Jt++[Jt ((Ec x k).getD j default)])) (Ao rfl) Hy (by (rw [D7];omega)) (Er ?_);refine Ci [(1,4)] (j+1) A7 A7 ⟨rfl,trivial⟩ ⟨rfl,A6 Cj (by rw [W6 _ h',←Cv]),trivial⟩
  refine B8 ?_;refine Ci [] (k+1) A7 A7 ⟨rfl,trivial⟩ ⟨A6 Cj (by rw [B16,K0 A7]),trivial⟩
 have h:¬ k<4:=by have:=Cr h;omega
 obtain rfl:k=4:=by omega
 refine Ar ?_;exact D0
set_option maxHeartbeats 1000000 in
theorem A1f (x:A3)(ox:x.ok)(hx:x.w≤1100000):Dy Tryz.prog Vb 50 [.agg x.c] [.one (Cj (Om x))]:=by
 have hc:=Mb hx;refine Ga A0 false Tryz.func50 rfl Cw fun W hW=>?_;conv=>whnf
 refine U4 3 1 (fun i=>[vs (([]:List ByteArray).getD i default)]) rfl ?_;refine Fv [] (fun k:Nat=>[(4,.c (vi k))]) (fun k=>[⟨0,[.c (Ax x.az.ak),.c (vi x.az.aq),.c (vi x.az.cap),.c (Af x.aq),.c (B7 x.ay),.c (Au x.ap),.c (Bd x.ac)]⟩]) (fun k=>[⟨1,Cj (A1v x k)⟩]) (fun k=>k≤4) (fun k=>4-k) fun k hk=>?_;conv=>whnf
 refine Cc (fun h=>?_) fun h=>?_
 ·have h:k<4:=by have:=Bj h;omega
  have h1:=A1w x k;have h2:=A1u hx k;refine Gg (B3g x k A7) ?_;refine Fv [] (fun j:Nat=>[(15,.c (vi j))]) (fun j=>[⟨0,[.c (Ax x.az.ak),.c (vi x.az.aq),.c (vi x.az.cap),.c (Af x.aq),.c (B7 x.ay),.c (Au x.ap),.c (Bd x.ac)]⟩]) (fun j=>[⟨2,Ai (Ec x k)⟩,⟨1,Cj (A1v x k++((Ec x k).take j).map Jt)⟩]) (fun j=>j≤(Ec x k).length) (fun j=>(Ec x k).length-j) fun j hj=>?_;conv=>whnf
  refine Eh (fun h'=>?_) fun h'=>?_
  ·have h':j<(Ec x k).length:=by omega
   have h3:(((Ec x k).take j).map Jt).length≤j:=by rw [J8,Eo];omega
   refine B8 ?_;refine Dt (B3c ((Ec x k).getD j default) (A4n ox (Am h'))) B3 hW rfl (Aj ?_);conv=>whnf
   refine B9 A0 rfl (Cj (A1v x k++((Ec x k).take j).map Jt++[Jt ((Ec x k).getD j default)])) (Ao rfl) Hy (by (rw [D7];omega)) (Er ?_);refine Ci [(1,5)] (j+1) A7 A7 ⟨rfl,trivial⟩ ⟨rfl,A6 Cj (by rw [W6 _ h',←Cv]),trivial⟩
  refine B8 ?_;refine Ci [] (k+1) A7 A7 ⟨rfl,trivial⟩ ⟨A6 Cj (by rw [B16,K0 A7]),trivial⟩
 have h:¬ k<4:=by have:=Cr h;omega
 obtain rfl:k=4:=by omega
 refine Ar ?_;exact D0
theorem Z3 (x:Ae):x.ai.length≤x.w:=by simp only [Ae.w];omega
theorem A9i (x:Ae):x.ar.length+x.ae.length+x.au.length≤x.w:=by simp only [Ae.w];omega
def Y1 (d:Gv):ByteArray:=if d.ao then Ia d.ab++(⟨#[33]⟩:ByteArray) else Ia d.ab
theorem B84 {d:Gv}(o:d.ok):(Y1 d).size≤22:=by
 have h:=Bq (show Gt .i64 d.ab from o)
 unfold Y1
 split
 ·rw [Ox];have:((⟨#[33]⟩:ByteArray)).size=1:=rfl;omega
 omega
def G5 (l:List Gv):List ByteArray:=l.map Y1
theorem A32 (l:List Gv)(k:Nat)(h:k<l.length):G5 (l.take (k+1))=G5 (l.take k)++[Y1 (l.getD k default)]:=A71 _ _ _ h
theorem A7w (l:List Gv)(k:Nat)(h:k<l.length):Cx (G5 (l.take (k+1)))=if k=0 then Y1 (l.getD k default) else Cx (G5 (l.take k))++(⟨#[32]⟩:ByteArray)++Y1 (l.getD k default):=by
 rw [A32 l k h]
 split
 ·rename_i e;subst e;exact B1v _
 rename_i e
 exact Za _ _ (by
  intro h0
  have:=A6 List.length h0
  rw [G5,J8,Eo] at this;simp only [Ld] at this
  omega)
theorem B9p (l:List Gv)(k:Nat)(h:k<l.length):Cx (G5 (l.take (k+1)))=(if 0<k then Cx (G5 (l.take k))++(⟨#[32]⟩:ByteArray) else Cx (G5 (l.take k)))++Y1 (l.getD k default):=by
 rw [A7w l k h]
 by_cases e:k=0
 ·subst e
  rw [Ak rfl,Ab A7];exact (ByteArray.empty_append).symm
 rw [Ab e,Ak A7]
theorem A7v (l:List Gv)(ho:∀d∈l,d.ok)(k:Nat)(hk:k≤l.length):(Cx (G5 (l.take k))).size≤23 * k:=by
 induction k with
 |zero=>exact Df _
 |succ k ih=>
  have hd:=B84 (ho _ (Am (d:=default) (show k<l.length by omega)))
  have:=ih A7
  rw [A7w l k A7]
  split
  ·omega
  rw [Ox,Ox];have h1:((⟨#[32]⟩:ByteArray)).size=1:=rfl;omega
theorem B0n (x:Ae)(ox:x.ok)(hx:x.w≤1040000):Dj 165 [.agg x.c] [.one (vs (Cx (G5 x.ai)))]:=by
 have hl:x.ai.length≤1040000:=Ew (Z3 x) hx;have ho:∀d∈x.ai,d.ok:=ox.2.2.2.2.2.2.2.2;refine E3 Tryz.func165 fun W=>?_;refine Fv [] (fun k:Nat=>[(3,.c (vs (Cx (G5 (x.ai.take k))))),(4,.c (vi k))]) (fun k=>[⟨0,[.c (A9 x.ar),.c (A9 x.ae),.c (A9 x.au),.c (Ai x.cells),.c (Ej x.ah),.c (D9 x.al),.c (D9 x.an),.c (Hu x.ai)]⟩]) (fun k=>[]) (fun k=>k≤x.ai.length) (fun k=>x.ai.length-k) fun k hk=>?_;refine Eh (fun h'=>?_) fun h'=>?_
 ·have h':k<x.ai.length:=by omega
  have hs:=A7v x.ai ho k A7;have od:Gt .i64 (x.ai.getD k default).ab:=ho _ (Am (d:=default) h');have hd:=Bq od;have hj:=B9p x.ai k h'
  repeat' (first|(refine I1 ?_;conv=>whnf)|(refine I2 ?_;conv=>whnf)|(refine ⟨fun h=>?_,fun h=>?_⟩<;>conv=>whnf)|(refine As (Dp _ od) rfl (Aj ?_))|(refine Co ?_;conv=>whnf)|fail)
  all_goals
   refine Ci [] (k+1) A7 A7 ⟨A6 (fun z=>AV.c (vs z)) (by rw [hj,Y1];clear hj hs;simp_all [A9v]),rfl,trivial⟩ trivial
 have e:k=x.ai.length:=by omega
 exact An A0 rfl rfl ⟨A6 vs (by rw [e,Hx]),trivial⟩
theorem Zb (x:Ae)(ox:x.ok)(hx:x.w≤1040000):(Cx (G5 x.ai)).size≤24117248:=by
 have hl:x.ai.length≤1040000:=Ew (Z3 x) hx;have h:=A7v x.ai ox.2.2.2.2.2.2.2.2 x.ai.length (Df _);rw [Hx] at h;omega
theorem A96 (x:Ae)(ox:x.ok)(hx:x.w≤1040000):Dy Tryz.prog Vb 166 [.agg x.c] [.one (vs (Cx (G5 x.ai)))]:=by
 have hl:x.ai.length≤1040000:=Ew (Z3 x) hx;have ho:∀d∈x.ai,d.ok:=ox.2.2.2.2.2.2.2.2;have hf:=Zb x ox hx;refine Ga A0 false Tryz.func166 rfl Cw fun W hW=>?_;conv=>whnf
 refine U4 3 1 (fun i=>(fun b=>[vs b]) (([]:List ByteArray).getD i default)) rfl ?_;refine Fv [] (fun k:Nat=>[(10,.c (vi k))]) (fun k=>[⟨0,[.c (A9 x.ar),.c (A9 x.ae),.c (A9 x.au),.c (Ai x.cells),.c (Ej x.ah),.c (D9 x.al),.c (D9 x.an),.c (Hu x.ai)]⟩]) (fun k=>[⟨1,Cj (G5 (x.ai.take k))⟩]) (fun k=>k≤x.ai.length) (fun k=>x.ai.length-k) fun k hk=>?_;refine Eh (fun h'=>?_) fun h'=>?_
 ·have h':k<x.ai.length:=by omega
  have od:Gt .i64 (x.ai.getD k default).ab:=ho _ (Am (d:=default) h');have hd:=Bq od;have hj:=A32 x.ai k h';have hlen:(G5 (x.ai.take k)).length≤k:=by simp [G5];omega
  refine B8 ?_;refine Dt (Dn _ od) B3 hW rfl (Aj ?_);refine Cc (fun hc=>?_) fun hc=>?_
  ·have hc:(x.ai.getD k default).ao=true:=hc
   refine B8 ?_;refine B9 A0 rfl (Cj (G5 (x.ai.take k)++[Ia (x.ai.getD k default).ab++(⟨#[33]⟩:ByteArray)])) (Ao rfl) Hy A7 (Er ?_);refine Ci [(1,4)] (k+1) A7 A7 ⟨rfl,trivial⟩ ⟨A6 Cj (by rw [hj,Y1,Ak hc]),trivial⟩
  have hc:(x.ai.getD k default).ao=false:=hc;refine B8 ?_;refine B9 A0 rfl (Cj (G5 (x.ai.take k)++[Ia (x.ai.getD k default).ab])) (Ao rfl) Hy A7 (Er ?_);refine Ci [(1,4)] (k+1) A7 A7 ⟨rfl,trivial⟩ ⟨A6 Cj (by rw [hj,Y1,Ab (by rw [hc];decide)]),trivial⟩
 have e:k=x.ai.length:=by omega
 have e2:x.ai.take k=x.ai:=by rw [e,Hx]
 rw [e2];refine F0 (C6x (G5 x.ai) (by simp [G5];omega) A7) ?_;exact An A0 rfl rfl ⟨rfl,trivial⟩
def Cz (x:A3) (w:Int):ByteArray:=
 if Dv w 0 (x.aq.length-1) then
  (if Cx (G5 (x.aq.getD w.toNat default).ai)=(⟨#[]⟩:ByteArray) then
   Ia (x.aq.getD w.toNat default).ar.length++(⟨#[32]⟩:ByteArray)++Ia (x.aq.getD w.toNat default).ae.length++(⟨#[32]⟩:ByteArray)++Ia (x.aq.getD w.toNat default).au.length
  else Ia (x.aq.getD w.toNat default).ar.length++(⟨#[32]⟩:ByteArray)++Ia (x.aq.getD w.toNat default).ae.length++(⟨#[32]⟩:ByteArray)++Ia (x.aq.getD w.toNat default).au.length++(⟨#[32]⟩:ByteArray)++Cx (G5 (x.aq.getD w.toNat default).ai))
 else (⟨#[]⟩:ByteArray)
theorem A9e (x:A3)(w:Int)(hx:x.w≤1040000)(ox:x.ok):Dj 107 [.agg x.c,.one (vi w)] [.one (vs (Cz x w))]:=by
 have hl:=A3.workers_le hx;refine E3 Tryz.func107 fun W=>?_;refine B8 ?_;refine F0 (H3 w 0 (x.aq.length-1)) ?_
 by_cases h1:Dv w 0 (x.aq.length-1)=true
 ·have h2:=Go.Sx.Ch.1 h1
  have hk:w.toNat<x.aq.length:=by omega
  have hw:=Go.Sx.A3.worker_le hx hk;have hy:(x.aq.getD w.toNat default).w≤1040000:=by omega
  have oy:=ox.2.1.2 _ (Am (d:=default) hk);have h3:=A9i (x.aq.getD w.toNat default);have d1:Gt .i64 ((x.aq.getD w.toNat default).ar.length:Int):=by show _∧_;omega
  have d2:Gt .i64 ((x.aq.getD w.toNat default).ae.length:Int):=by show _∧_;omega
  have d3:Gt .i64 ((x.aq.getD w.toNat default).au.length:Int):=by show _∧_;omega
  have e1:=Bq d1;have e2:=Bq d2;have e3:=Bq d3;have e4:=Zb _ oy hy;rw [h1];refine Hf B5b ?_;conv=>whnf
  repeat' (first|(refine I1 ?_;conv=>whnf)|(refine I2 ?_;conv=>whnf)|(refine ⟨fun h=>?_,fun h=>?_⟩<;>conv=>whnf)|(refine As (Dp _ d1) rfl (Aj ?_))|(refine As (Dp _ d2) rfl (Aj ?_))|(refine As (Dp _ d3) rfl (Aj ?_))|(refine As (B0n _ oy hy) rfl (Aj ?_))|(refine Co ?_;conv=>whnf)|(refine Al 4 rfl [0,1,2,5,6,7,11,12,13,3,4,8,9,10,14,15,16] Ah (Aj ?_))|fail)
  ·have hn:¬ Cx (G5 (x.aq.getD w.toNat default).ai)=(⟨#[]⟩:ByteArray):=fun e=>by rw [e] at h;exact absurd h Cw
   exact An A0 rfl rfl ⟨A6 vs (by rw [Cz,Ak h1,Ab hn]),trivial⟩
  have hn:Cx (G5 (x.aq.getD w.toNat default).ai)=(⟨#[]⟩:ByteArray):=by
   have h':(Cx (G5 (x.aq.getD w.toNat default).ai)==(⟨#[]⟩:ByteArray))=true:=by simpa using h
   exact Kf h'
  exact An A0 rfl rfl ⟨A6 vs (by rw [Cz,Ak h1,Ak hn]),trivial⟩
 have h3:Dv w 0 (x.aq.length-1)=false:=by simpa using h1
 rw [h3];refine I3 C2r ?_;conv=>whnf
 exact An A0 rfl rfl ⟨A6 vs (by rw [Cz,Ab h1]),trivial⟩
theorem A7t (x:A3)(w:Int)(hx:x.w≤1040000)(ox:x.ok):Dy Tryz.prog Vb 109 [.agg x.c,.one (vi w)] [.one (vs (Cz x w))]:=by
 have hl:=A3.workers_le hx;refine Ga A0 false Tryz.func109 rfl Cw fun W hW=>?_;conv=>whnf
 refine B8 ?_;refine F0 (H9 w 0 (x.aq.length-1)) ?_
 by_cases h1:Dv w 0 (x.aq.length-1)=true
 ·have h2:=Go.Sx.Ch.1 h1
  have hk:w.toNat<x.aq.length:=by omega
  have hw:=Go.Sx.A3.worker_le hx hk;have hy:(x.aq.getD w.toNat default).w≤1040000:=by omega
  have oy:=ox.2.1.2 _ (Am (d:=default) hk);have h3:=A9i (x.aq.getD w.toNat default);have d1:Gt .i64 ((x.aq.getD w.toNat default).ar.length:Int):=by show _∧_;omega
  have d2:Gt .i64 ((x.aq.getD w.toNat default).ae.length:Int):=by show _∧_;omega
  have d3:Gt .i64 ((x.aq.getD w.toNat default).au.length:Int):=by show _∧_;omega
  have e1:=Bq d1;have e2:=Bq d2;have e3:=Bq d3;have e4:=Zb _ oy hy;rw [h1];refine Hf B5b ?_;conv=>whnf
  repeat' (first|(refine I1 ?_;conv=>whnf)|(refine I2 ?_;conv=>whnf)|(refine ⟨fun h=>?_,fun h=>?_⟩<;>conv=>whnf)|(refine Dt (Dn _ d1) B3 hW rfl (Aj ?_))|(refine Dt (Dn _ d2) B3 hW rfl (Aj ?_))|(refine Dt (Dn _ d3) B3 hW rfl (Aj ?_))|(refine Dt (A96 _ oy hy) B3 hW rfl (Aj ?_))|(refine Co ?_;conv=>whnf)|(refine Al 4 rfl [0,1,2,5,6,7,11,12,13,3,4,8,9,10,14,15,16] Ah (Aj ?_))|fail)
  ·have hn:¬ Cx (G5 (x.aq.getD w.toNat default).ai)=(⟨#[]⟩:ByteArray):=fun e=>by rw [e] at h;exact absurd h Cw
   exact An A0 rfl rfl ⟨A6 vs (by rw [Cz,Ak h1,Ab hn];simp only [A9v]),trivial⟩
  have hn:Cx (G5 (x.aq.getD w.toNat default).ai)=(⟨#[]⟩:ByteArray):=by
   have h':(Cx (G5 (x.aq.getD w.toNat default).ai)==(⟨#[]⟩:ByteArray))=true:=by simpa using h
   exact Kf h'
  exact An A0 rfl rfl ⟨A6 vs (by rw [Cz,Ak h1,Ak hn]),trivial⟩
 have h3:Dv w 0 (x.aq.length-1)=false:=by simpa using h1
 rw [h3];refine I3 C2r ?_;conv=>whnf
 exact An A0 rfl rfl ⟨A6 vs (by rw [Cz,Ab h1]),trivial⟩
def Hl (t:G9):ByteArray:=
 if t.bz then
  (if t.ao then Ia t.aj++(⟨#[32]⟩:ByteArray)++Ia t.sum++(if t.al then (⟨#[32,98,108,97,99,107]⟩:ByteArray) else (⟨#[32,119,104,105,116,101]⟩:ByteArray))++(⟨#[32,99,97,112,112,101,100]⟩:ByteArray) else Ia t.aj++(⟨#[32]⟩:ByteArray)++Ia t.sum++(if t.al then (⟨#[32,98,108,97,99,107]⟩:ByteArray) else (⟨#[32,119,104,105,116,101]⟩:ByteArray)))
 else (⟨#[114,101,115,116]⟩:ByteArray)
theorem B0r (t:G9)(o:t.ok):Dj 108 [.agg t.c] [.one (vs (Hl t))]:=by
 obtain ⟨g,a,s,b,c⟩:=t;have o1:Gt .i64 a:=by simp [G9.ok] at o;exact o.1
 have o2:Gt .i64 s:=by simp [G9.ok] at o;exact o.2
 have d1:=Bq o1;have d2:=Bq o2;refine E3 Tryz.func108 fun W=>?_
 repeat' (first|(refine I1 ?_;conv=>whnf)|(refine I2 ?_;conv=>whnf)|(refine ⟨fun h=>?_,fun h=>?_⟩<;>conv=>whnf)|(refine As (Dp _ o1) rfl (Aj ?_))|(refine As (Dp _ o2) rfl (Aj ?_))|(refine Co ?_;conv=>whnf)|(refine Al 3 rfl [0,1,4,5,2,3,6,7,8] Ah (Aj ?_))|fail)
 all_goals (refine An A0 rfl rfl ⟨A6 vs ?_,trivial⟩;simp_all [Hl])
theorem B0e (t:G9)(o:t.ok):Dy Tryz.prog Vb 110 [.agg t.c] [.one (vs (Hl t))]:=by
 obtain ⟨g,a,s,b,c⟩:=t;have o1:Gt .i64 a:=by simp [G9.ok] at o;exact o.1
 have o2:Gt .i64 s:=by simp [G9.ok] at o;exact o.2
 have d1:=Bq o1;have d2:=Bq o2;refine Ga A0 false Tryz.func110 rfl Cw fun W hW=>?_;conv=>whnf
 repeat' (first|(refine I1 ?_;conv=>whnf)|(refine I2 ?_;conv=>whnf)|(refine ⟨fun h=>?_,fun h=>?_⟩<;>conv=>whnf)|(refine Dt (Dn _ o1) B3 hW rfl (Aj ?_))|(refine Dt (Dn _ o2) B3 hW rfl (Aj ?_))|(refine Co ?_;conv=>whnf)|(refine Al 3 rfl [0,1,4,5,2,3,6,7,8] Ah (Aj ?_))|fail)
 all_goals (refine An A0 rfl rfl ⟨A6 vs ?_,trivial⟩;simp_all [Hl])
def Mx (x:A3):List ByteArray:=((List.range x.aq.length).map fun (w:Nat)=>Cz x w)++x.ap.map Hl++Om x
theorem Oh {x:A3}{n:Nat}(h:x.w≤n):(Mx x).length≤n:=by
 have h1:=A1w x 4;have h2:=A5v x.aq;rw [←A0y] at h2;simp only [A3.w,wS] at h;simp only [Mx,D7,J8,Rt];have e:(Om x).length=(A1v x 4).length:=rfl;omega
theorem A8o {β:Type}(f:Nat→β)(k:Nat):(List.range (k+1)).map f=(List.range k).map f++[f k]:=by
 rw [Sj,Qs];rfl
set_option maxHeartbeats 1000000 in
theorem T5 (x:A3)(ox:x.ok)(hx:x.w≤1040000):Dj 52 [.agg x.c] [.one (Cj (Mx x))]:=by
 have hl:=A3.workers_le hx;have ht:=A3.tokens_le hx;have hcl:=Oh hx;simp only [Mx,D7,J8,Rt] at hcl;refine E3 Tryz.func52 fun W=>?_;refine H5 1 (Cj []) rfl C3 ?_;refine Fv [6] (fun k:Nat=>[(4,.c (vi k))]) (fun k=>[⟨0,[.c (Ax x.az.ak),.c (vi x.az.aq),.c (vi x.az.cap),.c (Af x.aq),.c (B7 x.ay),.c (Au x.ap),.c (Bd x.ac)]⟩]) (fun k=>[⟨1,Cj ((List.range k).map fun (w:Nat)=>Cz x w)⟩]) (fun k=>k≤x.aq.length) (fun k=>x.aq.length-k) fun k hk=>?_;conv=>whnf
 refine Eh (fun h=>?_) fun h=>?_
 ·have h:k<x.aq.length:=by omega
  refine B8 ?_;refine F0 (A9e x k hx ox) ?_;refine B9 A0 rfl (Cj (((List.range k).map fun (w:Nat)=>Cz x w)++[Cz x k])) (Ao rfl) Hy (by (simp only [J8,Rt];omega)) (Er ?_);refine Ci [(1,3)] (k+1) A7 A7 ⟨rfl,trivial⟩ ⟨A6 Cj (A8o (fun (w:Nat)=>Cz x w) k).symm,trivial⟩
 have e1:k=x.aq.length:=by omega
 refine B8 ?_;refine Fv [] (fun j:Nat=>[(5,.c (vi j))]) (fun j=>[⟨0,[.c (Ax x.az.ak),.c (vi x.az.aq),.c (vi x.az.cap),.c (Af x.aq),.c (B7 x.ay),.c (Au x.ap),.c (Bd x.ac)]⟩]) (fun j=>[⟨1,Cj (((List.range k).map fun (w:Nat)=>Cz x w)++(x.ap.take j).map Hl)⟩]) (fun j=>j≤x.ap.length) (fun j=>x.ap.length-j) fun j hj=>?_;conv=>whnf
 refine Eh (fun h2=>?_) fun h2=>?_
 ·have h2:j<x.ap.length:=by omega
  refine B8 ?_;refine As (B0r (x.ap.getD j default) (ox.2.2.2.1.2 _ (Am (d:=default) h2))) rfl (Aj ?_);refine B9 A0 rfl (Cj (((List.range k).map fun (w:Nat)=>Cz x w)++(x.ap.take j).map Hl++[Hl (x.ap.getD j default)])) (Ao rfl) Hy C84 (Er ?_);refine Ci [(1,3)] (j+1) A7 A7 ⟨rfl,trivial⟩ ⟨A6 Cj (by rw [W6 _ h2,←Cv]),trivial⟩
 have e2:j=x.ap.length:=by omega
 refine B8 ?_;refine Gg (A18 x ox A7) ?_;refine B9 A0 rfl (Cj (((List.range k).map fun (w:Nat)=>Cz x w)++(x.ap.take j).map Hl++Om x)) (Ob 1 _ _ _) (fun _=>Ps _) C84 (Aj ?_);refine An A0 rfl rfl ⟨?_,trivial⟩;exact A6 Cj (by rw [e1,e2,Hx];rfl)
set_option maxHeartbeats 1000000 in
theorem Su (x:A3)(ox:x.ok)(hx:x.w≤1040000):Dy Tryz.prog Vb 53 [.agg x.c] [.one (Cj (Mx x))]:=by
 have hl:=A3.workers_le hx;have ht:=A3.tokens_le hx;have hcl:=Oh hx;simp only [Mx,D7,J8,Rt] at hcl;refine Ga A0 false Tryz.func53 rfl Cw fun W hW=>?_;conv=>whnf
 refine U4 3 1 (fun i=>[vs (([]:List ByteArray).getD i default)]) rfl ?_;refine Fv [4] (fun k:Nat=>[(10,.c (vi k))]) (fun k=>[⟨0,[.c (Ax x.az.ak),.c (vi x.az.aq),.c (vi x.az.cap),.c (Af x.aq),.c (B7 x.ay),.c (Au x.ap),.c (Bd x.ac)]⟩]) (fun k=>[⟨1,Cj ((List.range k).map fun (w:Nat)=>Cz x w)⟩]) (fun k=>k≤x.aq.length) (fun k=>x.aq.length-k) fun k hk=>?_;conv=>whnf
 refine Eh (fun h=>?_) fun h=>?_
 ·have h:k<x.aq.length:=by omega
  refine B8 ?_;refine Dt (A7t x k hx ox) B3 hW rfl (Aj ?_);conv=>whnf
  refine B9 A0 rfl (Cj (((List.range k).map fun (w:Nat)=>Cz x w)++[Cz x k])) (Ao rfl) Hy (by (simp only [J8,Rt];omega)) (Er ?_);refine Ci [(1,3)] (k+1) A7 A7 ⟨rfl,trivial⟩ ⟨A6 Cj (A8o (fun (w:Nat)=>Cz x w) k).symm,trivial⟩
 have e1:k=x.aq.length:=by omega
 refine B8 ?_;refine Fv [] (fun j:Nat=>[(23,.c (vi j))]) (fun j=>[⟨0,[.c (Ax x.az.ak),.c (vi x.az.aq),.c (vi x.az.cap),.c (Af x.aq),.c (B7 x.ay),.c (Au x.ap),.c (Bd x.ac)]⟩]) (fun j=>[⟨1,Cj (((List.range k).map fun (w:Nat)=>Cz x w)++(x.ap.take j).map Hl)⟩]) (fun j=>j≤x.ap.length) (fun j=>x.ap.length-j) fun j hj=>?_;conv=>whnf
 refine Eh (fun h2=>?_) fun h2=>?_
 ·have h2:j<x.ap.length:=by omega
  refine B8 ?_;refine Dt (B0e (x.ap.getD j default) (ox.2.2.2.1.2 _ (Am (d:=default) h2))) B3 hW rfl (Aj ?_);conv=>whnf
  refine B9 A0 rfl (Cj (((List.range k).map fun (w:Nat)=>Cz x w)++(x.ap.take j).map Hl++[Hl (x.ap.getD j default)])) (Ao rfl) Hy C84 (Er ?_);refine Ci [(1,4)] (j+1) A7 A7 ⟨rfl,trivial⟩ ⟨A6 Cj (by rw [W6 _ h2,←Cv]),trivial⟩
 have e2:j=x.ap.length:=by omega
 refine B8 ?_;refine To (A1f x ox A7) B3 hW rfl (Aj ?_);refine B9 A0 rfl (Cj (((List.range k).map fun (w:Nat)=>Cz x w)++(x.ap.take j).map Hl++Om x)) (Ob 1 _ _ _) (fun _=>Ps _) C84 (Aj ?_);refine An A0 rfl rfl ⟨?_,trivial⟩;exact A6 Cj (by rw [e1,e2,Hx];rfl)
def Jm (x:ByteArray):List ByteArray×Int:=if (Bv x).2.2.1=true then (Om (E5 (Dl 3000 0 3000).toNat (Bv x).1).1,0) else ([],(Bv x).2.2.2)
theorem Wl {x:ByteArray}(h:(Bv x).2.2.1=true):Jm x=(Om (E5 (Dl 3000 0 3000).toNat (Bv x).1).1,0):=Ak h
theorem Zn {x:ByteArray}(h:¬ (Bv x).2.2.1=true):Jm x=([],(Bv x).2.2.2):=Ab h
theorem A5s (x:ByteArray):(E5 (Dl 3000 0 3000).toNat (Bv x).1).1.w≤1100000:=by
 have h:=(Jn x).1;have hb:=Hc 3000 0 3000 Cw
 have:=B1g (Dl 3000 0 3000).toNat (Bv x).1
 omega
theorem B5u {x:ByteArray}(h:(Bv x).2.2.1=true):(E5 (Dl 3000 0 3000).toNat (Bv x).1).1.ok:=by
 have:=A5s x
 exact C7m (B5v _ (B7o h)) A7
theorem B7k (x:ByteArray):(Jm x).1.length≤1100000:=by
 by_cases h:(Bv x).2.2.1=true
 ·rw [Wl h]
  have hw:=A5s x;generalize (E5 (Dl 3000 0 3000).toNat (Bv x).1).1=y at hw ⊢;exact Ew (A1w y 4) (Mb hw)
 rw [Zn h];exact Fk _
theorem A9b (t:ByteArray)(hx:t.size≤1048576):Dj 13 [.one (vs t)] [.one (Cj (Jm t).1),.one (vi (Jm t).2)]:=by
 have hL:=Zu t hx;have hw:=(Jn t).1;have ho:=Uc t;have hy:= @Wl t;have hn:= @Zn t;have hF:=fun h=> @B5u t h
 have hFw:=A5s t;have hR:=A40 (Bv t).1 3000 A7 ho.1.2.1;generalize Jm t=z at hy hn ⊢;generalize E5 (Dl 3000 0 3000).toNat (Bv t).1=y at hy hF hFw hR;generalize Bv t=r at hL hw ho hy hn hF hR;obtain ⟨x,told,ok,n⟩:=r;obtain ⟨y,m⟩:=y
 dsimp only at hL hw ho hy hn hF hFw hR
 refine E3 Tryz.func13 fun W=>?_;refine F0 (hL) ?_;refine Cc (fun hk=>?_) fun hk=>?_
 ·have hk:ok=false:=by simpa using hk
  rw [hn (by rw [hk];decide)];refine Q2 1 (Cj []) rfl C3 ?_;exact D0
 have hk:ok=true:=by simpa using hk
 rw [hy hk];refine F0 (hR) ?_;refine Gg (A18 y (hF hk) hFw) ?_;exact D0
theorem Vz (t:ByteArray)(hx:t.size≤1048576):Dy Tryz.prog Vb 14 [.one (vs t)] [.one (Cj (Jm t).1),.one (vi (Jm t).2)]:=by
 have hL:=Tz t hx;have hw:=(Jn t).1;have ho:=Uc t;have hy:= @Wl t;have hn:= @Zn t;have hF:=fun h=> @B5u t h
 have hFw:=A5s t;have hR:=A38 (Bv t).1 3000 A7 (B7n t);generalize Jm t=z at hy hn ⊢;generalize E5 (Dl 3000 0 3000).toNat (Bv t).1=y at hy hF hFw hR;generalize Bv t=r at hL hw ho hy hn hF hR;obtain ⟨x,told,ok,n⟩:=r;obtain ⟨y,m⟩:=y
 dsimp only at hL hw ho hy hn hF hFw hR
 refine Ga A0 false Tryz.func14 rfl Cw fun W hW=>?_;conv=>whnf
 refine Dt (hL) B3 hW rfl (Aj ?_);refine Cc (fun hk=>?_) fun hk=>?_
 ·have hk:ok=false:=by simpa using hk
  rw [hn (by rw [hk];decide)];exact D0
 have hk:ok=true:=by simpa using hk
 rw [hy hk];refine F0 (hR) ?_;refine To (A1f y (hF hk) hFw) B3 hW rfl (Aj ?_);exact D0
def Yp (_:ByteArray) (k:Int):ByteArray:=(⟨#[109]⟩:ByteArray)++Ia k
def Mq (_:ByteArray):Nat:=1
theorem C2b (l:List ByteArray):(l.map Mq).sum≤5 * l.length:=by
 induction l with
 |nil=>exact Df _
 |cons x r ih=>simp only [Gz,V9,Gi,Mq] at *;omega
theorem B6v (k:Int)(h0:1≤k)(h1:k≤4611686018427387904):Dj 51 [.one (vi k)] [.one (vs ((⟨#[109]⟩:ByteArray)++Ia k))]:=by
 obtain ⟨u,rfl⟩:∃u:Nat,k=u:=⟨k.toNat,by omega⟩;have hu:0<u:=by omega
 have hd0:=B1e hu;refine E3 Tryz.func51 fun W=>?_;refine Hf B5b ?_;conv=>whnf
 refine Fv [] (fun k:Nat=>[(0,.c (vi (Iq u k))),(3,.c (vs ⟨(A5d u k).toArray⟩))]) (fun k=>[]) (fun k=>[]) (fun k=>k≤19∧C47 u k) (fun k=>19-k) fun k hk=>?_;obtain ⟨hk,he⟩:=hk;refine Eh (fun hq=>?_) fun hq=>?_
 ·have hm:0<Iq u k:=by omega
  have hk':=C7g (show u≤9223372036854775808 by omega) hm
  have hr:((Iq u k:Nat):Int).tmod 10=((Iq u k % 10:Nat):Int):=by have:=C8q (σ:=1) (.inl rfl) (Iq u k);simpa using this
  have hdv:((Iq u k:Nat):Int).tdiv 10=((Iq u k / 10:Nat):Int):=by simp
  have hle:=C1t u k;have hss:=A14 u k;have hmm:=Yv (Iq u k) (show 10>0 by decide)
  (repeat (refine ⟨by first|omega|(show _∧_;omega)|(simp only [Ox,bsz,Nh,Gi,Ld];omega)|decide,?_⟩;conv=>whnf))
  refine H5 0 (V4 [UInt8.ofNat (48+Iq u k % 10)]) rfl (A6p (A6 (fun z=>[Ag.val (.int .u8 z)]) (by rw [hr,UInt8.toNat_ofNat'];omega))) ?_;refine D0z A0 rfl [UInt8.ofNat (48+Iq u k % 10)] rfl (Aj ?_)
  (repeat (refine ⟨by first|omega|(show _∧_;omega)|(simp only [Ox,bsz,Nh,Gi,Ld];omega)|(rw [hdv];show _∧_;omega)|decide,?_⟩;conv=>whnf))
  refine Ci [] (k+1) ⟨by omega,A2n he hm⟩ A7 ⟨A6 (fun z=>AV.c (vi z)) hdv,A6 (fun z=>AV.c (vs z)) (A5o _ _),trivial⟩ trivial
 have hm:Iq u k=0:=by omega
 have hd:Lib.decDigits u=A5d u k:=by
  rcases he with ⟨h,_⟩|⟨_,h⟩
  ·omega
  exact h
 have hss:=A14 u k;refine B8 ?_;refine An A0 rfl rfl ⟨?_,trivial⟩;have hs:¬ (u:Int)<0:=by omega
 exact A6 vs (by rw [Ia,Lib.itoa,Ab hs,←hd,show ((u:Int)).toNat=u by omega])
theorem A4j (xs:List ByteArray)(k:Int)(h0:0<k)(h1:k+((xs.map Mq).sum:Nat)≤4611686018427387904):
  B2t Tryz.prog 16 (.one (Cj xs)) (.one (Cj (Ka Yp Mq xs k))) [.one (vi k)] [.int .i64 (k+((xs.map Mq).sum:Nat))]:=by
 have hl:xs.length≤4611686018427387904:=by have:=U2 Mq xs (fun x=>Df 1);omega
 refine C6c A0 false Tryz.func16 rfl Cw fun W may l=>?_;conv=>whnf
 refine Ok A0 false [] (fun j:Nat=>[(1,.c (vi (k+(((xs.take j).map Mq).sum:Nat)))),(5,.c (vi j))]) (fun _=>[]) (fun j=>[⟨0,Cj (Md Yp Mq xs k j)⟩])
  (fun j=>j≤xs.length) (fun j=>xs.length-j) 0 (Fk _) ⟨by simp [I7,ren2,ren1,ren0],rfl,trivial⟩ trivial ⟨rfl,trivial⟩ ⟨rfl,trivial⟩ Ah (fun j hj=>?_)
 have hL:=Pn Yp Mq xs k j;conv=>whnf
 refine ⟨fun h=>?_,fun h=>?_⟩<;>simp only [J7,Mk] at h<;>conv=>whnf
 ·have h:j<xs.length:=by omega
  have g:=B1z Yp Mq xs k j default h;have hle:=Gf Mq xs j h;have hst:=A2e Mq xs j h;generalize hy:xs.getD j default=y at g hle hst;have hc:Mq y=1:=rfl;refine F0 (B6v (k+(((xs.take j).map Mq).sum:Nat)) A7 A7) ?_;(repeat refine ndU ?_);refine Bt (j:=(j:Int)) A0 rfl _ (B7v (j:=j) (xs:=(Md Yp Mq xs k j)) (e:=(fun b=>[vs b])) (x:=(⟨#[109]⟩:ByteArray)++Ia (k+(((xs.take j).map Mq).sum:Nat))) A7 g (by exact rfl)) (Aj ?_);(repeat refine ndU ?_);refine W5 [] (j+1) A7 A7 ⟨?_,rfl,trivial⟩ ⟨?_,trivial⟩ trivial Ah ⟨rfl,trivial⟩ Ah
  ·exact A6 (fun n=>AV.c (vi n)) A7
  have e:=B10 Yp Mq xs k j h;rw [hy] at e;exact A6 (fun z=>Mr 1 (fun b=>[vs b]) z) e
 refine D23 A0 rfl ⟨?_,trivial⟩ rfl rfl ?_ ⟨rfl,trivial⟩
 ·exact A6 (fun n=>AV.c (vi n)) (by rw [K0 A7])
 exact A6 (fun z=>Mr 1 (fun b=>[vs b]) z) (B1y _ _ _ _ _ A7)
theorem Rg (xs:List ByteArray)(k:Int)(h0:0<k)(h1:k+((xs.map Mq).sum:Nat)≤4611686018427387904):
  Dj 17 [.one (Cj (Ka Yp Mq xs k)),.one (vi k)] [.one (vi (k+((xs.map Mq).sum:Nat)))]:=by
 have hl:xs.length≤4611686018427387904:=by have:=U2 Mq xs (fun x=>Df 1);omega
 have hL:=L0 Yp Mq xs k;refine E3 Tryz.func17 fun W=>?_
 refine Ok A0 false [] (fun j:Nat=>[(1,.c (vi (k+(((xs.take j).map Mq).sum:Nat)))),(5,.c (vi j))]) (fun _=>[]) (fun _=>[])
  (fun j=>j≤xs.length) (fun j=>xs.length-j) 0 (Fk _) ⟨by simp [I7,ren2,ren1,ren0],rfl,trivial⟩ trivial trivial trivial Ah (fun j hj=>?_)
 conv=>whnf
 refine ⟨fun h=>?_,fun h=>?_⟩<;>simp only [J7,Mk] at h<;>conv=>whnf
 ·have h:j<xs.length:=by omega
  have g:=A73 Yp Mq xs k j default h;have hle:=Gf Mq xs j h;have hst:=A2e Mq xs j h;generalize xs.getD j default=y at g hle hst;have hc:Mq y=1:=rfl
  first|(refine Al 4 rfl [0,1,2,3,4,5,6] Ah (Aj ?_))
  (repeat refine ndV ?_);refine F0 (B6v (k+(((xs.take j).map Mq).sum:Nat)) A7 A7) ?_;refine ⟨fun h'=>?_,fun _=>?_⟩<;>conv=>whnf
  ·have e:((Ka Yp Mq xs k).getD j default)=(⟨#[109]⟩:ByteArray)++Ia (k+(((xs.take j).map Mq).sum:Nat)):=A6 (fun z:ByteArray=>z) g
   simp only [Bu,e,Ex,Bool.not_true,Qq] at h'
  (repeat refine ndV ?_);refine Ci [] (j+1) A7 A7 ⟨?_,rfl,trivial⟩ trivial;exact A6 (fun n=>AV.c (vi n)) A7
 refine An A0 rfl rfl ⟨?_,trivial⟩;exact A6 vi (by rw [K0 A7])
theorem A6z (xs:List ByteArray)(hx:xs.length≤2097152):Dj 15 [.one (Cj xs),.one (Cj xs)] [.one (vb true)]:=by
 have hl:=hx;refine E3 Tryz.func15 fun W=>?_;refine ⟨fun h=>?_,fun _=>?_⟩<;>conv=>whnf
 ·simp at h
 refine Ok A0 false [] (fun k:Nat=>[(5,.c (vi k))]) (fun _=>[]) (fun _=>[])
  (fun k=>k≤xs.length) (fun k=>xs.length-k) 0 (Fk _) ⟨rfl,trivial⟩ trivial trivial trivial Ah (fun k hk=>?_)
 conv=>whnf
 refine ⟨fun h=>?_,fun h=>?_⟩<;>simp at h<;>conv=>whnf
 ·refine B5p rfl [0,1,2,3,4,5,6,7,8] Ah (Aj ?_)
  refine ⟨by omega,?_⟩;conv=>whnf
  refine ⟨by omega,?_⟩;conv=>whnf
  refine ⟨fun h'=>?_,fun _=>?_⟩<;>conv=>whnf
  ·simp [Ex] at h'
  refine ⟨by simp only [Gt];omega,?_⟩;conv=>whnf
  exact Ci [] (k+1) A7 A7 ⟨rfl,trivial⟩ trivial
 exact An A0 rfl rfl ⟨rfl,trivial⟩
def A72 (b:Bool):UInt8:=if b then 43 else 46
def K7 (l:List Bool):List UInt8:=l.map A72
theorem A74 {l:List Bool}{k:Nat}(h:k<l.length):K7 (l.take (k+1))=K7 (l.take k)++[A72 (l.getD k default)]:=W6 A72 h
def Qk (x:ByteArray):List ByteArray×Int:=if (Bv x).2.2.1=true then ((if (Bv x).2.1.length=0 then [] else [⟨(K7 (Bv x).2.1).toArray⟩])++Mx (Bv x).1,0) else ([],(Bv x).2.2.2)
theorem C4i (x:ByteArray):(Qk x).1.length≤600000:=by
 have h:=Oh (Jn x).1;unfold Qk
 split
 ·rw [D7]
  split<;>simp only [Gi,Ld]<;>omega
 exact Fk _
theorem Xj (l:List Bool)(k:Nat)(h:k≤l.length):(K7 (l.take k)).length=k:=by
 rw [K7,J8,Eo];omega
theorem A4k (l:List UInt8)(b:UInt8):(⟨l.toArray⟩:ByteArray)++⟨#[b]⟩=⟨(l++[b]).toArray⟩:=by
 apply V8
 simp [A0n]
theorem B9r {l:List Bool}(h:(⟨(K7 l).toArray⟩:ByteArray)=⟨#[]⟩):l.length=0:=by
 have:=A6 ByteArray.size h
 have e:(⟨(K7 l).toArray⟩:ByteArray).size=l.length:=by simp [ByteArray.size,K7]
 rw [e] at this;exact this
theorem B71 (t:ByteArray)(hx:t.size≤1048576):Dj 18 [.one (vs t)] [.one (Cj (Qk t).1),.one (vi (Qk t).2)]:=by
 have hL:=Zu t hx;have hw:=Jn t;have ho:=Uc t;unfold Qk;generalize Bv t=r at hL hw ho ⊢;obtain ⟨x,told,ok,n⟩:=r
 dsimp only at hL hw ho ⊢
 have hcl:=Oh hw.1;refine E3 Tryz.func18 fun W=>?_;refine F0 (hL) ?_;refine Cc (fun hk=>?_) fun hk=>?_
 ·have hk:ok=false:=by simpa using hk
  rw [Ab (by rw [hk];decide)];refine Q2 1 (Cj []) rfl C3 ?_;exact D0
 have hk:ok=true:=by simpa using hk
 rw [Ak hk];refine H5 1 (Cj []) rfl C3 ?_;refine H5 2 (V4 []) rfl C3 ?_;refine Fv [23] (fun k:Nat=>[(10,.c (vi k))]) (fun k=>[⟨0,[.c (Ax x.az.ak),.c (vi x.az.aq),.c (vi x.az.cap),.c (Af x.aq),.c (B7 x.ay),.c (Au x.ap),.c (Bd x.ac)]⟩]) (fun k=>[⟨1,Cj []⟩,⟨2,V4 (K7 (told.take k))⟩]) (fun k=>k≤told.length) (fun k=>told.length-k) fun k hk=>?_;refine Eh (fun h'=>?_) fun h'=>?_
 ·have h':k<told.length:=by omega
  have hs:=A74 h';have hl:=Xj told k A7;refine B8 ?_;refine Cc (fun hc=>?_) fun hc=>?_
  ·rw [Bu] at hc
   refine B8 ?_;refine B9 A0 rfl (V4 (K7 (told.take k)++[43])) (Ao rfl) Hy A7 (Er ?_);refine Ci [(2,4)] (k+1) A7 A7 ⟨rfl,trivial⟩ ⟨rfl,A6 V4 (by rw [hs,A72,Ak hc]),trivial⟩
  rw [Bu] at hc;refine B8 ?_;refine B9 A0 rfl (V4 (K7 (told.take k)++[46])) (Ao rfl) Hy A7 (Er ?_);refine Ci [(2,4)] (k+1) A7 A7 ⟨rfl,trivial⟩ ⟨rfl,A6 V4 (by rw [hs,A72,Ab (by rw [hc];decide)]),trivial⟩
 have e:k=told.length:=by omega
 have hl:=Xj told k hk;refine Eh (fun hz=>?_) fun hz=>?_
 ·refine D0z A0 rfl (K7 (told.take k)) rfl (Aj ?_)
  refine B9 A0 rfl (Cj ([]++[⟨(K7 (told.take k)).toArray⟩])) (Ao rfl) Hy Cw (Er ?_);refine Gg (T5 x ho A7) ?_;refine B9 A0 rfl (Cj ([⟨(K7 (told.take k)).toArray⟩]++Mx x)) (Ob 1 _ _ _) (fun _=>Ps _) (by (show 1+_≤_;omega)) (Aj ?_)
  refine An A0 rfl rfl ⟨?_,rfl,trivial⟩;exact A6 Cj (by rw [Ab A7,e,Hx])
 refine Gg (T5 x ho A7) ?_;refine B9 A0 rfl (Cj ([]++Mx x)) (Ob 1 _ _ _) (fun _=>Ps _) (by (show 0+_≤_;omega)) (Aj ?_)
 refine An A0 rfl rfl ⟨?_,rfl,trivial⟩;exact A6 Cj (by rw [Ak A7])
theorem A1h (t:ByteArray)(hx:t.size≤1048576):Dy Tryz.prog Vb 19 [.one (vs t)] [.one (Cj (Qk t).1),.one (vi (Qk t).2)]:=by
 have hL:=Tz t hx;have hw:=Jn t;have ho:=Uc t;unfold Qk;generalize Bv t=r at hL hw ho ⊢;obtain ⟨x,told,ok,n⟩:=r
 dsimp only at hL hw ho ⊢
 have hcl:=Oh hw.1;refine Ga A0 false Tryz.func19 rfl Cw fun W hW=>?_;conv=>whnf
 refine Dt (hL) B3 hW rfl (Aj ?_);refine Cc (fun hk=>?_) fun hk=>?_
 ·have hk:ok=false:=by simpa using hk
  rw [Ab (by rw [hk];decide)];exact D0
 have hk:ok=true:=by simpa using hk
 rw [Ak hk];refine Fv [] (fun k:Nat=>[(8,.c (vs ⟨(K7 (told.take k)).toArray⟩)),(24,.c (vi k))]) (fun k=>[⟨0,[.c (Ax x.az.ak),.c (vi x.az.aq),.c (vi x.az.cap),.c (Af x.aq),.c (B7 x.ay),.c (Au x.ap),.c (Bd x.ac)]⟩]) (fun k=>[]) (fun k=>k≤told.length) (fun k=>told.length-k) fun k hk=>?_;refine Eh (fun h'=>?_) fun h'=>?_
 ·have h':k<told.length:=by omega
  have hs:=A74 h';have hl:=Xj told k A7;refine B8 ?_;refine Cc (fun hc=>?_) fun hc=>?_
  ·rw [Bu] at hc
   refine B8 ?_;refine Ci [] (k+1) A7 A7 ⟨A6 (fun b=>AV.c (vs b)) (by rw [hs,A72,Ak hc];exact A4k _ _),rfl,trivial⟩ trivial
  rw [Bu] at hc;refine B8 ?_;refine Ci [] (k+1) A7 A7 ⟨A6 (fun b=>AV.c (vs b)) (by rw [hs,A72,Ab (by rw [hc];decide)];exact A4k _ _),rfl,trivial⟩ trivial
 have e:k=told.length:=by omega
 have hl:=Xj told k hk;refine Cc (fun hz=>?_) fun hz=>?_
 ·refine U4 36 1 (fun i=>[vs (([]:List ByteArray).getD i default)]) rfl ?_
  conv=>whnf
  refine B9 A0 rfl (Cj ([]++[⟨(K7 (told.take k)).toArray⟩])) (Ao rfl) Hy Cw (Er ?_);refine To (Su x ho A7) B3 hW rfl (Aj ?_);refine B9 A0 rfl (Cj ([⟨(K7 (told.take k)).toArray⟩]++Mx x)) (Ob 1 _ _ _) (fun _=>Ps _) (by (show 1+_≤_;omega)) (Aj ?_)
  refine An A0 rfl rfl ⟨?_,rfl,trivial⟩;exact A6 Cj (by rw [Ab (fun h0=>by rw [Np h0,List.take_nil] at hz;simp [K7,Ex] at hz),e,Hx])
 refine To (Su x ho A7) B3 hW rfl (Aj ?_);refine U4 40 1 (fun i=>[vs (([]:List ByteArray).getD i default)]) rfl ?_;conv=>whnf
 refine B9 A0 rfl (Cj ([]++Mx x)) (Ob 1 _ _ _) (fun _=>Ps _) (by (show 0+_≤_;omega)) (Aj ?_)
 refine An A0 rfl rfl ⟨?_,rfl,trivial⟩;exact A6 Cj (by rw [Ak (by have:=B9r (A5p hz);rw [Eo] at this;omega)])
end Go.Proofs.YtmhcebdkjgkmlaaGreatDoor
