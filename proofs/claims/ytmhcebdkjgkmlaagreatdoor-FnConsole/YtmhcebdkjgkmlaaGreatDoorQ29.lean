/- Part 29 of the proof that each of the laws FnConsole returns true for every input. No conditions. -/
import Derived.Test.YtmhcebdkjgkmlaaGreatDoorQ28

set_option linter.unusedSimpArgs false
set_option linter.unusedVariables false
set_option maxRecDepth 100000
namespace Go.Proofs.YtmhcebdkjgkmlaaGreatDoor
open Go.Sx
theorem C6v (xs:List De)(hx:xs.length≤16777216)(f:Nat)(cs:List Ag)(p:De→Bool)(hf:∀x∈xs,Di f [.agg x.c,.ptr cs] [.one (vb (p x))]):
  Di 235 [.one (Bf xs),.fn f [.ptr cs]] [.one (vi (Pf p xs))]:=by
 refine E7 Tryz.func235 fun W=>?_;refine Fx [] (fun k:Nat=>[(8,.c (vi k))]) (fun k=>[]) (fun k=>[]) (fun k=>k≤xs.length∧(xs.take k).any p=false) (fun k=>xs.length-k) fun k hk=>?_;obtain ⟨hk,he⟩:=hk;refine Dv (fun h=>?_) fun h=>?_
 ·have h:k<xs.length:=by omega
  refine B4 ?_;refine Fp (hf (xs.getD k default) (Al h)) ?_;refine C1 (fun hc=>?_) fun hc=>?_
  ·exact An A0 rfl rfl ⟨A6 vi (Su p xs k he h hc),trivial⟩
  refine B4 ?_;refine Cc [] (k+1) ⟨by omega,Gy he h hc⟩ A7 ⟨rfl,trivial⟩ trivial
 exact An A0 rfl rfl ⟨A6 vi (M8 p xs (by rw [Ej xs k A7] at he;exact he)),trivial⟩
theorem D29 (w:Int)(y:De):Di 236 [.agg y.c,.ptr [vi w]] [.one (vb (K8 w y))]:=by
 refine E7 Tryz.func236 fun W=>?_;exact An A0 rfl rfl ⟨rfl,trivial⟩
variable {c : A3} {w : Int}
theorem A5m (h:¬ (Ax c∧c.ac.any (K8 w)=true)):Fv c w=(c,false):=Ab h
theorem B55 (h:Ax c∧c.ac.any (K8 w)=true)(h1:Kr (A8 c w) (Ga c w).ab=true):Fv c w=(V0 c w,true):=by
 unfold Fv;rw [Ak h,Ak h1]
theorem B54 (h:Ax c∧c.ac.any (K8 w)=true)(h1:Kr (A8 c w) (Ga c w).ab=false):Fv c w=(Be (V0 c w) w (Jw (A8 c w) ⟨(Ga c w).ab,(Ga c w).ao⟩),true):=by
 unfold Fv;rw [Ak h,Ab (by rw [h1];decide)]
theorem C35 (h:c.ac.any (K8 w)=true):P7 c w<c.ac.length∧Pf (K8 w) c.ac=(P7 c w:Int)∧K8 w (Ga c w)=true:=by
 have e:Pf (K8 w) c.ac=(Hy (K8 w) c.ac:Int):=by rw [Pf,Ak h]
 have hx:∀(l:List De),l.any (K8 w)=true→Hy (K8 w) l<l.length∧K8 w (l.getD (Hy (K8 w) l) default)=true:=by
  intro l
  induction l with
  |nil=>intro h;simp at h
  |cons y r ih=>
   intro h
   by_cases hy:K8 w y=true
   ·simp [Hy,hy]
   have hy:K8 w y=false:=by simpa using hy
   rw [List.any_cons,hy,A0o] at h;obtain ⟨a,b⟩:=ih h;simp only [Hy,hy];exact ⟨by simpa using a,by simpa using b⟩
 exact ⟨(hx _ h).1,e,(hx _ h).2⟩
set_option maxHeartbeats 8000000 in
theorem B3d (x:A3)(w:Int)(h:x.w≤16000000)(hgo:M6 x):Di 181 [.agg x.c,.one (vi w)] [.agg (Fv x w).1.c,.one (vb (Fv x w).2)]:=by
 have hnl:=A3.news_le h;refine E7 Tryz.func181 fun W=>?_;refine Gf (Fc x A7) ?_;refine Aq (C6v x.ac A7 _ [vi w] (K8 w) (fun y _=>D29 w y)) rfl (Ah ?_)
 cases hA:x.ac.any (K8 w)
 ·rw [M8 _ _ hA]
  refine As ?_;rw [A5m (fun p=>by rw [p.2] at hA;cases hA)];exact D4
 obtain ⟨n1,n2,n3⟩:=C35 hA;rw [n2];refine C1 (fun hz=>?_) fun hz=>?_
 ·have:=Bn hz
  omega
 refine As ?_;refine Aq (Of x A7 hgo) rfl (Gu ?_);refine C1 (fun h1=>?_) fun h1=>?_
 ·have h1:¬ Ax x:=Cv (by simpa [Au] using h1)
  refine As ?_;rw [A5m (fun p=>h1 p.1)];exact D4
 have hC:Ax x:=Bn (show Au x=true by simpa using h1)
 have hH:Ax x∧x.ac.any (K8 w)=true:=⟨hC,hA⟩;have hwn:=hC.2.2.2.2 _ (Al (d:=default) n1);have hto:(Ga x w).to_=w:=by simpa [K8] using n3
 have hwl:=hC.1.2.1
 have hwb:0≤w∧w<x.aq.length:=by
  have:=hwn.1
  have e:(x.ac.getD (P7 x w) default).to_=w:=hto;omega
 have hj:w.toNat<x.aq.length:=by omega
 have hww:=A3.worker_le h hj;have hdl:(x.aq.getD w.toNat default).an.length≤(x.aq.getD w.toNat default).w:=by simp only [Ae.w];omega
 refine As ?_;refine A6g [.own 7] (B9m x.ac (P7 x w) n1 A7) (fun _ _=>trivial) (fun _ h=>by cases h) J0 rfl rfl (fun i _=>go A0 false ?_);conv=>whnf
 have hE0:(x.ac.getD (P7 x w) default).ab=(Ga x w).ab:=rfl
 first|(refine Aj 7 rfl [0,1,2,3,4,5,6,7,8] Am (Ah ?_))|(refine Aj 8 rfl [0,1,2,3,4,5,6,7,8,9,10,11,12,13,14,15,16,17,18] Am (Ah ?_))
 refine B4 ?_;refine Aq (Zb (A8 x w) (Ga x w).ab (by show (x.aq.getD w.toNat default).w≤_;omega)) rfl (Ah ?_)
 refine C1 (fun hd=>?_) fun hd=>?_
 ·have hd:Kr (A8 x w) (Ga x w).ab=false:=by simpa using hd
  refine As ?_;refine Zk 8 3 4 rfl rfl (fun v2=>?_);refine A71 8 3 rfl rfl (fun ho_v2=>?_);refine J3 rfl (E5 0 rfl (E5 3 rfl (E5 9 rfl (E5 11 rfl ?_))));refine Lt (s':=?_) 4 rfl Am ?_ ?_;rotate_left;refine Ah ?_;refine Hk 48 4 rfl (Em ?_);exact C2
  refine On 5 ?_;refine On 6 ?_;refine E5 7 rfl ?_;refine Wa (α:=Value) (s':=?_) 8 rfl Am ?_ ?_;rotate_left;refine Ah ?_;refine M9 A0 rfl (jn:=w.toNat) rfl rfl (fun v=>go A0 false ?_);conv=>whnf
  exact A3y v
  intro v;refine On 10 ?_;refine On 12 ?_;refine On 13 ?_;refine Nu [14,15,16,17,18] [⟨1,45,.rd v2⟩,⟨2,46,.rd (Value.int .i64 w)⟩] Am ?_;refine My rfl Dt ?_;refine Lg (s':=?_) rfl Dt ?_ ?_;rotate_left;refine Ah ?_;refine B6 A0 rfl (I0 ((x.aq.getD w.toNat default).an++[⟨(Ga x w).ab,(Ga x w).ao⟩])) (Ao rfl) Hd A7 (Ah ?_);exact C2
  refine Lg (s':=?_) rfl Dt ?_ ?_;rotate_left;refine Ah ?_;refine Hk 45 4 rfl (Em ?_);exact C2
  refine My rfl Dt ?_;refine Lg (s':=?_) rfl Dt ?_ ?_;rotate_left;refine Ah ?_;refine Bi (j:=w) A0 rfl (Af (x.aq.set w.toNat (Jw (A8 x w) ⟨(Ga x w).ab,(Ga x w).ao⟩))) (Ht hj rfl) (Ah ?_);exact C2
  refine Lr A0 Am Dt (GW.out (It ?_));conv=>whnf
  refine C4m Tryz.prog (fun _ g=>Zh 2 3 4 rfl rfl rfl g) ?_;rw [B54 hH hd];exact D4
 have hd:Kr (A8 x w) (Ga x w).ab=true:=by simpa using hd
 refine As ?_;rw [B55 hH hd];exact D4
theorem A8u (l:List De)(k:Nat):Va (l.take k).length (l.drop (k+1)).length 3 (fun i=>De.c ((l.take k).getD i default)) (fun i=>De.c ((l.drop (k+1)).getD i default)) (Bf (l.take k++l.drop (k+1))):=Oj 3 De.c _ _
theorem B9v {c:A3}{w:Int}{k:Nat}(hk:k<c.ac.length)(hb:∀i,i<k→K8 w (c.ac.getD i default)=false)(h:K8 w (c.ac.getD k default)=true):P7 c w=k∧c.ac.any (K8 w)=true:=⟨Z6 _ _ k hk hb h,R7 hk h⟩
theorem C36 {c:A3}{w:Int}(hb:∀i,i<c.ac.length→K8 w (c.ac.getD i default)=false):c.ac.any (K8 w)=false:=by
 rw [A3j];intro y hy;obtain ⟨i,hi,rfl⟩:=S4 hy
 have:=hb i hi
 rw [show c.ac.getD i default=c.ac[i] by simp [List.getD,hi]] at this
 simpa using this
set_option maxHeartbeats 8000000 in
theorem C8e (x:A3)(w:Int)(h:x.w≤16000000):MtR (fun _=>True) 190 [] (rc x) [.one (vi w)] (fun _:Unit=>True) (fun _=>rcb (Fv x w).1 (Au x)) (fun _=>[.one (vb (Fv x w).2)]):=by
 have hnl:=A3.news_le h;refine zeP Tryz.func190 fun B b hH hp=>?_;refine Fx [6] (fun k:Nat=>[(5,.c (vi k))]) (fun k=>[⟨0,[.own 1,.c (vi x.az.aq),.c (vi x.az.cap),.own 2,.own 3,.own 4,.own 5,.c (vb (Au x))]⟩]) (fun k=>[⟨1,At x.az.ak⟩,⟨2,Af x.aq⟩,⟨3,Ba x.ay⟩,⟨4,Aw x.ap⟩,⟨5,Bf x.ac⟩]) (fun k=>k≤x.ac.length∧∀i,i<k→K8 w (x.ac.getD i default)=false) (fun k=>x.ac.length-k) fun k hk=>?_;obtain ⟨hk,he⟩:=hk;conv=>whnf
 refine Dv (fun h1=>?_) fun h1=>?_
 ·have h1:k<x.ac.length:=by omega
  refine As ?_;refine C1 (fun hok=>?_) fun hok=>?_
  ·have hC:Ax x:=Bn (show Au x=true from hok)
   refine As ?_;refine Y0 (fun h2=>?_) fun h2=>?_
   ·rw [Bv] at h2
    have h2':K8 w (x.ac.getD k default)=false:=by simpa [K8] using h2
    refine B4 ?_;refine Cc [] (k+1) ⟨by omega,fun i hi=>(X3.1 hi).elim (fun h4=>he i h4) (fun h4=>by subst h4;exact h2')⟩ A7 ⟨rfl,trivial⟩ ⟨rfl,rfl,rfl,rfl,rfl,trivial⟩
   rw [Bv] at h2;have h2':K8 w (x.ac.getD k default)=true:=by simpa [K8] using h2
   obtain ⟨hat,hA⟩:=B9v h1 he h2';have hH:Ax x∧x.ac.any (K8 w)=true:=⟨hC,hA⟩;have hno:Ga x w=x.ac.getD k default:=by unfold Ga;rw [hat]
   have hwn:=hC.2.2.2.2 _ (Al (d:=default) h1);have hwl:=hC.1.2.1
   have hwb:0≤w∧w<x.aq.length:=by
    have:=hwn.1
    omega
   have hj:w.toNat<x.aq.length:=by omega
   have hww:=A3.worker_le h hj;have hdl:(x.aq.getD w.toNat default).an.length≤(x.aq.getD w.toNat default).w:=by simp only [Ae.w];omega
   have htk:=Ly k x.ac;refine C6l 0 6 5 rfl rfl rfl ?_
   have hh:V0 x w=⟨x.az,x.aq,x.ay,x.ap,x.ac.take k++x.ac.drop (k+1)⟩:=by
    unfold V0;rw [hat,A6s]
   refine J3 rfl (E5 0 rfl (E5 2 rfl (E5 3 rfl (E5 4 rfl (E5 5 rfl (E5 7 rfl (E5 10 rfl (E5 11 rfl (E5 12 rfl (E5 13 rfl (E5 15 rfl (E5 16 rfl ?_))))))))))));refine On 6 ?_;refine Lt (s':=?_) 8 rfl Am ?_ ?_;rotate_left;refine Ah ?_;refine P9 A0 rfl ⟨by omega,by omega,by omega⟩ (Bf (x.ac.take k)) (A3d A7) (Ah ?_);exact C2
   refine Nu [9,14,17,18,19,20,21,22] [⟨1,36,.emp 3⟩] Am ?_;refine Nk (s1:=?_) (s2:=?_) A0 [9,14,17,18,19,20,21,22] 9 14 [14,17,18,19,20,21,22] [9,17,18,19,20,21,22] rfl rfl Am Dt Bq Bq ?_ ?_ ?_ ?_;rotate_left 2;refine Ah ?_;refine B6 A0 rfl (Bf (x.ac.take k)) (Bs) (fun _=>H7 _) A7 (Ah ?_);exact C2
   refine My rfl Dt ?_;refine Lg (s':=?_) rfl Dt ?_ ?_;rotate_left;refine Ah ?_;refine P9 A0 rfl ⟨by omega,by omega,by omega⟩ (Bf (x.ac.drop (k+1))) (Ip (k:=k+1) h1) (Ah ?_);exact C2
   refine Lg (s':=?_) rfl Dt ?_ ?_;rotate_left;refine Ah ?_;refine B6 A0 rfl (Bf (x.ac.take k++x.ac.drop (k+1))) (A8u x.ac k) (fun _=>H7 _) (by (rw [F9,Ge];omega)) (Ah ?_);exact C2
   refine My rfl Dt ?_;refine My rfl Dt ?_;refine My rfl Dt ?_;refine My rfl Dt ?_;refine Lr A0 Am Dt (GW.out (It ?_));conv=>whnf
   rotate_left 1;refine Em ?_;exact C2
   refine Nk (s1:=?_) (s2:=?_) A0 [9,17,18,19,20,21,22] 9 17 [17,18,19,20,21,22] [9,18,19,20,21,22] rfl rfl Am Dt Bq Bq ?_ ?_ ?_ ?_;rotate_left 2;refine Ah ?_;refine B6 A0 rfl (Bf (x.ac.take k)) (Bs) (fun _=>H7 _) A7 (Ah ?_);exact C2
   refine Lg (s':=?_) rfl Dt ?_ ?_;rotate_left;refine Ah ?_;refine P9 A0 rfl ⟨by omega,by omega,by omega⟩ (Bf (x.ac.drop (k+1))) (Ip (k:=k+1) h1) (Ah ?_);exact C2
   refine Lg (s':=?_) rfl Dt ?_ ?_;rotate_left;refine Ah ?_;refine B6 A0 rfl (Bf (x.ac.take k++x.ac.drop (k+1))) (A8u x.ac k) (fun _=>H7 _) (by (rw [F9,Ge];omega)) (Ah ?_);exact C2
   refine My rfl Dt ?_;refine My rfl Dt ?_;refine My rfl Dt ?_;refine My rfl Dt ?_;refine Lr A0 Am Dt (GW.out (It ?_));conv=>whnf
   rotate_left 1;refine Ah ?_;refine P9 A0 rfl ⟨by omega,by omega,by omega⟩ (Bf (x.ac.drop (k+1))) (Ip (k:=k+1) h1) (Ah ?_);exact C2
   refine Lg (s':=?_) rfl Dt ?_ ?_;rotate_left;refine Ah ?_;refine B6 A0 rfl (Bf (x.ac.take k)) (Bs) (fun _=>H7 _) A7 (Ah ?_);exact C2
   refine Lg (s':=?_) rfl Dt ?_ ?_;rotate_left;refine Ah ?_;refine B6 A0 rfl (Bf (x.ac.take k++x.ac.drop (k+1))) (A8u x.ac k) (fun _=>H7 _) (by (rw [F9,Ge];omega)) (Ah ?_);exact C2
   refine My rfl Dt ?_;refine My rfl Dt ?_;refine My rfl Dt ?_;refine My rfl Dt ?_;refine Lr A0 Am Dt (GW.out (It ?_));conv=>whnf
   all_goals
    first|(refine Aj 6 rfl [0,2,3,4,5,6,7,8,10,11,12,13,14,15,16,17,1,9,18,19,20,21,22] Am (Ah ?_))|(refine Aj 7 rfl [0,1,2,3,4,5,6,7,8,9,10,11] Am (Ah ?_))|(refine Aj 8 rfl [0,1,2,3,4,5,6,7,8,9,10,11,12,13,14,15,16,17,18,19,20,21,22,23,24] Am (Ah ?_))
    refine B4 ?_;refine A4k A0 rfl hj rfl (fun u=>go A0 false ?_);conv=>whnf
    refine Fp (Zv (x.aq.getD w.toNat default) (x.ac.getD k default).ab A7) ?_;refine C1 (fun hd=>?_) fun hd=>?_
    ·have hd:Kr (A8 x w) (Ga x w).ab=false:=by rw [hno];exact (Mq _).mp hd
     refine Rt 2 (w.toNat) [(0,10),(1,11),(2,12),(3,13),(4,14),(5,15),(6,16),(7,17)] (Af x.aq) hj rfl rfl S7 rfl (Ct rfl) (It ?_);conv=>whnf
     refine Zk 0 3 2 rfl rfl (fun v2=>?_);refine A71 0 3 rfl rfl (fun ho_v2=>?_);refine J3 rfl (E5 0 rfl (E5 1 rfl (E5 2 rfl (E5 3 rfl (E5 5 rfl (E5 6 rfl (E5 7 rfl (E5 8 rfl (E5 9 rfl (E5 11 rfl (E5 15 rfl (E5 17 rfl ?_))))))))))));refine Lt (s':=?_) 10 rfl Am ?_ ?_;rotate_left;refine Ah ?_;refine Hk 79 2 rfl (Em ?_);exact C2
     refine On 12 ?_;refine E5 13 rfl ?_;refine Wa (α:=Value) (s':=?_) 14 rfl Am ?_ ?_;rotate_left;refine Ah ?_;refine M9 A0 rfl (jn:=w.toNat) rfl rfl (fun v3=>go A0 false ?_);conv=>whnf
     exact A3y v3
     intro v3;refine On 16 ?_;refine On 18 ?_;refine On 19 ?_;refine Nu [20,21,22,23,24] [⟨4,73,.rd v2⟩] Am ?_;refine My rfl Dt ?_;refine Lg (s':=?_) rfl Dt ?_ ?_;rotate_left;refine Ah ?_;refine B6 A0 rfl (I0 ((x.aq.getD w.toNat default).an++[⟨(x.ac.getD k default).ab,(x.ac.getD k default).ao⟩])) (Ao rfl) Hd A7 (Ah ?_);exact C2
     refine Lg (s':=?_) rfl Dt ?_ ?_;rotate_left;refine Ah ?_;refine Hk 73 2 rfl (Em ?_);exact C2
     refine My rfl Dt ?_;refine Lg (s':=?_) rfl Dt ?_ ?_;rotate_left;refine Ah ?_;refine Bi (j:=w) A0 rfl (Af (x.aq.set w.toNat (Jw (A8 x w) ⟨(x.ac.getD k default).ab,(x.ac.getD k default).ao⟩))) (Ht hj rfl) (Ah ?_);exact C2
     refine Lr A0 Am Dt (GW.out (It ?_));conv=>whnf
     refine C4m Tryz.prog (fun _ g=>Zh 0 3 2 rfl rfl rfl g) ?_;rw [B54 hH hd,hno,hh];exact Jf () trivial
    have hd:Kr (A8 x w) (Ga x w).ab=true:=by rw [hno];exact (Us _).mp hd
    refine Gb Tryz.prog 2 (w.toNat) [(0,10),(1,11),(2,12),(3,13),(4,14),(5,15),(6,16),(7,17)] (Af x.aq) hj rfl S7 rfl (Ct rfl) ?_;rw [B55 hH hd,hh];exact Jf () trivial
  have hC:¬ Ax x:=Cv (show Au x=false from hok)
  refine As ?_;rw [A5m (fun p=>hC p.1)];exact Jf () trivial
 obtain rfl:k=x.ac.length:=by omega
 refine As ?_;rw [A5m (fun p=>by have q:=p.2;rw [C36 he] at q;cases q)];exact Jf () trivial
theorem A5a (c:A3)(e:Int):(D0 c e).1.az=c.az:=by
 unfold D0
 dsimp only
 repeat' split
 all_goals first
  |rfl
  |(unfold Kz;split<;>rfl)
theorem C0q (c:A3)(p:Do):(Ap c p).1.az=c.az:=by
 unfold Ap
 split
 ·unfold Fy;split<;>rfl
 split
 ·unfold Ez;split<;>rfl
 split
 ·unfold Ck;repeat' split
  all_goals rfl
 split
 ·unfold E9;split<;>rfl
 split
 ·unfold F6;split<;>rfl
 split
 ·exact A5a c p.a
 split
 ·unfold Fv;repeat' split
  all_goals rfl
 rfl
theorem B7m (l:List Do):∀s:A3×List Bool,(l.foldl J9 s).1.az=s.1.az:=by
 induction l with
 |nil=>intro s;rfl
 |cons p r ih=>intro s;exact (ih (J9 s p)).trans (C0q s.1 p)
theorem Ug (c:A3)(l:List Do):(Ay c l).1.az=c.az:=B7m l (c,[])
theorem B1n (c:A3)(k:Nat):(Pg c k).az=c.az:=by
 induction k with
 |zero=>rfl
 |succ k ih=>exact (Ug (Pg c k) _).trans ih
theorem C7y {c d:A3}(h:d.az=c.az):Iw d=Iw c:=by
 unfold Iw;rw [h]
def cnt (c:A3) (l:List Do):Nat:=((Ay c l).2.filter id).length
theorem A3b {c:A3}{p:Do}(h3:p.kind≠3)(h4:p.kind≠4):Au (Ap c p).1=Au c:=by
 by_cases hc:Ax c
 ·rw [A41 hc,Ab h3,Ab h4]
  exact (Dc hc).symm
 rw [Xo hc]
set_option maxHeartbeats 4000000 in
theorem B70 (x:A3)(p:Do)(h:x.w≤8000000)(og:Gv .i64 x.az.aq):MtR (fun _=>True) 127 [] (rc x) [.agg p.c] (fun _:Unit=>True) (fun _=>rc (Ap x p).1) (fun _=>[.one (vb (Ap x p).2)]):=by
 refine zeP Tryz.func127 fun B b hH hp=>?_;refine Lf (fun k1=>?_) fun k1=>?_
 ·have hfl:=A3b (c:=x) (p:=p) A7 A7
  refine M4 (C8j x p.a A7) hH hp fun r hr=>?_
  have hz:rc (Ap x p).1=rcb (Fy x p.a).1 (Au x):=by
   have e:Ap x p=Fy x p.a:=by unfold Ap;rw [Ak k1]
   show rcb (Ap x p).1 (Au (Ap x p).1)=_
   rw [hfl,e]
  have hv:(Ap x p).2=(Fy x p.a).2:=by unfold Ap;rw [Ak k1]
  rw [hz,hv];exact Jf () trivial
 refine Lf (fun k2=>?_) fun k2=>?_
 ·have hfl:=A3b (c:=x) (p:=p) A7 A7
  refine M4 (C4p x p.a A7) hH hp fun r hr=>?_
  have hz:rc (Ap x p).1=rcb (Ez x p.a).1 (Au x):=by
   have e:Ap x p=Ez x p.a:=by unfold Ap;rw [Ab k1,Ak k2]
   show rcb (Ap x p).1 (Au (Ap x p).1)=_
   rw [hfl,e]
  have hv:(Ap x p).2=(Ez x p.a).2:=by unfold Ap;rw [Ab k1,Ak k2]
  rw [hz,hv];exact Jf () trivial
 refine Lf (fun k3=>?_) fun k3=>?_
 ·refine M4 (C8h x p.a h og) hH hp fun r hr=>?_
  have e:Ap x p=Ck x p.a:=by unfold Ap;rw [Ab k1,Ab k2,Ak k3]
  rw [e];exact Jf () trivial
 refine Lf (fun k4=>?_) fun k4=>?_
 ·refine M4 (C8i x p.a p.b h og) hH hp fun r hr=>?_
  have e:Ap x p=E9 x p.a p.b:=by unfold Ap;rw [Ab k1,Ab k2,Ab k3,Ak k4]
  rw [e];exact Jf () trivial
 have hfl:=A3b (c:=x) (p:=p) k3 k4;refine Lf (fun k5=>?_) fun k5=>?_
 ·refine M4 (C0e x p.a p.b A7 og) hH hp fun r hr=>?_
  have hz:rc (Ap x p).1=rcb (F6 x p.a p.b).1 (Au x):=by
   have e:Ap x p=F6 x p.a p.b:=by unfold Ap;rw [Ab k1,Ab k2,Ab k3,Ab k4,Ak k5]
   show rcb (Ap x p).1 (Au (Ap x p).1)=_
   rw [hfl,e]
  have hv:(Ap x p).2=(F6 x p.a p.b).2:=by unfold Ap;rw [Ab k1,Ab k2,Ab k3,Ab k4,Ak k5]
  rw [hz,hv];exact Jf () trivial
 refine Lf (fun k6=>?_) fun k6=>?_
 ·refine M4 (C4s x p.a A7) hH hp fun r hr=>?_
  have hz:rc (Ap x p).1=rcb (D0 x p.a).1 (Au x):=by
   have e:Ap x p=D0 x p.a:=by unfold Ap;rw [Ab k1,Ab k2,Ab k3,Ab k4,Ab k5,Ak k6]
   show rcb (Ap x p).1 (Au (Ap x p).1)=_
   rw [hfl,e]
  have hv:(Ap x p).2=(D0 x p.a).2:=by unfold Ap;rw [Ab k1,Ab k2,Ab k3,Ab k4,Ab k5,Ak k6]
  rw [hz,hv];exact Jf () trivial
 refine Lf (fun k7=>?_) fun k7=>?_
 ·refine M4 (C8e x p.a A7) hH hp fun r hr=>?_
  have hz:rc (Ap x p).1=rcb (Fv x p.a).1 (Au x):=by
   have e:Ap x p=Fv x p.a:=by unfold Ap;rw [Ab k1,Ab k2,Ab k3,Ab k4,Ab k5,Ab k6,Ak k7]
   show rcb (Ap x p).1 (Au (Ap x p).1)=_
   rw [hfl,e]
  have hv:(Ap x p).2=(Fv x p.a).2:=by unfold Ap;rw [Ab k1,Ab k2,Ab k3,Ab k4,Ab k5,Ab k6,Ak k7]
  rw [hz,hv];exact Jf () trivial
 have e:Ap x p=(x,false):=by unfold Ap;rw [Ab k1,Ab k2,Ab k3,Ab k4,Ab k5,Ab k6,Ab k7]
 rw [e];exact Jf () trivial
set_option maxHeartbeats 4000000 in
theorem B4q (x:A3)(l:List Do)(h:x.w+4 * l.length≤8000000)(og:Gv .i64 x.az.aq):Di 63 [.agg x.c,.one (D7 l)] [.agg (Ay x l).1.c,.one (Df (Ay x l).2)]:=by
 refine E7 Tryz.func63 fun W=>?_;have hp:N0 ⟨W,fun _=>False⟩ []:=fun _ h=>by cases h
 have hH:∀w,Fg.rel ⟨W,fun _=>False⟩ w→True:=fun _ _=>trivial
 refine B5i (B2j x A7) hp rfl (fun r hr=>go A0 false ?_);conv=>whnf
 refine Eu 8 (Df []) rfl C0 ?_;refine Fx [11] (fun k:Nat=>[(8,.c (vi k))]) (fun k=>[⟨2,[.own 3,.c (vi (Ay x (l.take k)).1.az.aq),.c (vi (Ay x (l.take k)).1.az.cap),.own 4,.own 5,.own 6,.own 7,.c (vb (Au (Ay x (l.take k)).1))]⟩,⟨1,[.c (.val (.slice none 0 0)),.c (vi 0),.c (vi 0),.c (.val (.slice none 0 0)),.c (.val (.slice none 0 0)),.c (.val (.slice none 0 0)),.c (.val (.slice none 0 0))]⟩]) (fun k=>[⟨8,Df (Ay x (l.take k)).2⟩,⟨3,At (Ay x (l.take k)).1.az.ak⟩,⟨4,Af (Ay x (l.take k)).1.aq⟩,⟨5,Ba (Ay x (l.take k)).1.ay⟩,⟨6,Aw (Ay x (l.take k)).1.ap⟩,⟨7,Bf (Ay x (l.take k)).1.ac⟩]) (fun k=>k≤l.length) (fun k=>l.length-k) fun k hk=>?_;conv=>whnf
 refine Dv (fun hlt=>?_) fun hlt=>?_
 ·have hlt:k<l.length:=by omega
  have hw:=Zr (c:=x) (l:=l.take k);have hn:=Wm (c:=x) (l:=l.take k);have ht:(l.take k).length=k:=by rw [F9];omega
  have hs:=A27 (c:=x) hlt;refine B4 ?_;refine M4 (B70 (Ay x (l.take k)).1 (l.getD k default) A7 (by rw [Ug];exact og)) hH hp fun r2 hr2=>?_;refine B6 A0 rfl (Df ((Ay x (l.take k)).2++[(Ap (Ay x (l.take k)).1 (l.getD k default)).2])) (Ao rfl) Hd A7 (Em ?_);refine A7t [(3,9),(4,10),(5,11),(6,12),(7,13),(8,15)] (k+1) A7 A7 ⟨rfl,trivial⟩ ⟨A6 Df (by rw [hs];rfl),A6 (fun s:A3×List Bool=>At s.1.az.ak) hs.symm,A6 (fun s:A3×List Bool=>Af s.1.aq) hs.symm,A6 (fun s:A3×List Bool=>Ba s.1.ay) hs.symm,A6 (fun s:A3×List Bool=>Aw s.1.ap) hs.symm,A6 (fun s:A3×List Bool=>Bf s.1.ac) hs.symm,trivial⟩ (by rw [hs];repeat' (first|exact trivial|exact rfl|refine ⟨?_,?_⟩)) Am ab8 Am
 obtain rfl:k=l.length:=by omega
 rw [H4];refine As ?_;exact D4
set_option maxHeartbeats 4000000 in
theorem C4r (x:A3)(l:List Do)(h:x.w+4 * l.length≤8000000)(og:Gv .i64 x.az.aq):MtR (fun _=>True) 99 [] (rc x) [.one (D7 l)] (fun _:Unit=>True) (fun _=>rc (Ay x l).1) (fun _=>[.one (vi (cnt x l))]):=by
 refine zeP Tryz.func99 fun B b hH hp=>?_;refine Fx [] (fun k:Nat=>[(6,.c (vi k)),(5,.c (vi (cnt x (l.take k))))]) (fun k=>[⟨0,[.own 1,.c (vi (Ay x (l.take k)).1.az.aq),.c (vi (Ay x (l.take k)).1.az.cap),.own 2,.own 3,.own 4,.own 5,.c (vb (Au (Ay x (l.take k)).1))]⟩]) (fun k=>[⟨1,At (Ay x (l.take k)).1.az.ak⟩,⟨2,Af (Ay x (l.take k)).1.aq⟩,⟨3,Ba (Ay x (l.take k)).1.ay⟩,⟨4,Aw (Ay x (l.take k)).1.ap⟩,⟨5,Bf (Ay x (l.take k)).1.ac⟩]) (fun k=>k≤l.length) (fun k=>l.length-k) fun k hk=>?_;conv=>whnf
 refine Dv (fun hlt=>?_) fun hlt=>?_
 ·have hlt:k<l.length:=by omega
  have hw:=Zr (c:=x) (l:=l.take k);have hn:=Wm (c:=x) (l:=l.take k);have ht:(l.take k).length=k:=by rw [F9];omega
  have hs:=A27 (c:=x) hlt
  have hcn:cnt x (l.take (k+1))=cnt x (l.take k)+if (Ap (Ay x (l.take k)).1 (l.getD k default)).2=true then 1 else 0:=by
   unfold cnt;rw [hs]
   show ((((Ay x (l.take k)).2++[(Ap (Ay x (l.take k)).1 (l.getD k default)).2]).filter id)).length=_
   rw [List.filter_append,D3]
   cases (Ap (Ay x (l.take k)).1 (l.getD k default)).2<;>rfl
  have hcl:cnt x (l.take k)≤k:=by
   unfold cnt;exact Fk (Nr _ _) A7
  refine B4 ?_;refine M4 (B70 (Ay x (l.take k)).1 (l.getD k default) A7 (by rw [Ug];exact og)) hH hp fun r2 hr2=>?_;refine C1 (fun hb=>?_) fun hb=>?_
  ·rw [Ak hb] at hcn
   refine B4 ?_;refine A7t [(1,6),(2,7),(3,8),(4,9),(5,10)] (k+1) A7 A7 ⟨rfl,A6 (fun n:Nat=>AV.c (vi (n:Int))) hcn.symm,trivial⟩ ⟨A6 (fun s:A3×List Bool=>At s.1.az.ak) hs.symm,A6 (fun s:A3×List Bool=>Af s.1.aq) hs.symm,A6 (fun s:A3×List Bool=>Ba s.1.ay) hs.symm,A6 (fun s:A3×List Bool=>Aw s.1.ap) hs.symm,A6 (fun s:A3×List Bool=>Bf s.1.ac) hs.symm,trivial⟩ (by rw [hs];repeat' (first|exact trivial|exact rfl|refine ⟨?_,?_⟩)) Am ab8 Am
  rw [Ab (by rw [hb];decide)] at hcn;refine B4 ?_;refine A7t [(1,6),(2,7),(3,8),(4,9),(5,10)] (k+1) A7 A7 ⟨rfl,A6 (fun n:Nat=>AV.c (vi (n:Int))) hcn.symm,trivial⟩ ⟨A6 (fun s:A3×List Bool=>At s.1.az.ak) hs.symm,A6 (fun s:A3×List Bool=>Af s.1.aq) hs.symm,A6 (fun s:A3×List Bool=>Ba s.1.ay) hs.symm,A6 (fun s:A3×List Bool=>Aw s.1.ap) hs.symm,A6 (fun s:A3×List Bool=>Bf s.1.ac) hs.symm,trivial⟩ (by rw [hs];repeat' (first|exact trivial|exact rfl|refine ⟨?_,?_⟩)) Am ab8 Am
 obtain rfl:k=l.length:=by omega
 rw [H4];refine As ?_;exact Jf () trivial
theorem B1f (n:Nat):∀c:A3,(Eb n c).1.w≤c.w+176 * n:=by
 induction n with
 |zero=>intro c;exact Ds _
 |succ n ih=>
  intro c;have h1:=C12 (c:=c);rw [Eb]
  split
  ·show (Ca c).1.w≤_
   omega
  have h2:=ih (Ca c).1
  show (Eb n (Ca c).1).1.w≤_
  omega
end Go.Proofs.YtmhcebdkjgkmlaaGreatDoor
