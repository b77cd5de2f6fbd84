/- Part 17 of the proof that each of the laws FnExactWhoIsDone, FnExactResultText, FnExactRunText returns true for every input. No conditions. -/
import Derived.Test.YtmhcebdkjgkmlaaGreatDoorP16

set_option linter.unusedSimpArgs false
set_option linter.unusedVariables false
set_option maxRecDepth 100000
namespace Go.Proofs.YtmhcebdkjgkmlaaGreatDoor
open Go.Sx
theorem C6t (xs:List D8)(hx:xs.length≤16777216)(f:Nat)(cs:List Ag)(p:D8→Bool)(hf:∀x∈xs,Dj f [.agg x.c,.ptr cs] [.one (vb (p x))]):
  Dj 235 [.one (Bd xs),.fn f [.ptr cs]] [.one (vi (P8 p xs))]:=by
 refine E3 Tryz.func235 fun W=>?_;refine Fv [] (fun k:Nat=>[(8,.c (vi k))]) (fun k=>[]) (fun k=>[]) (fun k=>k≤xs.length∧(xs.take k).any p=false) (fun k=>xs.length-k) fun k hk=>?_;obtain ⟨hk,he⟩:=hk;refine Eh (fun h=>?_) fun h=>?_
 ·have h:k<xs.length:=by omega
  refine B8 ?_;refine F0 (hf (xs.getD k default) (Am h)) ?_;refine Cc (fun hc=>?_) fun hc=>?_
  ·exact An A0 rfl rfl ⟨A6 vi (Sp p xs k he h hc),trivial⟩
  refine B8 ?_;refine Ci [] (k+1) ⟨by omega,Gn he h hc⟩ A7 ⟨rfl,trivial⟩ trivial
 exact An A0 rfl rfl ⟨A6 vi (M4 p xs (by rw [F9 xs k A7] at he;exact he)),trivial⟩
theorem D2n (w:Int)(y:D8):Dj 236 [.agg y.c,.ptr [vi w]] [.one (vb (K5 w y))]:=by
 refine E3 Tryz.func236 fun W=>?_;exact An A0 rfl rfl ⟨rfl,trivial⟩
variable {c : A3} {w : Int}
theorem A5u (h:¬ (Av c∧c.ac.any (K5 w)=true)):Fi c w=(c,false):=Ab h
theorem B54 (h:Av c∧c.ac.any (K5 w)=true)(h1:Kl (A8 c w) (G6 c w).ab=true):Fi c w=(V1 c w,true):=by
 unfold Fi;rw [Ak h,Ak h1]
theorem B53 (h:Av c∧c.ac.any (K5 w)=true)(h1:Kl (A8 c w) (G6 c w).ab=false):Fi c w=(Bc (V1 c w) w (Ju (A8 c w) ⟨(G6 c w).ab,(G6 c w).ao⟩),true):=by
 unfold Fi;rw [Ak h,Ab (by rw [h1];decide)]
theorem C33 (h:c.ac.any (K5 w)=true):P1 c w<c.ac.length∧P8 (K5 w) c.ac=(P1 c w:Int)∧K5 w (G6 c w)=true:=by
 have e:P8 (K5 w) c.ac=(Hq (K5 w) c.ac:Int):=by rw [P8,Ak h]
 have hx:∀(l:List D8),l.any (K5 w)=true→Hq (K5 w) l<l.length∧K5 w (l.getD (Hq (K5 w) l) default)=true:=by
  intro l
  induction l with
  |nil=>intro h;simp at h
  |cons y r ih=>
   intro h
   by_cases hy:K5 w y=true
   ·simp [Hq,hy]
   have hy:K5 w y=false:=by simpa using hy
   rw [List.any_cons,hy,A0p] at h;obtain ⟨a,b⟩:=ih h;simp only [Hq,hy];exact ⟨by simpa using a,by simpa using b⟩
 exact ⟨(hx _ h).1,e,(hx _ h).2⟩
set_option maxHeartbeats 8000000 in
theorem B3d (x:A3)(w:Int)(h:x.w≤16000000)(hgo:M0 x):Dj 181 [.agg x.c,.one (vi w)] [.agg (Fi x w).1.c,.one (vb (Fi x w).2)]:=by
 have hnl:=A3.news_le h;refine E3 Tryz.func181 fun W=>?_;refine Gg (F3 x A7) ?_;refine As (C6t x.ac A7 _ [vi w] (K5 w) (fun y _=>D2n w y)) rfl (Aj ?_)
 cases hA:x.ac.any (K5 w)
 ·rw [M4 _ _ hA]
  refine Ar ?_;rw [A5u (fun p=>by rw [p.2] at hA;cases hA)];exact D0
 obtain ⟨n1,n2,n3⟩:=C33 hA;rw [n2];refine Cc (fun hz=>?_) fun hz=>?_
 ·have:=Bj hz
  omega
 refine Ar ?_;refine As (O7 x A7 hgo) rfl (Hd ?_);refine Cc (fun h1=>?_) fun h1=>?_
 ·have h1:¬ Av x:=Cr (by simpa [At] using h1)
  refine Ar ?_;rw [A5u (fun p=>h1 p.1)];exact D0
 have hC:Av x:=Bj (show At x=true by simpa using h1)
 have hH:Av x∧x.ac.any (K5 w)=true:=⟨hC,hA⟩;have hwn:=hC.2.2.2.2 _ (Am (d:=default) n1);have hto:(G6 x w).to_=w:=by simpa [K5] using n3
 have hwl:=hC.1.2.1
 have hwb:0≤w∧w<x.aq.length:=by
  have:=hwn.1
  have e:(x.ac.getD (P1 x w) default).to_=w:=hto;omega
 have hj:w.toNat<x.aq.length:=by omega
 have hww:=A3.worker_le h hj;have hdl:(x.aq.getD w.toNat default).ai.length≤(x.aq.getD w.toNat default).w:=by simp only [Ae.w];omega
 refine Ar ?_;refine B5i [.own 7] (B9k x.ac (P1 x w) n1 A7) (fun _ _=>trivial) (fun _ h=>by cases h) Mm rfl rfl (fun i _=>go A0 false ?_);conv=>whnf
 have hE0:(x.ac.getD (P1 x w) default).ab=(G6 x w).ab:=rfl
 first|(refine Al 7 rfl [0,1,2,3,4,5,6,7,8] Ah (Aj ?_))|(refine Al 8 rfl [0,1,2,3,4,5,6,7,8,9,10,11,12,13,14,15,16,17,18] Ah (Aj ?_))
 refine B8 ?_;refine As (Z9 (A8 x w) (G6 x w).ab (by show (x.aq.getD w.toNat default).w≤_;omega)) rfl (Aj ?_)
 refine Cc (fun hd=>?_) fun hd=>?_
 ·have hd:Kl (A8 x w) (G6 x w).ab=false:=by simpa using hd
  refine Ar ?_;refine Zh 8 3 4 rfl rfl (fun v2=>?_);refine A8a 8 3 rfl rfl (fun ho_v2=>?_);refine Iy rfl (Dw 0 rfl (Dw 3 rfl (Dw 9 rfl (Dw 11 rfl ?_))));refine Lq (s':=?_) 4 rfl Ah ?_ ?_;rotate_left;refine Aj ?_;refine H7 48 4 rfl (Er ?_);exact C0
  refine Of 5 ?_;refine Of 6 ?_;refine Dw 7 rfl ?_;refine Wc (α:=Value) (s':=?_) 8 rfl Ah ?_ ?_;rotate_left;refine Aj ?_;refine M5 A0 rfl (jn:=w.toNat) rfl rfl (fun v=>go A0 false ?_);conv=>whnf
  exact A34 v
  intro v;refine Of 10 ?_;refine Of 12 ?_;refine Of 13 ?_;refine Nl [14,15,16,17,18] [⟨1,45,.rd v2⟩,⟨2,46,.rd (Value.int .i64 w)⟩] Ah ?_;refine Ms rfl Dq ?_;refine L9 (s':=?_) rfl Dq ?_ ?_;rotate_left;refine Aj ?_;refine B9 A0 rfl (Hu ((x.aq.getD w.toNat default).ai++[⟨(G6 x w).ab,(G6 x w).ao⟩])) (Ao rfl) Hy A7 (Aj ?_);exact C0
  refine L9 (s':=?_) rfl Dq ?_ ?_;rotate_left;refine Aj ?_;refine H7 45 4 rfl (Er ?_);exact C0
  refine Ms rfl Dq ?_;refine L9 (s':=?_) rfl Dq ?_ ?_;rotate_left;refine Aj ?_;refine Bt (j:=w) A0 rfl (Af (x.aq.set w.toNat (Ju (A8 x w) ⟨(G6 x w).ab,(G6 x w).ao⟩))) (Hk hj rfl) (Aj ?_);exact C0
  refine Ln A0 Ah Dq (GW.out (Iv ?_));conv=>whnf
  refine C4m Tryz.prog (fun _ g=>Ze 2 3 4 rfl rfl rfl g) ?_;rw [B53 hH hd];exact D0
 have hd:Kl (A8 x w) (G6 x w).ab=true:=by simpa using hd
 refine Ar ?_;rw [B54 hH hd];exact D0
theorem A83 (l:List D8)(k:Nat):A0t (l.take k).length (l.drop (k+1)).length 3 (fun i=>D8.c ((l.take k).getD i default)) (fun i=>D8.c ((l.drop (k+1)).getD i default)) (Bd (l.take k++l.drop (k+1))):=Ob 3 D8.c _ _
theorem B9u {c:A3}{w:Int}{k:Nat}(hk:k<c.ac.length)(hb:∀i,i<k→K5 w (c.ac.getD i default)=false)(h:K5 w (c.ac.getD k default)=true):P1 c w=k∧c.ac.any (K5 w)=true:=⟨Z4 _ _ k hk hb h,R5 hk h⟩
theorem C34 {c:A3}{w:Int}(hb:∀i,i<c.ac.length→K5 w (c.ac.getD i default)=false):c.ac.any (K5 w)=false:=by
 rw [A3n];intro y hy;obtain ⟨i,hi,rfl⟩:=Ry hy
 have:=hb i hi
 rw [show c.ac.getD i default=c.ac[i] by simp [List.getD,hi]] at this
 simpa using this
set_option maxHeartbeats 8000000 in
theorem C8a (x:A3)(w:Int)(h:x.w≤16000000):MtR (fun _=>True) 190 [] (rc x) [.one (vi w)] (fun _:Unit=>True) (fun _=>rcb (Fi x w).1 (At x)) (fun _=>[.one (vb (Fi x w).2)]):=by
 have hnl:=A3.news_le h;refine zeP Tryz.func190 fun B b hH hp=>?_;refine Fv [6] (fun k:Nat=>[(5,.c (vi k))]) (fun k=>[⟨0,[.own 1,.c (vi x.az.aq),.c (vi x.az.cap),.own 2,.own 3,.own 4,.own 5,.c (vb (At x))]⟩]) (fun k=>[⟨1,Ax x.az.ak⟩,⟨2,Af x.aq⟩,⟨3,B7 x.ay⟩,⟨4,Au x.ap⟩,⟨5,Bd x.ac⟩]) (fun k=>k≤x.ac.length∧∀i,i<k→K5 w (x.ac.getD i default)=false) (fun k=>x.ac.length-k) fun k hk=>?_;obtain ⟨hk,he⟩:=hk;conv=>whnf
 refine Eh (fun h1=>?_) fun h1=>?_
 ·have h1:k<x.ac.length:=by omega
  refine Ar ?_;refine Cc (fun hok=>?_) fun hok=>?_
  ·have hC:Av x:=Bj (show At x=true from hok)
   refine Ar ?_;refine zne (fun h2=>?_) fun h2=>?_
   ·rw [Bu] at h2
    have h2':K5 w (x.ac.getD k default)=false:=by simpa [K5] using h2
    refine B8 ?_;refine Ci [] (k+1) ⟨by omega,fun i hi=>(X3.1 hi).elim (fun h4=>he i h4) (fun h4=>by subst h4;exact h2')⟩ A7 ⟨rfl,trivial⟩ ⟨rfl,rfl,rfl,rfl,rfl,trivial⟩
   rw [Bu] at h2;have h2':K5 w (x.ac.getD k default)=true:=by simpa [K5] using h2
   obtain ⟨hat,hA⟩:=B9u h1 he h2';have hH:Av x∧x.ac.any (K5 w)=true:=⟨hC,hA⟩;have hno:G6 x w=x.ac.getD k default:=by unfold G6;rw [hat]
   have hwn:=hC.2.2.2.2 _ (Am (d:=default) h1);have hwl:=hC.1.2.1
   have hwb:0≤w∧w<x.aq.length:=by
    have:=hwn.1
    omega
   have hj:w.toNat<x.aq.length:=by omega
   have hww:=A3.worker_le h hj;have hdl:(x.aq.getD w.toNat default).ai.length≤(x.aq.getD w.toNat default).w:=by simp only [Ae.w];omega
   have htk:=Lv k x.ac;refine C6k 0 6 5 rfl rfl rfl ?_
   have hh:V1 x w=⟨x.az,x.aq,x.ay,x.ap,x.ac.take k++x.ac.drop (k+1)⟩:=by
    unfold V1;rw [hat,A60]
   refine Iy rfl (Dw 0 rfl (Dw 2 rfl (Dw 3 rfl (Dw 4 rfl (Dw 5 rfl (Dw 7 rfl (Dw 10 rfl (Dw 11 rfl (Dw 12 rfl (Dw 13 rfl (Dw 15 rfl (Dw 16 rfl ?_))))))))))));refine Of 6 ?_;refine Lq (s':=?_) 8 rfl Ah ?_ ?_;rotate_left;refine Aj ?_;refine P3 A0 rfl ⟨by omega,by omega,by omega⟩ (Bd (x.ac.take k)) (A3d A7) (Aj ?_);exact C0
   refine Nl [9,14,17,18,19,20,21,22] [⟨1,36,.emp 3⟩] Ah ?_;refine Nb (s1:=?_) (s2:=?_) A0 [9,14,17,18,19,20,21,22] 9 14 [14,17,18,19,20,21,22] [9,17,18,19,20,21,22] rfl rfl Ah Dq Cw Cw ?_ ?_ ?_ ?_;rotate_left 2;refine Aj ?_;refine B9 A0 rfl (Bd (x.ac.take k)) (Bs) (fun _=>Gw _) A7 (Aj ?_);exact C0
   refine Ms rfl Dq ?_;refine L9 (s':=?_) rfl Dq ?_ ?_;rotate_left;refine Aj ?_;refine P3 A0 rfl ⟨by omega,by omega,by omega⟩ (Bd (x.ac.drop (k+1))) (Il (k:=k+1) h1) (Aj ?_);exact C0
   refine L9 (s':=?_) rfl Dq ?_ ?_;rotate_left;refine Aj ?_;refine B9 A0 rfl (Bd (x.ac.take k++x.ac.drop (k+1))) (A83 x.ac k) (fun _=>Gw _) (by (rw [Eo,G4];omega)) (Aj ?_);exact C0
   refine Ms rfl Dq ?_;refine Ms rfl Dq ?_;refine Ms rfl Dq ?_;refine Ms rfl Dq ?_;refine Ln A0 Ah Dq (GW.out (Iv ?_));conv=>whnf
   rotate_left 1;refine Er ?_;exact C0
   refine Nb (s1:=?_) (s2:=?_) A0 [9,17,18,19,20,21,22] 9 17 [17,18,19,20,21,22] [9,18,19,20,21,22] rfl rfl Ah Dq Cw Cw ?_ ?_ ?_ ?_;rotate_left 2;refine Aj ?_;refine B9 A0 rfl (Bd (x.ac.take k)) (Bs) (fun _=>Gw _) A7 (Aj ?_);exact C0
   refine L9 (s':=?_) rfl Dq ?_ ?_;rotate_left;refine Aj ?_;refine P3 A0 rfl ⟨by omega,by omega,by omega⟩ (Bd (x.ac.drop (k+1))) (Il (k:=k+1) h1) (Aj ?_);exact C0
   refine L9 (s':=?_) rfl Dq ?_ ?_;rotate_left;refine Aj ?_;refine B9 A0 rfl (Bd (x.ac.take k++x.ac.drop (k+1))) (A83 x.ac k) (fun _=>Gw _) (by (rw [Eo,G4];omega)) (Aj ?_);exact C0
   refine Ms rfl Dq ?_;refine Ms rfl Dq ?_;refine Ms rfl Dq ?_;refine Ms rfl Dq ?_;refine Ln A0 Ah Dq (GW.out (Iv ?_));conv=>whnf
   rotate_left 1;refine Aj ?_;refine P3 A0 rfl ⟨by omega,by omega,by omega⟩ (Bd (x.ac.drop (k+1))) (Il (k:=k+1) h1) (Aj ?_);exact C0
   refine L9 (s':=?_) rfl Dq ?_ ?_;rotate_left;refine Aj ?_;refine B9 A0 rfl (Bd (x.ac.take k)) (Bs) (fun _=>Gw _) A7 (Aj ?_);exact C0
   refine L9 (s':=?_) rfl Dq ?_ ?_;rotate_left;refine Aj ?_;refine B9 A0 rfl (Bd (x.ac.take k++x.ac.drop (k+1))) (A83 x.ac k) (fun _=>Gw _) (by (rw [Eo,G4];omega)) (Aj ?_);exact C0
   refine Ms rfl Dq ?_;refine Ms rfl Dq ?_;refine Ms rfl Dq ?_;refine Ms rfl Dq ?_;refine Ln A0 Ah Dq (GW.out (Iv ?_));conv=>whnf
   all_goals
    first|(refine Al 6 rfl [0,2,3,4,5,6,7,8,10,11,12,13,14,15,16,17,1,9,18,19,20,21,22] Ah (Aj ?_))|(refine Al 7 rfl [0,1,2,3,4,5,6,7,8,9,10,11] Ah (Aj ?_))|(refine Al 8 rfl [0,1,2,3,4,5,6,7,8,9,10,11,12,13,14,15,16,17,18,19,20,21,22,23,24] Ah (Aj ?_))
    refine B8 ?_;refine A4p A0 rfl hj rfl (fun u=>go A0 false ?_);conv=>whnf
    refine F0 (Zt (x.aq.getD w.toNat default) (x.ac.getD k default).ab A7) ?_;refine Cc (fun hd=>?_) fun hd=>?_
    ·have hd:Kl (A8 x w) (G6 x w).ab=false:=by rw [hno];exact (Ml _).mp hd
     refine Ro 2 (w.toNat) [(0,10),(1,11),(2,12),(3,13),(4,14),(5,15),(6,16),(7,17)] (Af x.aq) hj rfl rfl S0 rfl (Cn rfl) (Iv ?_);conv=>whnf
     refine Zh 0 3 2 rfl rfl (fun v2=>?_);refine A8a 0 3 rfl rfl (fun ho_v2=>?_);refine Iy rfl (Dw 0 rfl (Dw 1 rfl (Dw 2 rfl (Dw 3 rfl (Dw 5 rfl (Dw 6 rfl (Dw 7 rfl (Dw 8 rfl (Dw 9 rfl (Dw 11 rfl (Dw 15 rfl (Dw 17 rfl ?_))))))))))));refine Lq (s':=?_) 10 rfl Ah ?_ ?_;rotate_left;refine Aj ?_;refine H7 79 2 rfl (Er ?_);exact C0
     refine Of 12 ?_;refine Dw 13 rfl ?_;refine Wc (α:=Value) (s':=?_) 14 rfl Ah ?_ ?_;rotate_left;refine Aj ?_;refine M5 A0 rfl (jn:=w.toNat) rfl rfl (fun v3=>go A0 false ?_);conv=>whnf
     exact A34 v3
     intro v3;refine Of 16 ?_;refine Of 18 ?_;refine Of 19 ?_;refine Nl [20,21,22,23,24] [⟨4,73,.rd v2⟩] Ah ?_;refine Ms rfl Dq ?_;refine L9 (s':=?_) rfl Dq ?_ ?_;rotate_left;refine Aj ?_;refine B9 A0 rfl (Hu ((x.aq.getD w.toNat default).ai++[⟨(x.ac.getD k default).ab,(x.ac.getD k default).ao⟩])) (Ao rfl) Hy A7 (Aj ?_);exact C0
     refine L9 (s':=?_) rfl Dq ?_ ?_;rotate_left;refine Aj ?_;refine H7 73 2 rfl (Er ?_);exact C0
     refine Ms rfl Dq ?_;refine L9 (s':=?_) rfl Dq ?_ ?_;rotate_left;refine Aj ?_;refine Bt (j:=w) A0 rfl (Af (x.aq.set w.toNat (Ju (A8 x w) ⟨(x.ac.getD k default).ab,(x.ac.getD k default).ao⟩))) (Hk hj rfl) (Aj ?_);exact C0
     refine Ln A0 Ah Dq (GW.out (Iv ?_));conv=>whnf
     refine C4m Tryz.prog (fun _ g=>Ze 0 3 2 rfl rfl rfl g) ?_;rw [B53 hH hd,hno,hh];exact K4 () trivial
    have hd:Kl (A8 x w) (G6 x w).ab=true:=by rw [hno];exact (Ur _).mp hd
    refine G7 Tryz.prog 2 (w.toNat) [(0,10),(1,11),(2,12),(3,13),(4,14),(5,15),(6,16),(7,17)] (Af x.aq) hj rfl S0 rfl (Cn rfl) ?_;rw [B54 hH hd,hh];exact K4 () trivial
  have hC:¬ Av x:=Cr (show At x=false from hok)
  refine Ar ?_;rw [A5u (fun p=>hC p.1)];exact K4 () trivial
 obtain rfl:k=x.ac.length:=by omega
 refine Ar ?_;rw [A5u (fun p=>by have q:=p.2;rw [C34 he] at q;cases q)];exact K4 () trivial
theorem A5h (c:A3)(e:Int):(Ct c e).1.az=c.az:=by
 unfold Ct
 dsimp only
 repeat' split
 all_goals first
  |rfl
  |(unfold Kr;split<;>rfl)
theorem C0u (c:A3)(p:Ea):(Ap c p).1.az=c.az:=by
 unfold Ap
 split
 ·unfold Fp;split<;>rfl
 split
 ·unfold Eu;split<;>rfl
 split
 ·unfold Cg;repeat' split
  all_goals rfl
 split
 ·unfold Dz;split<;>rfl
 split
 ·unfold Ez;split<;>rfl
 split
 ·exact A5h c p.a
 split
 ·unfold Fi;repeat' split
  all_goals rfl
 rfl
theorem B7q (l:List Ea):∀s:A3×List Bool,(l.foldl J3 s).1.az=s.1.az:=by
 induction l with
 |nil=>intro s;rfl
 |cons p r ih=>intro s;exact (ih (J3 s p)).trans (C0u s.1 p)
theorem Ud (c:A3)(l:List Ea):(Aw c l).1.az=c.az:=B7q l (c,[])
theorem B1n (c:A3)(k:Nat):(P9 c k).az=c.az:=by
 induction k with
 |zero=>rfl
 |succ k ih=>exact (Ud (P9 c k) _).trans ih
theorem C7w {c d:A3}(h:d.az=c.az):It d=It c:=by
 unfold It;rw [h]
def cnt (c:A3) (l:List Ea):Nat:=((Aw c l).2.filter id).length
theorem A3b {c:A3}{p:Ea}(h3:p.kind≠3)(h4:p.kind≠4):At (Ap c p).1=At c:=by
 by_cases hc:Av c
 ·rw [A46 hc,Ab h3,Ab h4]
  exact (Dg hc).symm
 rw [Xo hc]
set_option maxHeartbeats 4000000 in
theorem B72 (x:A3)(p:Ea)(h:x.w≤8000000)(og:Gt .i64 x.az.aq):MtR (fun _=>True) 127 [] (rc x) [.agg p.c] (fun _:Unit=>True) (fun _=>rc (Ap x p).1) (fun _=>[.one (vb (Ap x p).2)]):=by
 refine zeP Tryz.func127 fun B b hH hp=>?_;refine L8 (fun k1=>?_) fun k1=>?_
 ·have hfl:=A3b (c:=x) (p:=p) A7 A7
  refine zcP (C8e x p.a A7) hH hp fun r hr=>?_
  have hz:rc (Ap x p).1=rcb (Fp x p.a).1 (At x):=by
   have e:Ap x p=Fp x p.a:=by unfold Ap;rw [Ak k1]
   show rcb (Ap x p).1 (At (Ap x p).1)=_
   rw [hfl,e]
  have hv:(Ap x p).2=(Fp x p.a).2:=by unfold Ap;rw [Ak k1]
  rw [hz,hv];exact K4 () trivial
 refine L8 (fun k2=>?_) fun k2=>?_
 ·have hfl:=A3b (c:=x) (p:=p) A7 A7
  refine zcP (C4p x p.a A7) hH hp fun r hr=>?_
  have hz:rc (Ap x p).1=rcb (Eu x p.a).1 (At x):=by
   have e:Ap x p=Eu x p.a:=by unfold Ap;rw [Ab k1,Ak k2]
   show rcb (Ap x p).1 (At (Ap x p).1)=_
   rw [hfl,e]
  have hv:(Ap x p).2=(Eu x p.a).2:=by unfold Ap;rw [Ab k1,Ak k2]
  rw [hz,hv];exact K4 () trivial
 refine L8 (fun k3=>?_) fun k3=>?_
 ·refine zcP (C8c x p.a h og) hH hp fun r hr=>?_
  have e:Ap x p=Cg x p.a:=by unfold Ap;rw [Ab k1,Ab k2,Ak k3]
  rw [e];exact K4 () trivial
 refine L8 (fun k4=>?_) fun k4=>?_
 ·refine zcP (C8d x p.a p.b h og) hH hp fun r hr=>?_
  have e:Ap x p=Dz x p.a p.b:=by unfold Ap;rw [Ab k1,Ab k2,Ab k3,Ak k4]
  rw [e];exact K4 () trivial
 have hfl:=A3b (c:=x) (p:=p) k3 k4;refine L8 (fun k5=>?_) fun k5=>?_
 ·refine zcP (C0h x p.a p.b A7 og) hH hp fun r hr=>?_
  have hz:rc (Ap x p).1=rcb (Ez x p.a p.b).1 (At x):=by
   have e:Ap x p=Ez x p.a p.b:=by unfold Ap;rw [Ab k1,Ab k2,Ab k3,Ab k4,Ak k5]
   show rcb (Ap x p).1 (At (Ap x p).1)=_
   rw [hfl,e]
  have hv:(Ap x p).2=(Ez x p.a p.b).2:=by unfold Ap;rw [Ab k1,Ab k2,Ab k3,Ab k4,Ak k5]
  rw [hz,hv];exact K4 () trivial
 refine L8 (fun k6=>?_) fun k6=>?_
 ·refine zcP (C4s x p.a A7) hH hp fun r hr=>?_
  have hz:rc (Ap x p).1=rcb (Ct x p.a).1 (At x):=by
   have e:Ap x p=Ct x p.a:=by unfold Ap;rw [Ab k1,Ab k2,Ab k3,Ab k4,Ab k5,Ak k6]
   show rcb (Ap x p).1 (At (Ap x p).1)=_
   rw [hfl,e]
  have hv:(Ap x p).2=(Ct x p.a).2:=by unfold Ap;rw [Ab k1,Ab k2,Ab k3,Ab k4,Ab k5,Ak k6]
  rw [hz,hv];exact K4 () trivial
 refine L8 (fun k7=>?_) fun k7=>?_
 ·refine zcP (C8a x p.a A7) hH hp fun r hr=>?_
  have hz:rc (Ap x p).1=rcb (Fi x p.a).1 (At x):=by
   have e:Ap x p=Fi x p.a:=by unfold Ap;rw [Ab k1,Ab k2,Ab k3,Ab k4,Ab k5,Ab k6,Ak k7]
   show rcb (Ap x p).1 (At (Ap x p).1)=_
   rw [hfl,e]
  have hv:(Ap x p).2=(Fi x p.a).2:=by unfold Ap;rw [Ab k1,Ab k2,Ab k3,Ab k4,Ab k5,Ab k6,Ak k7]
  rw [hz,hv];exact K4 () trivial
 have e:Ap x p=(x,false):=by unfold Ap;rw [Ab k1,Ab k2,Ab k3,Ab k4,Ab k5,Ab k6,Ab k7]
 rw [e];exact K4 () trivial
set_option maxHeartbeats 4000000 in
theorem B4q (x:A3)(l:List Ea)(h:x.w+4 * l.length≤8000000)(og:Gt .i64 x.az.aq):Dj 63 [.agg x.c,.one (E9 l)] [.agg (Aw x l).1.c,.one (D9 (Aw x l).2)]:=by
 refine E3 Tryz.func63 fun W=>?_;have hp:Py ⟨W,fun _=>False⟩ []:=fun _ h=>by cases h
 have hH:∀w,Fa.rel ⟨W,fun _=>False⟩ w→True:=fun _ _=>trivial
 refine D05 (B2k x A7) hp rfl (fun r hr=>go A0 false ?_);conv=>whnf
 refine H5 8 (D9 []) rfl C3 ?_;refine Fv [11] (fun k:Nat=>[(8,.c (vi k))]) (fun k=>[⟨2,[.own 3,.c (vi (Aw x (l.take k)).1.az.aq),.c (vi (Aw x (l.take k)).1.az.cap),.own 4,.own 5,.own 6,.own 7,.c (vb (At (Aw x (l.take k)).1))]⟩,⟨1,[.c (.val (.slice none 0 0)),.c (vi 0),.c (vi 0),.c (.val (.slice none 0 0)),.c (.val (.slice none 0 0)),.c (.val (.slice none 0 0)),.c (.val (.slice none 0 0))]⟩]) (fun k=>[⟨8,D9 (Aw x (l.take k)).2⟩,⟨3,Ax (Aw x (l.take k)).1.az.ak⟩,⟨4,Af (Aw x (l.take k)).1.aq⟩,⟨5,B7 (Aw x (l.take k)).1.ay⟩,⟨6,Au (Aw x (l.take k)).1.ap⟩,⟨7,Bd (Aw x (l.take k)).1.ac⟩]) (fun k=>k≤l.length) (fun k=>l.length-k) fun k hk=>?_;conv=>whnf
 refine Eh (fun hlt=>?_) fun hlt=>?_
 ·have hlt:k<l.length:=by omega
  have hw:=Zq (c:=x) (l:=l.take k);have hn:=Wp (c:=x) (l:=l.take k);have ht:(l.take k).length=k:=by rw [Eo];omega
  have hs:=A26 (c:=x) hlt;refine B8 ?_;refine zcP (B72 (Aw x (l.take k)).1 (l.getD k default) A7 (by rw [Ud];exact og)) hH hp fun r2 hr2=>?_;refine B9 A0 rfl (D9 ((Aw x (l.take k)).2++[(Ap (Aw x (l.take k)).1 (l.getD k default)).2])) (Ao rfl) Hy A7 (Er ?_);refine W5 [(3,9),(4,10),(5,11),(6,12),(7,13),(8,15)] (k+1) A7 A7 ⟨rfl,trivial⟩ ⟨A6 D9 (by rw [hs];rfl),A6 (fun s:A3×List Bool=>Ax s.1.az.ak) hs.symm,A6 (fun s:A3×List Bool=>Af s.1.aq) hs.symm,A6 (fun s:A3×List Bool=>B7 s.1.ay) hs.symm,A6 (fun s:A3×List Bool=>Au s.1.ap) hs.symm,A6 (fun s:A3×List Bool=>Bd s.1.ac) hs.symm,trivial⟩ (by rw [hs];repeat' (first|exact trivial|exact rfl|refine ⟨?_,?_⟩)) Ah ab9 Ah
 obtain rfl:k=l.length:=by omega
 rw [Hx];refine Ar ?_;exact D0
set_option maxHeartbeats 4000000 in
theorem C4r (x:A3)(l:List Ea)(h:x.w+4 * l.length≤8000000)(og:Gt .i64 x.az.aq):MtR (fun _=>True) 99 [] (rc x) [.one (E9 l)] (fun _:Unit=>True) (fun _=>rc (Aw x l).1) (fun _=>[.one (vi (cnt x l))]):=by
 refine zeP Tryz.func99 fun B b hH hp=>?_;refine Fv [] (fun k:Nat=>[(6,.c (vi k)),(5,.c (vi (cnt x (l.take k))))]) (fun k=>[⟨0,[.own 1,.c (vi (Aw x (l.take k)).1.az.aq),.c (vi (Aw x (l.take k)).1.az.cap),.own 2,.own 3,.own 4,.own 5,.c (vb (At (Aw x (l.take k)).1))]⟩]) (fun k=>[⟨1,Ax (Aw x (l.take k)).1.az.ak⟩,⟨2,Af (Aw x (l.take k)).1.aq⟩,⟨3,B7 (Aw x (l.take k)).1.ay⟩,⟨4,Au (Aw x (l.take k)).1.ap⟩,⟨5,Bd (Aw x (l.take k)).1.ac⟩]) (fun k=>k≤l.length) (fun k=>l.length-k) fun k hk=>?_;conv=>whnf
 refine Eh (fun hlt=>?_) fun hlt=>?_
 ·have hlt:k<l.length:=by omega
  have hw:=Zq (c:=x) (l:=l.take k);have hn:=Wp (c:=x) (l:=l.take k);have ht:(l.take k).length=k:=by rw [Eo];omega
  have hs:=A26 (c:=x) hlt
  have hcn:cnt x (l.take (k+1))=cnt x (l.take k)+if (Ap (Aw x (l.take k)).1 (l.getD k default)).2=true then 1 else 0:=by
   unfold cnt;rw [hs]
   show ((((Aw x (l.take k)).2++[(Ap (Aw x (l.take k)).1 (l.getD k default)).2]).filter id)).length=_
   rw [List.filter_append,D7]
   cases (Ap (Aw x (l.take k)).1 (l.getD k default)).2<;>rfl
  have hcl:cnt x (l.take k)≤k:=by
   unfold cnt;exact Ew (Ni _ _) A7
  refine B8 ?_;refine zcP (B72 (Aw x (l.take k)).1 (l.getD k default) A7 (by rw [Ud];exact og)) hH hp fun r2 hr2=>?_;refine Cc (fun hb=>?_) fun hb=>?_
  ·rw [Ak hb] at hcn
   refine B8 ?_;refine W5 [(1,6),(2,7),(3,8),(4,9),(5,10)] (k+1) A7 A7 ⟨rfl,A6 (fun n:Nat=>AV.c (vi (n:Int))) hcn.symm,trivial⟩ ⟨A6 (fun s:A3×List Bool=>Ax s.1.az.ak) hs.symm,A6 (fun s:A3×List Bool=>Af s.1.aq) hs.symm,A6 (fun s:A3×List Bool=>B7 s.1.ay) hs.symm,A6 (fun s:A3×List Bool=>Au s.1.ap) hs.symm,A6 (fun s:A3×List Bool=>Bd s.1.ac) hs.symm,trivial⟩ (by rw [hs];repeat' (first|exact trivial|exact rfl|refine ⟨?_,?_⟩)) Ah ab9 Ah
  rw [Ab (by rw [hb];decide)] at hcn;refine B8 ?_;refine W5 [(1,6),(2,7),(3,8),(4,9),(5,10)] (k+1) A7 A7 ⟨rfl,A6 (fun n:Nat=>AV.c (vi (n:Int))) hcn.symm,trivial⟩ ⟨A6 (fun s:A3×List Bool=>Ax s.1.az.ak) hs.symm,A6 (fun s:A3×List Bool=>Af s.1.aq) hs.symm,A6 (fun s:A3×List Bool=>B7 s.1.ay) hs.symm,A6 (fun s:A3×List Bool=>Au s.1.ap) hs.symm,A6 (fun s:A3×List Bool=>Bd s.1.ac) hs.symm,trivial⟩ (by rw [hs];repeat' (first|exact trivial|exact rfl|refine ⟨?_,?_⟩)) Ah ab9 Ah
 obtain rfl:k=l.length:=by omega
 rw [Hx];refine Ar ?_;exact K4 () trivial
theorem B1g (n:Nat):∀c:A3,(E5 n c).1.w≤c.w+176 * n:=by
 induction n with
 |zero=>intro c;exact Df _
 |succ n ih=>
  intro c;have h1:=C18 (c:=c);rw [E5]
  split
  ·show (C5 c).1.w≤_
   omega
  have h2:=ih (C5 c).1
  show (E5 n (C5 c).1).1.w≤_
  omega
theorem B8d {n es:Nat}{row:Nat→List Ag}{j off:Nat}{r cs:List Ag}:Vi n es (Hb row j r) j off cs (.sl n es (Hb row j (E7 r off cs))):=
 ⟨_,rfl,fun i _ hne=>by rw [Qn _ _ _ _ hne,Qn _ _ _ _ hne],by rw [Cu,Cu]⟩
set_option maxHeartbeats 8000000 in
theorem B0d (x:A3)(e:Int)(h:x.w≤16000000)(hgo:M0 x):Dj 180 [.agg x.c,.one (vi e)] [.agg (Ct x e).1.c,.one (vb (Ct x e).2)]:=by
 refine E3 Tryz.func180 fun W=>?_;refine Gg (F3 x A7) ?_;refine F0 (O7 x A7 hgo) ?_;refine Cc (fun hC=>?_) fun hC=>?_
 ·refine Ar ?_
  refine An A0 rfl rfl ?_;rw [Uk (fun p=>by rw [show At x=true from Dg p.1] at hC;exact absurd hC Cw)]
  exact Mm
 have hC:Av x:=Bj (show At x=true by simpa using hC)
 have hl0:1≤x.aq.length:=by have:=hC.1.2.1;have:=hC.1.1.2.1;omega
 have htl:x.ap.length=4:=hC.1.2.2.2;have hwl4:x.aq.length≤4:=by have:=hC.1.2.1;have:=hC.1.1.2.1;omega
 refine Ar ?_;refine As (H9 e 0 3) rfl (Hd ?_);refine Cc (fun hE=>?_) fun hE=>?_
 ·refine Ar ?_
  refine An A0 rfl rfl ?_;rw [Uk (fun p=>by have:=p.2.1;clear hC hgo p;simp only [Ey] at *;omega)];exact Mm
 have hE:0≤e∧e≤3:=by clear hC hgo;simp only [Ey] at *;omega
 refine Ar ?_;refine As (Z9 (A8 x 0) e (by have:=A3.worker_le h (show 0<x.aq.length by omega);show (x.aq.getD 0 default).w≤_;omega)) rfl (Hd ?_)
 refine Cc (fun hD=>?_) fun hD=>?_
 ·refine Ar ?_
  refine An A0 rfl rfl ?_;rw [Uk (fun p=>by rw [p.2.2.1] at hD;cases hD)];exact Mm
 have hE1:e<x.ap.length:=by omega
 have htk:e.toNat<x.ap.length:=by omega
 have hTP:=hC.2.2.2.1 _ (Am (d:=default) htk)
 have hat:0≤(x.ap.getD e.toNat default).aj∧(x.ap.getD e.toNat default).aj<x.aq.length:=by
  have:=hC.1.2.1
  have:=hTP.1
  omega
 have hj:(x.ap.getD e.toNat default).aj.toNat<x.aq.length:=by omega
 have hWP:=hC.2.1 _ (Am (d:=default) hj);refine B8 ?_
 first|(refine Al 5 rfl [0,1,2,3,4,5,6,7] Ah (Aj ?_))|(refine Al 17 rfl [0,1,2,3,4,5,6,7,8,9,10,11,12,13,14] Ah (Aj ?_))|(refine Al 20 rfl [0,1,2,3,4,5,6,7,8,9,10,11,12,13] Ah (Aj ?_))|(refine Al 22 rfl [0,1,2,3,4,5,6,7,8,9,10,11,12,13,14] Ah (Aj ?_))|(refine Al 9 rfl [0,1,2,3,4,5,6,7,8,9,10,11,12,13,14,15,16,17,18,19,20,21,22,23,24,25,26,27,28,29] Ah (Aj ?_))
 refine ⟨by exact hat,?_⟩;conv=>whnf
 refine B8 ?_;refine A4p A0 rfl hj rfl (fun u=>go A0 false ?_);conv=>whnf
 refine As (B0a (x.aq.getD (x.ap.getD e.toNat default).aj.toNat default) e (by have:=A3.worker_le h hj;omega)) rfl ?_;refine Aj ?_;refine Cc (fun hP=>?_) fun hP=>?_
 ·refine Ar ?_
  rw [Uk (fun p=>by have q:=p.2.2.2;rw [show A8 x (A4 x e).aj=x.aq.getD (x.ap.getD e.toNat default).aj.toNat default from rfl] at q;rw [q] at hP;cases hP)]
  refine G7 Tryz.prog 3 ((x.ap.getD e.toNat default).aj.toNat) [(0,8),(1,9),(2,10),(3,11),(4,12),(5,13),(6,14),(7,15)] (Af (x.aq)) hj rfl S0 rfl (Cn rfl) ?_;exact D0
 have hP:L4 (x.aq.getD (x.ap.getD e.toNat default).aj.toNat default) e=true:=by simpa using hP
 have hT:Y0 x e:=⟨hC,hE,hD,hP⟩;obtain ⟨hL1,hL2,hL3⟩:=hWP.2.1;have hs1:=hTP.2.2
 have hbl:e.toNat<(A8 x (A4 x e).aj).al.length:=by
  show e.toNat<(x.aq.getD (x.ap.getD e.toNat default).aj.toNat default).al.length
  omega
 have hs2:Jh ((x.aq.getD (x.ap.getD e.toNat default).aj.toNat default).ah.getD e.toNat default):=hWP.2.2.2.1 _ (Am A7);simp only [Jh] at hs2;have hdl:(x.aq.getD (x.ap.getD e.toNat default).aj.toNat default).ai.length≤16000000:=by have:=A3.worker_le h hj;simp only [Ae.w] at this;omega
 have hnl:=A3.news_le h;have hwl:=A3.workers_le h;refine Ar ?_;refine Cc (fun hg=>?_) fun hg=>?_
 ·have hg:(A4 x e).bz=false:=by simpa [A4] using hg
  first|(refine Al 5 rfl [0,1,2,3,4,5,6,7] Ah (Aj ?_))|(refine Al 17 rfl [0,1,2,3,4,5,6,7,8,9,10,11,12,13,14] Ah (Aj ?_))|(refine Al 20 rfl [0,1,2,3,4,5,6,7,8,9,10,11,12,13] Ah (Aj ?_))|(refine Al 22 rfl [0,1,2,3,4,5,6,7,8,9,10,11,12,13,14] Ah (Aj ?_))|(refine Al 9 rfl [0,1,2,3,4,5,6,7,8,9,10,11,12,13,14,15,16,17,18,19,20,21,22,23,24,25,26,27,28,29] Ah (Aj ?_))
  refine B8 ?_;refine N2 A0 rfl (Cu _ _ _) rfl (Aj ?_);refine H7 132 14 rfl (Er ?_);refine Bt (j:=e) A0 rfl (Au (x.ap.set e.toNat ⟨true,(x.aq.length:Int)-1,0,false,(A8 x (A4 x e).aj).an.getD e.toNat default⟩)) (Dd htk rfl) (Aj ?_);refine N2 A0 rfl (Cu _ _ _) rfl (Aj ?_);refine H7 145 13 rfl (Er ?_);refine Bt (j:=e) A0 rfl (D9 ((A8 x (A4 x e).aj).al.set e.toNat false)) (Dd hbl rfl) (Aj ?_);rw [B2q hT hg];refine G7 Tryz.prog 3 ((x.ap.getD e.toNat default).aj.toNat) [(0,8),(1,9),(2,10),(3,11),(4,12),(5,13),(6,14),(7,15)] (Af ((x.aq.set (x.ap.getD e.toNat default).aj.toNat (K8 (A8 x (A4 x e).aj) e)))) hj rfl S0 rfl (Hp hj rfl) ?_;exact D0
 have hg:(A4 x e).bz=true:=by simpa [A4] using hg
 refine Cc (fun hA=>?_) fun hA=>?_
 ·have hA:(A4 x e).aj>0:=Bj hA
  first|(refine Al 5 rfl [0,1,2,3,4,5,6,7] Ah (Aj ?_))|(refine Al 17 rfl [0,1,2,3,4,5,6,7,8,9,10,11,12,13,14] Ah (Aj ?_))|(refine Al 20 rfl [0,1,2,3,4,5,6,7,8,9,10,11,12,13] Ah (Aj ?_))|(refine Al 22 rfl [0,1,2,3,4,5,6,7,8,9,10,11,12,13,14] Ah (Aj ?_))|(refine Al 9 rfl [0,1,2,3,4,5,6,7,8,9,10,11,12,13,14,15,16,17,18,19,20,21,22,23,24,25,26,27,28,29] Ah (Aj ?_))
  refine B8 ?_;refine N2 A0 rfl (Cu _ _ _) rfl (Aj ?_);refine H7 161 12 rfl (Er ?_);refine As (H9 _ (-1000000) 1000000) rfl ?_;refine Aj ?_;refine Cc (fun hS=>?_) fun hS=>?_
  ·refine Ar ?_
   rw [C2m hT hg hA (fun p=>by have q:Dv _ (-1000000) 1000000=false:=(Ml _).mp hS;exact absurd ((Go.Sx.Ch.2 p).symm.trans q) Cw)];refine G7 Tryz.prog 3 ((x.ap.getD e.toNat default).aj.toNat) [(0,8),(1,9),(2,10),(3,11),(4,12),(5,13),(6,14),(7,15)] (Af (x.aq)) hj rfl S0 rfl (Cn rfl) ?_;exact D0
  have hS:Jh ((A4 x e).sum+(A8 x (A4 x e).aj).ah.getD e.toNat default):=Go.Sx.Ch.1 ((Ur _).mp hS);refine Ar ?_
  first|(refine Al 5 rfl [0,1,2,3,4,5,6,7] Ah (Aj ?_))|(refine Al 17 rfl [0,1,2,3,4,5,6,7,8,9,10,11,12,13,14] Ah (Aj ?_))|(refine Al 20 rfl [0,1,2,3,4,5,6,7,8,9,10,11,12,13] Ah (Aj ?_))|(refine Al 22 rfl [0,1,2,3,4,5,6,7,8,9,10,11,12,13,14] Ah (Aj ?_))|(refine Al 9 rfl [0,1,2,3,4,5,6,7,8,9,10,11,12,13,14,15,16,17,18,19,20,21,22,23,24,25,26,27,28,29] Ah (Aj ?_))
  refine B8 ?_;refine N2 A0 rfl (Cu _ _ _) rfl (Aj ?_);refine H7 176 12 rfl (Er ?_);refine Bt (j:=e) A0 rfl (Au (x.ap.set e.toNat ⟨(A4 x e).bz,(A4 x e).aj,(A4 x e).sum+(A8 x (A4 x e).aj).ah.getD e.toNat default,(A4 x e).al,(A4 x e).ao⟩)) (Dd htk rfl) (Aj ?_);refine Cc (fun hb=>?_) fun hb=>?_
  ·have hb:(A4 x e).al=true:=by rw [Sx.getD_set_self _ _ _ _ htk] at hb;exact hb
   refine Ar ?_;refine Bt (j:=e) A0 rfl (Au (x.ap.set e.toNat ⟨(A4 x e).bz,(A4 x e).aj,(A4 x e).sum+(A8 x (A4 x e).aj).ah.getD e.toNat default,(A4 x e).al||(A8 x (A4 x e).aj).al.getD e.toNat default,(A4 x e).ao⟩)) (Lr htk (by rw [hb];rfl)) (Aj ?_);refine Cc (fun hc=>?_) fun hc=>?_
   ·have hc:(A4 x e).ao=true:=by rw [Sx.getD_set_self _ _ _ _ htk] at hc;exact hc
    refine Ar ?_;refine Bt (j:=e) A0 rfl (Au (x.ap.set e.toNat ⟨(A4 x e).bz,(A4 x e).aj,(A4 x e).sum+(A8 x (A4 x e).aj).ah.getD e.toNat default,(A4 x e).al||(A8 x (A4 x e).aj).al.getD e.toNat default,(A4 x e).ao||(A8 x (A4 x e).aj).an.getD e.toNat default⟩)) (Lr htk (by rw [hc];rfl)) (Aj ?_);refine N2 A0 rfl (Cu _ _ _) rfl (Aj ?_);refine H7 218 13 rfl (Er ?_);refine Bt (j:=e) A0 rfl (D9 ((A8 x (A4 x e).aj).al.set e.toNat false)) (Dd hbl rfl) (Aj ?_);refine ⟨by (rw [Sx.getD_set_self _ _ _ _ htk];have q:0≤(A4 x e).aj∧(A4 x e).aj<x.aq.length:=hat;show _≤(A4 x e).aj-1∧(A4 x e).aj-1≤_;omega),?_⟩
    conv=>whnf
    refine Bt (j:=e) A0 rfl (Au (x.ap.set e.toNat ⟨true,(A4 x e).aj-1,(A4 x e).sum+(A8 x (A4 x e).aj).ah.getD e.toNat default,(A4 x e).al||(A8 x (A4 x e).aj).al.getD e.toNat default,(A4 x e).ao||(A8 x (A4 x e).aj).an.getD e.toNat default⟩)) (Lr htk (by rw [Sx.getD_set_self _ _ _ _ htk,hg];rfl)) (Aj ?_);rw [Ov hT hg hA hS];refine G7 Tryz.prog 3 ((x.ap.getD e.toNat default).aj.toNat) [(0,8),(1,9),(2,10),(3,11),(4,12),(5,13),(6,14),(7,15)] (Af ((x.aq.set (x.ap.getD e.toNat default).aj.toNat (K8 (A8 x (A4 x e).aj) e)))) hj rfl S0 rfl (Hp hj rfl) ?_;exact D0
   have hc:(A4 x e).ao=false:=by rw [Sx.getD_set_self _ _ _ _ htk] at hc;exact hc
   refine Ar ?_;refine N2 A0 rfl (Cu _ _ _) rfl (Hd ?_);refine H7 208 14 rfl (Hd ?_);refine B8 ?_;refine Bt (j:=e) A0 rfl (Au (x.ap.set e.toNat ⟨(A4 x e).bz,(A4 x e).aj,(A4 x e).sum+(A8 x (A4 x e).aj).ah.getD e.toNat default,(A4 x e).al||(A8 x (A4 x e).aj).al.getD e.toNat default,(A4 x e).ao||(A8 x (A4 x e).aj).an.getD e.toNat default⟩)) (Lr htk (by rw [hc];rfl)) (Aj ?_);refine N2 A0 rfl (Cu _ _ _) rfl (Aj ?_);refine H7 218 13 rfl (Er ?_);refine Bt (j:=e) A0 rfl (D9 ((A8 x (A4 x e).aj).al.set e.toNat false)) (Dd hbl rfl) (Aj ?_);refine ⟨by (rw [Sx.getD_set_self _ _ _ _ htk];have q:0≤(A4 x e).aj∧(A4 x e).aj<x.aq.length:=hat;show _≤(A4 x e).aj-1∧(A4 x e).aj-1≤_;omega),?_⟩
   conv=>whnf
   refine Bt (j:=e) A0 rfl (Au (x.ap.set e.toNat ⟨true,(A4 x e).aj-1,(A4 x e).sum+(A8 x (A4 x e).aj).ah.getD e.toNat default,(A4 x e).al||(A8 x (A4 x e).aj).al.getD e.toNat default,(A4 x e).ao||(A8 x (A4 x e).aj).an.getD e.toNat default⟩)) (Lr htk (by rw [Sx.getD_set_self _ _ _ _ htk,hg];rfl)) (Aj ?_);rw [Ov hT hg hA hS];refine G7 Tryz.prog 3 ((x.ap.getD e.toNat default).aj.toNat) [(0,8),(1,9),(2,10),(3,11),(4,12),(5,13),(6,14),(7,15)] (Af ((x.aq.set (x.ap.getD e.toNat default).aj.toNat (K8 (A8 x (A4 x e).aj) e)))) hj rfl S0 rfl (Hp hj rfl) ?_;exact D0
  have hb:(A4 x e).al=false:=by rw [Sx.getD_set_self _ _ _ _ htk] at hb;exact hb
  refine Ar ?_;refine N2 A0 rfl (Cu _ _ _) rfl (Hd ?_);refine H7 192 13 rfl (Hd ?_);refine B8 ?_;refine Bt (j:=e) A0 rfl (Au (x.ap.set e.toNat ⟨(A4 x e).bz,(A4 x e).aj,(A4 x e).sum+(A8 x (A4 x e).aj).ah.getD e.toNat default,(A4 x e).al||(A8 x (A4 x e).aj).al.getD e.toNat default,(A4 x e).ao⟩)) (Lr htk (by rw [hb];rfl)) (Aj ?_);refine Cc (fun hc=>?_) fun hc=>?_
  ·have hc:(A4 x e).ao=true:=by rw [Sx.getD_set_self _ _ _ _ htk] at hc;exact hc
   refine Ar ?_;refine Bt (j:=e) A0 rfl (Au (x.ap.set e.toNat ⟨(A4 x e).bz,(A4 x e).aj,(A4 x e).sum+(A8 x (A4 x e).aj).ah.getD e.toNat default,(A4 x e).al||(A8 x (A4 x e).aj).al.getD e.toNat default,(A4 x e).ao||(A8 x (A4 x e).aj).an.getD e.toNat default⟩)) (Lr htk (by rw [hc];rfl)) (Aj ?_);refine N2 A0 rfl (Cu _ _ _) rfl (Aj ?_);refine H7 218 13 rfl (Er ?_);refine Bt (j:=e) A0 rfl (D9 ((A8 x (A4 x e).aj).al.set e.toNat false)) (Dd hbl rfl) (Aj ?_);refine ⟨by (rw [Sx.getD_set_self _ _ _ _ htk];have q:0≤(A4 x e).aj∧(A4 x e).aj<x.aq.length:=hat;show _≤(A4 x e).aj-1∧(A4 x e).aj-1≤_;omega),?_⟩
   conv=>whnf
   refine Bt (j:=e) A0 rfl (Au (x.ap.set e.toNat ⟨true,(A4 x e).aj-1,(A4 x e).sum+(A8 x (A4 x e).aj).ah.getD e.toNat default,(A4 x e).al||(A8 x (A4 x e).aj).al.getD e.toNat default,(A4 x e).ao||(A8 x (A4 x e).aj).an.getD e.toNat default⟩)) (Lr htk (by rw [Sx.getD_set_self _ _ _ _ htk,hg];rfl)) (Aj ?_);rw [Ov hT hg hA hS];refine G7 Tryz.prog 3 ((x.ap.getD e.toNat default).aj.toNat) [(0,8),(1,9),(2,10),(3,11),(4,12),(5,13),(6,14),(7,15)] (Af ((x.aq.set (x.ap.getD e.toNat default).aj.toNat (K8 (A8 x (A4 x e).aj) e)))) hj rfl S0 rfl (Hp hj rfl) ?_;exact D0
  have hc:(A4 x e).ao=false:=by rw [Sx.getD_set_self _ _ _ _ htk] at hc;exact hc
  refine Ar ?_;refine N2 A0 rfl (Cu _ _ _) rfl (Hd ?_);refine H7 208 14 rfl (Hd ?_);refine B8 ?_;refine Bt (j:=e) A0 rfl (Au (x.ap.set e.toNat ⟨(A4 x e).bz,(A4 x e).aj,(A4 x e).sum+(A8 x (A4 x e).aj).ah.getD e.toNat default,(A4 x e).al||(A8 x (A4 x e).aj).al.getD e.toNat default,(A4 x e).ao||(A8 x (A4 x e).aj).an.getD e.toNat default⟩)) (Lr htk (by rw [hc];rfl)) (Aj ?_);refine N2 A0 rfl (Cu _ _ _) rfl (Aj ?_);refine H7 218 13 rfl (Er ?_);refine Bt (j:=e) A0 rfl (D9 ((A8 x (A4 x e).aj).al.set e.toNat false)) (Dd hbl rfl) (Aj ?_);refine ⟨by (rw [Sx.getD_set_self _ _ _ _ htk];have q:0≤(A4 x e).aj∧(A4 x e).aj<x.aq.length:=hat;show _≤(A4 x e).aj-1∧(A4 x e).aj-1≤_;omega),?_⟩
  conv=>whnf
  refine Bt (j:=e) A0 rfl (Au (x.ap.set e.toNat ⟨true,(A4 x e).aj-1,(A4 x e).sum+(A8 x (A4 x e).aj).ah.getD e.toNat default,(A4 x e).al||(A8 x (A4 x e).aj).al.getD e.toNat default,(A4 x e).ao||(A8 x (A4 x e).aj).an.getD e.toNat default⟩)) (Lr htk (by rw [Sx.getD_set_self _ _ _ _ htk,hg];rfl)) (Aj ?_);rw [Ov hT hg hA hS];refine G7 Tryz.prog 3 ((x.ap.getD e.toNat default).aj.toNat) [(0,8),(1,9),(2,10),(3,11),(4,12),(5,13),(6,14),(7,15)] (Af ((x.aq.set (x.ap.getD e.toNat default).aj.toNat (K8 (A8 x (A4 x e).aj) e)))) hj rfl S0 rfl (Hp hj rfl) ?_;exact D0
 have hA:¬ (A4 x e).aj>0:=Cr hA
 have hz:(x.ap.getD e.toNat default).aj=0:=by
  have:¬ (x.ap.getD e.toNat default).aj>0:=hA
  omega
 refine B8 ?_;refine Bt (j:=e) A0 rfl (Au (x.ap.set e.toNat ⟨false,(A4 x e).aj,(A4 x e).sum,(A4 x e).al,(A4 x e).ao⟩)) (Dd htk rfl) (Aj ?_)
 first|(refine Al 5 rfl [0,1,2,3,4,5,6,7] Ah (Aj ?_))|(refine Al 17 rfl [0,1,2,3,4,5,6,7,8,9,10,11,12,13,14] Ah (Aj ?_))|(refine Al 20 rfl [0,1,2,3,4,5,6,7,8,9,10,11,12,13] Ah (Aj ?_))|(refine Al 22 rfl [0,1,2,3,4,5,6,7,8,9,10,11,12,13,14] Ah (Aj ?_))|(refine Al 9 rfl [0,1,2,3,4,5,6,7,8,9,10,11,12,13,14,15,16,17,18,19,20,21,22,23,24,25,26,27,28,29] Ah (Aj ?_))
 refine B8 ?_;refine Cc (fun hb=>?_) fun hb=>?_
 ·have hb:(A4 x e).al=false:=by rw [Sx.getD_set_self _ _ _ _ htk] at hb;simpa [A4] using hb
  refine Ar ?_;refine N2 A0 rfl (Cu _ _ _) rfl (Hd ?_);refine H7 60 13 rfl (Hd ?_);refine B8 ?_;refine Cc (fun hw=>?_) fun hw=>?_
  ·have hw:(A8 x (A4 x e).aj).al.getD e.toNat default=false:=by simpa [A4,A8] using hw
   refine Ar ?_;refine N2 A0 rfl (Cu _ _ _) rfl (Hd ?_);refine H7 74 12 rfl (Hd ?_);refine B8 ?_;refine ⟨by (rw [Sx.getD_set_self _ _ _ _ htk];have q: -1000000≤(A4 x e).sum∧(A4 x e).sum≤1000000:=hs1;show _≤(A4 x e).sum+_∧(A4 x e).sum+_≤_;omega),?_⟩
   conv=>whnf
   refine Ar ?_;refine Cc (fun hs=>?_) fun hs=>?_
   ·have hs:(A4 x e).sum+(A8 x (A4 x e).aj).ah.getD e.toNat default=0:=by rw [Sx.getD_set_self _ _ _ _ htk] at hs;exact eq_of_beq hs
    have hyes:=And.intro hb (And.intro hw hs);have hz':∀c w,Bc c 0 w=Bc c (x.ap.getD e.toNat default).aj w:=fun c w=>by rw [hz]
    refine Ar ?_;refine Cc (fun hc=>?_) fun hc=>?_
    ·have hc:(A4 x e).ao=true:=by rw [Sx.getD_set_self _ _ _ _ htk] at hc;exact hc
     have hcap:((A4 x e).ao||(A8 x (A4 x e).aj).an.getD e.toNat default)=true:=by rw [hc];rfl
     refine Ar ?_;refine N2 A0 rfl (Cu _ _ _) rfl (Aj ?_);refine H7 98 15 rfl (Er ?_);refine B9 A0 rfl (Hu ((A8 x (A4 x e).aj).ai++[⟨e,true⟩])) (Ao rfl) Hy A7 (Er ?_);refine Bt (j:=(x.ap.getD e.toNat default).aj) A0 rfl _ B8d ?_;refine Ro 3 ((x.ap.getD e.toNat default).aj.toNat) [(0,8),(1,9),(2,10),(3,11),(4,12),(5,13),(6,14)] (Af (x.aq.set (x.ap.getD e.toNat default).aj.toNat (Ju (A8 x (A4 x e).aj) ⟨e,true⟩))) hj rfl rfl S0 rfl (Hp hj rfl) (Iv ?_);conv=>whnf
     refine Fv [11,12,13,14,15,16,17,18,19,20,21,22,23,24,25,26,27,28,29,30,31,32,33,34,35,36,37,38,39,40,41,42,43,44,45,46,47,48,49,50,51,52,53,54,55,56,57,58,59,60,61,62,63,64,65,66,67,68,69,70,71,72,73,74,75,76,77,78,79,80,81,82,83,84,85,86,87,88,89,90,91,92,93,94,95,96,97,98,99,100,101,102,103,104,105,106,107,108,109,110,111,112,113,114,115,116,117,118,119,120,121] (fun k:Nat=>[(10,.c (vi (k+1)))]) (fun k=>[⟨7,[.own 2,.c (vi x.az.aq),.c (vi x.az.cap),.own 3,.own 4,.own 5,.own 6]⟩,⟨1,[.c (.val (.slice none 0 0)),.c (vi 0),.c (vi 0),.c (.val (.slice none 0 0)),.c (.val (.slice none 0 0)),.c (.val (.slice none 0 0)),.c (.val (.slice none 0 0))]⟩,⟨0,[.c (Ax x.az.ak),.c (vi x.az.aq),.c (vi x.az.cap),.c (Af x.aq),.c (B7 x.ay),.c (Au x.ap),.c (Bd x.ac)]⟩]) (fun k=>[⟨2,Ax x.az.ak⟩,⟨3,Af (x.aq.set (x.ap.getD e.toNat default).aj.toNat (Ju (A8 x (A4 x e).aj) ⟨e,true⟩))⟩,⟨4,B7 x.ay⟩,⟨5,Au (x.ap.set e.toNat ⟨false,(A4 x e).aj,(A4 x e).sum,(A4 x e).al,(A4 x e).ao⟩)⟩,⟨6,Bd (x.ac++Qc e (true) k)⟩]) (fun k=>k≤(x.aq.length-1)) (fun k=>(x.aq.length-1)-k) fun k hk=>?_;refine Eh (fun hg2=>?_) fun hg2=>?_
     ·refine B9 A0 rfl (Bd (x.ac++Qc e (true) k++[⟨k+1,e,true⟩])) (Ao rfl) Hy (by rw [D7,A2z];omega) (Er ?_)
      refine Ci [(0,0),(1,1),(2,2),(3,3),(4,4),(5,5),(6,19),(7,7)] (k+1) A7 A7 ⟨by rw [Int.natCast_add];rfl,trivial⟩ ⟨rfl,rfl,rfl,rfl,by show (_:Ag)=_;rw [Zi,←Cv],trivial⟩
     obtain rfl:k=x.aq.length-1:=by omega
     refine Ar ?_;rw [Od hT hg hA,Kr,Ak hyes,hcap,hz'];exact D0
    have hc:(A4 x e).ao=false:=by rw [Sx.getD_set_self _ _ _ _ htk] at hc;exact hc
    have hcap:((A4 x e).ao||(A8 x (A4 x e).aj).an.getD e.toNat default)=(A8 x (A4 x e).aj).an.getD e.toNat default:=by rw [hc];rfl
    refine Ar ?_;refine N2 A0 rfl (Cu _ _ _) rfl (Hd ?_);refine H7 89 14 rfl (Hd ?_);refine B8 ?_;refine N2 A0 rfl (Cu _ _ _) rfl (Aj ?_);refine H7 98 15 rfl (Er ?_);refine B9 A0 rfl (Hu ((A8 x (A4 x e).aj).ai++[⟨e,((A8 x (A4 x e).aj).an.getD e.toNat default)⟩])) (Ao rfl) Hy A7 (Er ?_);refine Bt (j:=(x.ap.getD e.toNat default).aj) A0 rfl _ B8d ?_;refine Ro 3 ((x.ap.getD e.toNat default).aj.toNat) [(0,8),(1,9),(2,10),(3,11),(4,12),(5,13),(6,14)] (Af (x.aq.set (x.ap.getD e.toNat default).aj.toNat (Ju (A8 x (A4 x e).aj) ⟨e,((A8 x (A4 x e).aj).an.getD e.toNat default)⟩))) hj rfl rfl S0 rfl (Hp hj rfl) (Iv ?_);conv=>whnf
    refine Fv [11,12,13,14,15,16,17,18,19,20,21,22,23,24,25,26,27,28,29,30,31,32,33,34,35,36,37,38,39,40,41,42,43,44,45,46,47,48,49,50,51,52,53,54,55,56,57,58,59,60,61,62,63,64,65,66,67,68,69,70,71,72,73,74,75,76,77,78,79,80,81,82,83,84,85,86,87,88,89,90,91,92,93,94,95,96,97,98,99,100,101,102,103,104,105,106,107,108,109,110,111,112,113,114,115,116,117,118,119,120,121] (fun k:Nat=>[(10,.c (vi (k+1)))]) (fun k=>[⟨7,[.own 2,.c (vi x.az.aq),.c (vi x.az.cap),.own 3,.own 4,.own 5,.own 6]⟩,⟨1,[.c (.val (.slice none 0 0)),.c (vi 0),.c (vi 0),.c (.val (.slice none 0 0)),.c (.val (.slice none 0 0)),.c (.val (.slice none 0 0)),.c (.val (.slice none 0 0))]⟩,⟨0,[.c (Ax x.az.ak),.c (vi x.az.aq),.c (vi x.az.cap),.c (Af x.aq),.c (B7 x.ay),.c (Au x.ap),.c (Bd x.ac)]⟩]) (fun k=>[⟨2,Ax x.az.ak⟩,⟨3,Af (x.aq.set (x.ap.getD e.toNat default).aj.toNat (Ju (A8 x (A4 x e).aj) ⟨e,((A8 x (A4 x e).aj).an.getD e.toNat default)⟩))⟩,⟨4,B7 x.ay⟩,⟨5,Au (x.ap.set e.toNat ⟨false,(A4 x e).aj,(A4 x e).sum,(A4 x e).al,(A4 x e).ao⟩)⟩,⟨6,Bd (x.ac++Qc e (((A8 x (A4 x e).aj).an.getD e.toNat default)) k)⟩]) (fun k=>k≤(x.aq.length-1)) (fun k=>(x.aq.length-1)-k) fun k hk=>?_;refine Eh (fun hg2=>?_) fun hg2=>?_
    ·refine B9 A0 rfl (Bd (x.ac++Qc e (((A8 x (A4 x e).aj).an.getD e.toNat default)) k++[⟨k+1,e,((A8 x (A4 x e).aj).an.getD e.toNat default)⟩])) (Ao rfl) Hy (by rw [D7,A2z];omega) (Er ?_)
     refine Ci [(0,0),(1,1),(2,2),(3,3),(4,4),(5,5),(6,19),(7,7)] (k+1) A7 A7 ⟨by rw [Int.natCast_add];rfl,trivial⟩ ⟨rfl,rfl,rfl,rfl,by show (_:Ag)=_;rw [Zi,←Cv],trivial⟩
    obtain rfl:k=x.aq.length-1:=by omega
    refine Ar ?_;rw [Od hT hg hA,Kr,Ak hyes,hcap,hz'];exact D0
   have hs:(A4 x e).sum+(A8 x (A4 x e).aj).ah.getD e.toNat default≠0:=by rw [Sx.getD_set_self _ _ _ _ htk] at hs;exact Tg.1 hs
   have hno:¬ ((A4 x e).al=false∧(A8 x (A4 x e).aj).al.getD e.toNat default=false∧(A4 x e).sum+(A8 x (A4 x e).aj).ah.getD e.toNat default=0):=fun p=>hs p.2.2
   refine Ar ?_;rw [Od hT hg hA,Kr,Ab hno];refine G7 Tryz.prog 3 ((x.ap.getD e.toNat default).aj.toNat) [(0,8),(1,9),(2,10),(3,11),(4,12),(5,13),(6,14),(7,15)] (Af (x.aq)) hj rfl S0 rfl (Cn rfl) ?_;exact D0
  have hw:(A8 x (A4 x e).aj).al.getD e.toNat default=true:=by simpa [A4,A8] using hw
  have hno:¬ ((A4 x e).al=false∧(A8 x (A4 x e).aj).al.getD e.toNat default=false∧(A4 x e).sum+(A8 x (A4 x e).aj).ah.getD e.toNat default=0):=fun p=>by rw [hw] at p;exact absurd p.2.1 Cw
  refine Ar ?_;rw [Od hT hg hA,Kr,Ab hno];refine G7 Tryz.prog 3 ((x.ap.getD e.toNat default).aj.toNat) [(0,8),(1,9),(2,10),(3,11),(4,12),(5,13),(6,14),(7,15)] (Af (x.aq)) hj rfl S0 rfl (Cn rfl) ?_;exact D0
 have hb:(A4 x e).al=true:=by rw [Sx.getD_set_self _ _ _ _ htk] at hb;simpa [A4] using hb
 have hno:¬ ((A4 x e).al=false∧(A8 x (A4 x e).aj).al.getD e.toNat default=false∧(A4 x e).sum+(A8 x (A4 x e).aj).ah.getD e.toNat default=0):=fun p=>by rw [hb] at p;exact absurd p.1 Cw
 refine Ar ?_;rw [Od hT hg hA,Kr,Ab hno];refine G7 Tryz.prog 3 ((x.ap.getD e.toNat default).aj.toNat) [(0,8),(1,9),(2,10),(3,11),(4,12),(5,13),(6,14),(7,15)] (Af (x.aq)) hj rfl S0 rfl (Cn rfl) ?_;exact D0
set_option maxHeartbeats 4000000 in
theorem B3p (x:A3)(p:Ea)(h:x.w≤8000000)(hgo:M0 x):Dj 122 [.agg x.c,.agg p.c] [.agg (Ap x p).1.c,.one (vb (Ap x p).2)]:=by
 refine E3 Tryz.func122 fun W=>?_;refine L8 (fun k1=>?_) fun k1=>?_
 ·refine Gg (B3k x p.a A7 hgo) ?_
  rw [Ap,Ak k1];exact D0
 refine L8 (fun k2=>?_) fun k2=>?_
 ·refine Gg (B0b x p.a A7 hgo) ?_
  rw [Ap,Ab k1,Ak k2];exact D0
 refine L8 (fun k3=>?_) fun k3=>?_
 ·refine Gg (B3i x p.a h hgo) ?_
  rw [Ap,Ab k1,Ab k2,Ak k3];exact D0
 refine L8 (fun k4=>?_) fun k4=>?_
 ·refine Gg (B3j x p.a p.b h hgo) ?_
  rw [Ap,Ab k1,Ab k2,Ab k3,Ak k4];exact D0
 refine L8 (fun k5=>?_) fun k5=>?_
 ·refine Gg (A7o x p.a p.b A7 hgo) ?_
  rw [Ap,Ab k1,Ab k2,Ab k3,Ab k4,Ak k5];exact D0
 refine L8 (fun k6=>?_) fun k6=>?_
 ·refine Gg (B0d x p.a A7 hgo) ?_
  rw [Ap,Ab k1,Ab k2,Ab k3,Ab k4,Ab k5,Ak k6];exact D0
 refine L8 (fun k7=>?_) fun k7=>?_
 ·refine Gg (B3d x p.a A7 hgo) ?_
  rw [Ap,Ab k1,Ab k2,Ab k3,Ab k4,Ab k5,Ab k6,Ak k7];exact D0
 refine Gg (F3 x A7) ?_;rw [Ap,Ab k1,Ab k2,Ab k3,Ab k4,Ab k5,Ab k6,Ab k7];exact D0
set_option maxHeartbeats 8000000 in
theorem Pm (x:A3)(l:List Ea)(h:x.w+4 * l.length≤8000000)(hgo:M0 x):Dj 61 [.agg x.c,.one (E9 l)] [.agg (Aw x l).1.c,.one (D9 (Aw x l).2)]:=by
 refine E3 Tryz.func61 fun W=>?_;refine Gg (F3 x A7) ?_;refine U4 7 1 (fun i=>[vb (([]:List Bool).getD i default)]) rfl ?_;refine Fv [13] (fun k:Nat=>[(16,.c (vi k))]) (fun k=>[⟨7,[.own 2,.c (vi (Aw x (l.take k)).1.az.aq),.c (vi (Aw x (l.take k)).1.az.cap),.own 3,.own 4,.own 5,.own 6]⟩,⟨1,[.c (.val (.slice none 0 0)),.c (vi 0),.c (vi 0),.c (.val (.slice none 0 0)),.c (.val (.slice none 0 0)),.c (.val (.slice none 0 0)),.c (.val (.slice none 0 0))]⟩]) (fun k=>[⟨8,D9 (Aw x (l.take k)).2⟩,⟨2,Ax (Aw x (l.take k)).1.az.ak⟩,⟨3,Af (Aw x (l.take k)).1.aq⟩,⟨4,B7 (Aw x (l.take k)).1.ay⟩,⟨5,Au (Aw x (l.take k)).1.ap⟩,⟨6,Bd (Aw x (l.take k)).1.ac⟩]) (fun k=>k≤l.length) (fun k=>l.length-k) fun k hk=>?_;conv=>whnf
 refine Eh (fun hlt=>?_) fun hlt=>?_
 ·have hlt:k<l.length:=by omega
  have hw:=Zq (c:=x) (l:=l.take k);have hn:=Wp (c:=x) (l:=l.take k);have ht:(l.take k).length=k:=by rw [Eo];omega
  have hs:=A26 (c:=x) hlt;refine B8 ?_;refine Gg (B3p (Aw x (l.take k)).1 (l.getD k default) A7 (A11 hgo)) ?_;refine B9 A0 rfl (D9 ((Aw x (l.take k)).2++[(Ap (Aw x (l.take k)).1 (l.getD k default)).2])) (Ao rfl) Hy A7 (Er ?_);refine W5 [(2,10),(3,11),(4,12),(5,13),(6,14),(8,17)] (k+1) A7 A7 ⟨rfl,trivial⟩ ⟨A6 D9 (by rw [hs];rfl),A6 (fun s:A3×List Bool=>Ax s.1.az.ak) hs.symm,A6 (fun s:A3×List Bool=>Af s.1.aq) hs.symm,A6 (fun s:A3×List Bool=>B7 s.1.ay) hs.symm,A6 (fun s:A3×List Bool=>Au s.1.ap) hs.symm,A6 (fun s:A3×List Bool=>Bd s.1.ac) hs.symm,trivial⟩ (by rw [hs];repeat' (first|exact trivial|exact rfl|refine ⟨?_,?_⟩)) Ah ab9 Ah
 obtain rfl:k=l.length:=by omega
 rw [Hx];exact D0
end Go.Proofs.YtmhcebdkjgkmlaaGreatDoor
