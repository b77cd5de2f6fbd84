/- Part 13 of the proof that each of the laws FnScriptsBack returns true for every input. No conditions. -/
import Derived.Test.YtmhcebdkjgkmlaaGreatDoorR7

set_option linter.unusedSimpArgs false
set_option linter.unusedVariables false
set_option maxRecDepth 100000
namespace Go.Proofs.YtmhcebdkjgkmlaaGreatDoor
open Go.Sx
theorem A5c (l:List D9)(n:Nat):Fc n fun i=>D9.c (l.getD i default):=by
 intro i hi c hc;simp only [D9.c,C7,K0,Ld] at hc
 rcases hc with rfl|rfl|rfl<;>exact ⟨_,rfl⟩
theorem A7s (l:List D9):(Iw D9.c l).length=l.length * 3:=B26 (es:=3) (fun _=>rfl) l
theorem A45 (l:List D9)(k:Nat):l.eraseIdx k=l.take k++l.drop (k+1):=List.eraseIdx_eq_take_drop_succ l k
set_option maxHeartbeats 4000000 in
theorem B7o (l:List D9)(k:Nat)(hk:k<l.length)(hl:l.length≤16777216):P1 Tryz.prog (fun _=>True) 237 [] [.one (C4 l)] [.one (vi k),.one (vi ((k:Int)+1))] (fun _:Unit=>True) (fun _=>[.one (C4 (l.eraseIdx k))]):=by
 refine A1e A0 false Tryz.func237 rfl Bk fun B hH hp=>?_;conv=>whnf
 refine C23 A0 rfl rfl rfl rfl rfl rfl rfl (l:=(k:Int)) (h:=(k:Int)+1) (m:=(l.length:Int)) rfl rfl rfl ⟨by omega,by omega,by omega,by omega⟩ (Ag ?_);refine Mf (fun hz=>?_) fun hz=>?_
 ·omega
 refine A39 0 3 D9.c l rfl A7 (A5c _ _) (fun b off cap pre post p1 p2 p3 p4=>?_);refine Qh 0 0 rfl rfl ?_
 have hlast:l.drop k=(l.drop k).take (l.length-(k+1))++l.drop (l.length-1):=by
  have e:=Qy (l.length-(k+1)) (l.drop k);rw [List.drop_drop,show k+(l.length-(k+1))=l.length-1 by omega] at e
  exact e.symm
 have hcut:l=l.take k++l.drop k:=(Qy k l).symm;have hcut2:l=l.take (k+1)++l.drop (k+1):=(Qy (k+1) l).symm;have t1:(l.take k).length=k:=by rw [G2];omega
 have t2:((l.drop k).take (l.length-(k+1))).length=l.length-(k+1):=by rw [G2,Gm];omega
 have t3:(l.drop (k+1)).length=l.length-(k+1):=Gm;have t4:(l.take (k+1)).length=k+1:=by rw [G2];omega
 have t5:(l.drop (l.length-1)).length=1:=by rw [Gm];omega
 have te:(l.take k++l.drop (k+1)).length=l.length-1:=by rw [Dn,t1,t3];omega
 have c1:pre++Iw D9.c l++post=(pre++Iw D9.c (l.take k))++Iw D9.c ((l.drop k).take (l.length-(k+1)))++(Iw D9.c (l.drop (l.length-1))++post):=by
  conv=>lhs;rw [hcut,hlast,Jn,Jn]
  simp only [Ci]
 have c2:pre++Iw D9.c l++post=(pre++Iw D9.c (l.take (k+1)))++Iw D9.c (l.drop (k+1))++post:=by
  conv=>lhs;rw [hcut2,Jn]
  simp only [Ci]
 refine Go.Sx.Ft A0 false ?_;conv=>whnf
 rcases Nat.lt_or_ge (k+1) cap with hlc|hlc
 ·refine Jd rfl (E4 0 rfl (E4 1 rfl (E4 3 rfl (E4 4 rfl ?_))))
  refine Lw (s':=?_) 2 rfl Ak ?_ ?_;rotate_left;refine Go.Sx.Ft A0 false ?_;conv=>whnf
  refine Lj A0 rfl ⟨by omega,by omega,by omega,(fun h=>by cases h),by omega⟩ (off * 3) k cap Ef Ef Ef (Go.Sx.Ft A0 false ?_);conv=>whnf
  exact C8
  refine Lw (s':=?_) 5 rfl Ak ?_ ?_;rotate_left;refine Go.Sx.Ft A0 false ?_;conv=>whnf
  refine Lj A0 rfl ⟨by omega,by omega,by omega,fun _=>by omega,by omega⟩ (off * 3+(k+1) * 3) (l.length-(k+1)) (cap-(k+1)) Ef A7 A7 (Go.Sx.Ft A0 false ?_);conv=>whnf
  exact C8
  refine Np [6,7] [] Ak ?_;refine La (s':=?_) rfl Dt ?_ ?_;rotate_left;refine Go.Sx.Ft A0 false ?_;conv=>whnf
  refine D0e (kb:=1) (kb2:=1) A0 rfl rfl rfl rfl rfl rfl rfl rfl rfl rfl rfl rfl rfl A7 (pre++Iw D9.c (l.take k)) (Iw D9.c ((l.drop k).take (l.length-(k+1)))) (Iw D9.c (l.drop (l.length-1))++post) (pre++Iw D9.c (l.take (k+1))) (Iw D9.c (l.drop (k+1))) post (by exact c1) (by rw [Dn,A7s,t1,p1]) (by rw [A7s,A7s,t2,t3]) (by exact c2) (by rw [Dn,A7s,t4,p1]) (by rw [A7s,t3]) (by exact C7g D9.c _) (Go.Sx.Ft A0 false ?_);conv=>whnf
  exact C8
  refine La (s':=?_) rfl Dt ?_ ?_;rotate_left;refine Go.Sx.Ft A0 false ?_;conv=>whnf
  refine B6 ?_;exact C8
  refine Lt A0 Ak Dt (GW.out (Go.Sx.Ft A0 false ?_));conv=>whnf
  refine Lj A0 rfl ⟨by omega,by omega,by omega,(fun h=>by cases h),by omega⟩ (off * 3+(l.length-1) * 3) 1 (cap-(l.length-1)) (by rw [show k+(l.length-(k+1))=l.length-1 by omega];simp) A7 A7 (Go.Sx.Ft A0 false ?_)
  conv=>whnf
  refine B64 (kb:=1) A0 rfl rfl rfl rfl rfl rfl rfl rfl A7 (pre++Iw D9.c (l.take k)++Iw D9.c (l.drop (k+1))) (Iw D9.c (l.drop (l.length-1))) post (by simp only [Ci]) (by rw [Dn,Dn,A7s,A7s,p1,t1,t3];omega) (by rw [A7s,t5]) (Go.Sx.Ft A0 false ?_);conv=>whnf
  refine B5a Tryz.prog 6 1 off 3 D9.c (l.take k++l.drop (k+1)) pre (List.replicate (1 * 3) .any++post) rfl (by rw [Jn];simp only [Ci]) (by exact p1) (fun _=>rfl) (A5c _ _) (by exact p3) (by exact ⟨by rw [te];omega,by rw [te,Dn,Pl];omega⟩) rfl rfl rfl (by rw [te];omega) ?_;rw [←A45];exact V0 A0 () trivial rfl rfl I1
 have e1:l.length=cap:=by omega
 have e2:k+1=l.length:=by omega
 have d1:l.drop (k+1)=[]:=List.drop_eq_nil_of_le A7;have d2:(l.drop k).length=1:=by rw [Gm];omega
 have c3:pre++Iw D9.c l++post=(pre++Iw D9.c (l.take k))++[]++(Iw D9.c (l.drop k)++post):=by
  conv=>lhs;rw [hcut,Jn]
  simp only [Ci,Uw,Gw]
 refine Jd rfl (E4 0 rfl (E4 1 rfl (E4 3 rfl (E4 4 rfl ?_))));refine Lw (s':=?_) 2 rfl Ak ?_ ?_;rotate_left;refine Go.Sx.Ft A0 false ?_;conv=>whnf
 refine Lj A0 rfl ⟨by omega,by omega,by omega,(fun h=>by cases h),by omega⟩ (off * 3) k cap Ef Ef Ef (Go.Sx.Ft A0 false ?_);conv=>whnf
 exact C8
 refine Lw (s':=?_) 5 rfl Ak ?_ ?_;rotate_left;refine Go.Sx.Ft A0 false ?_;conv=>whnf
 refine D1l A0 rfl rfl rfl rfl rfl rfl (l:=(k:Int)+1) rfl ⟨by omega,by omega,by omega⟩ (Go.Sx.Ft A0 false ?_);conv=>whnf
 exact C8
 refine Np [6,7] [] Ak ?_;refine La (s':=?_) rfl Dt ?_ ?_;rotate_left;refine Go.Sx.Ft A0 false ?_;conv=>whnf
 refine D0e (kb:=1) (kb2:=1) A0 rfl rfl rfl rfl rfl rfl rfl rfl rfl rfl rfl rfl rfl A7 (pre++Iw D9.c (l.take k)) [] (Iw D9.c (l.drop k)++post) pre [] (Iw D9.c l++post) (by exact c3) (by rw [Dn,A7s,t1,p1]) rfl (by simp only [Gw,Ci]) (by exact p1) Ef (fun _ h=>by cases h) (Go.Sx.Ft A0 false ?_);conv=>whnf
 exact C8
 refine La (s':=?_) rfl Dt ?_ ?_;rotate_left;refine Go.Sx.Ft A0 false ?_;conv=>whnf
 refine B6 ?_;exact C8
 refine Lt A0 Ak Dt (GW.out (Go.Sx.Ft A0 false ?_));conv=>whnf
 refine Lj A0 rfl ⟨by omega,by omega,by omega,(fun h=>by cases h),by omega⟩ (off * 3+k * 3) 1 (cap-k) Ef A7 A7 (Go.Sx.Ft A0 false ?_);conv=>whnf
 refine B64 (kb:=1) A0 rfl rfl rfl rfl rfl rfl rfl rfl A7 (pre++Iw D9.c (l.take k)) (Iw D9.c (l.drop k)) post (by simp only [Ci,Uw,Gw]) (by rw [Dn,A7s,p1,t1]) (by rw [A7s,d2]) (Go.Sx.Ft A0 false ?_);conv=>whnf
 refine B5a Tryz.prog 6 1 off 3 D9.c (l.take k) pre (List.replicate (1 * 3) .any++post) rfl (by simp only [Ci]) (by exact p1) (fun _=>rfl) (A5c _ _) (by exact p3) (by exact ⟨by rw [t1];omega,by rw [t1,Dn,Pl];omega⟩) rfl rfl rfl (by rw [t1];rfl) ?_;rw [show l.eraseIdx k=l.take k by rw [A45,d1,Gw]]
 exact V0 A0 () trivial rfl rfl I1
theorem Ot (a b:List A9)(ha:a.length≤16777216)(hb:b.length≤16777216):Df 92 [.one (Aa a),.one (Aa b)] [.one (vb (decide (a=b)))]:=by
 refine Dy Tryz.func92 fun W=>?_;refine Xi (fun hn=>?_) fun hn=>?_
 ·exact Af A0 rfl rfl ⟨A6 vb (Cx fun e=>hn (by rw [e])),trivial⟩
 refine Fs [] (fun k:Nat=>[(5,.c (vi k))]) (fun k=>[]) (fun k=>[]) (fun k=>k≤a.length∧a.take k=b.take k) (fun k=>a.length-k) fun k hk=>?_;obtain ⟨hk,he⟩:=hk;refine E3 (fun h=>?_) fun h=>?_
 ·have h:k<a.length:=by omega
  have hs:=Ez a b k he h A7;refine B6 ?_
  first|(refine Ae 6 rfl [0,1,2,3,4,5,6,7,8] Ak (Ag ?_))
  refine B6 ?_;refine C2 (fun hc=>?_) fun hc=>?_
  ·have hc:(!decide (a.getD k default=b.getD k default))=true:=by rw [←A9.eqv];exact hc
   exact Af A0 rfl rfl ⟨A6 vb (Cx fun e=>by subst e;simp at hc),trivial⟩
  have hc:(!decide (a.getD k default=b.getD k default))=false:=by rw [←A9.eqv];exact hc
  refine B6 ?_;refine Co [] (k+1) ⟨by omega,hs.2 (by simpa using hc)⟩ A7 ⟨rfl,trivial⟩ trivial
 exact Af A0 rfl rfl ⟨A6 vb (D7 (by rw [←Bt a k A7,he,Bt b k A7])),trivial⟩
theorem B5t (a b:List Int)(ha:a.length≤16777216)(hb:b.length≤16777216):Df 38 [.one (De a),.one (De b)] [.one (vb (decide (a=b)))]:=by
 refine Dy Tryz.func38 fun W=>?_;refine Xi (fun hn=>?_) fun hn=>?_
 ·exact Af A0 rfl rfl ⟨A6 vb (Cx fun e=>hn (by rw [e])),trivial⟩
 refine Fs [] (fun k:Nat=>[(5,.c (vi k))]) (fun k=>[]) (fun k=>[]) (fun k=>k≤a.length∧a.take k=b.take k) (fun k=>a.length-k) fun k hk=>?_;obtain ⟨hk,he⟩:=hk;refine E3 (fun h=>?_) fun h=>?_
 ·have h:k<a.length:=by omega
  have hs:=Ez a b k he h A7;refine B6 ?_
  first|(refine Ae 6 rfl [0,1,2,3,4,5,6,7,8] Ak (Ag ?_))
  refine B6 ?_;refine C2 (fun hc=>?_) fun hc=>?_
  ·have hc:(!decide (a.getD k default=b.getD k default))=true:=by rw [←A33];exact hc
   exact Af A0 rfl rfl ⟨A6 vb (Cx fun e=>by subst e;simp at hc),trivial⟩
  have hc:(!decide (a.getD k default=b.getD k default))=false:=by rw [←A33];exact hc
  refine B6 ?_;refine Co [] (k+1) ⟨by omega,hs.2 (by simpa using hc)⟩ A7 ⟨rfl,trivial⟩ trivial
 exact Af A0 rfl rfl ⟨A6 vb (D7 (by rw [←Bt a k A7,he,Bt b k A7])),trivial⟩
theorem C82 (a b:List Al)(ha:a.length≤16777216)(hb:b.length≤16777216):Df 193 [.one (As a),.one (As b)] [.one (vb (decide (a=b)))]:=by
 refine Dy Tryz.func193 fun W=>?_;refine Xi (fun hn=>?_) fun hn=>?_
 ·exact Af A0 rfl rfl ⟨A6 vb (Cx fun e=>hn (by rw [e])),trivial⟩
 refine Fs [] (fun k:Nat=>[(5,.c (vi k))]) (fun k=>[]) (fun k=>[]) (fun k=>k≤a.length∧a.take k=b.take k) (fun k=>a.length-k) fun k hk=>?_;obtain ⟨hk,he⟩:=hk;refine E3 (fun h=>?_) fun h=>?_
 ·have h:k<a.length:=by omega
  have hs:=Ez a b k he h A7;refine B6 ?_
  first|(refine Ae 6 rfl [0,1,2,3,4,5,6,7,8] Ak (Ag ?_))
  refine B6 ?_;refine C2 (fun hc=>?_) fun hc=>?_
  ·have hc:(!decide (a.getD k default=b.getD k default))=true:=by rw [←Al.eqv];exact hc
   exact Af A0 rfl rfl ⟨A6 vb (Cx fun e=>by subst e;simp at hc),trivial⟩
  have hc:(!decide (a.getD k default=b.getD k default))=false:=by rw [←Al.eqv];exact hc
  refine B6 ?_;refine Co [] (k+1) ⟨by omega,hs.2 (by simpa using hc)⟩ A7 ⟨rfl,trivial⟩ trivial
 exact Af A0 rfl rfl ⟨A6 vb (D7 (by rw [←Bt a k A7,he,Bt b k A7])),trivial⟩
theorem C83 (a b:List Ih)(ha:a.length≤16777216)(hb:b.length≤16777216):Df 194 [.one (Hy a),.one (Hy b)] [.one (vb (decide (a=b)))]:=by
 refine Dy Tryz.func194 fun W=>?_;refine Xi (fun hn=>?_) fun hn=>?_
 ·exact Af A0 rfl rfl ⟨A6 vb (Cx fun e=>hn (by rw [e])),trivial⟩
 refine Fs [] (fun k:Nat=>[(5,.c (vi k))]) (fun k=>[]) (fun k=>[]) (fun k=>k≤a.length∧a.take k=b.take k) (fun k=>a.length-k) fun k hk=>?_;obtain ⟨hk,he⟩:=hk;refine E3 (fun h=>?_) fun h=>?_
 ·have h:k<a.length:=by omega
  have hs:=Ez a b k he h A7;refine B6 ?_
  first|(refine Ae 6 rfl [0,1,2,3,4,5,6,7,8] Ak (Ag ?_))
  refine B6 ?_;refine C2 (fun hc=>?_) fun hc=>?_
  ·have hc:(!decide (a.getD k default=b.getD k default))=true:=by rw [←Ih.eqv];exact hc
   exact Af A0 rfl rfl ⟨A6 vb (Cx fun e=>by subst e;simp at hc),trivial⟩
  have hc:(!decide (a.getD k default=b.getD k default))=false:=by rw [←Ih.eqv];exact hc
  refine B6 ?_;refine Co [] (k+1) ⟨by omega,hs.2 (by simpa using hc)⟩ A7 ⟨rfl,trivial⟩ trivial
 exact Af A0 rfl rfl ⟨A6 vb (D7 (by rw [←Bt a k A7,he,Bt b k A7])),trivial⟩
theorem C5z (a b:List I9)(ha:a.length≤16777216)(hb:b.length≤16777216):Df 72 [.one (B4 a),.one (B4 b)] [.one (vb (decide (a=b)))]:=by
 refine Dy Tryz.func72 fun W=>?_;refine Xi (fun hn=>?_) fun hn=>?_
 ·exact Af A0 rfl rfl ⟨A6 vb (Cx fun e=>hn (by rw [e])),trivial⟩
 refine Fs [] (fun k:Nat=>[(5,.c (vi k))]) (fun k=>[]) (fun k=>[]) (fun k=>k≤a.length∧a.take k=b.take k) (fun k=>a.length-k) fun k hk=>?_;obtain ⟨hk,he⟩:=hk;refine E3 (fun h=>?_) fun h=>?_
 ·have h:k<a.length:=by omega
  have hs:=Ez a b k he h A7;refine B6 ?_
  first|(refine Ae 6 rfl [0,1,2,3,4,5,6,7,8] Ak (Ag ?_))
  refine B6 ?_;refine C2 (fun hc=>?_) fun hc=>?_
  ·have hc:(!decide (a.getD k default=b.getD k default))=true:=by rw [←I9.eqv];exact hc
   exact Af A0 rfl rfl ⟨A6 vb (Cx fun e=>by subst e;simp at hc),trivial⟩
  have hc:(!decide (a.getD k default=b.getD k default))=false:=by rw [←I9.eqv];exact hc
  refine B6 ?_;refine Co [] (k+1) ⟨by omega,hs.2 (by simpa using hc)⟩ A7 ⟨rfl,trivial⟩ trivial
 exact Af A0 rfl rfl ⟨A6 vb (D7 (by rw [←Bt a k A7,he,Bt b k A7])),trivial⟩
theorem C85 (a b:List D9)(ha:a.length≤16777216)(hb:b.length≤16777216):Df 73 [.one (C4 a),.one (C4 b)] [.one (vb (decide (a=b)))]:=by
 refine Dy Tryz.func73 fun W=>?_;refine Xi (fun hn=>?_) fun hn=>?_
 ·exact Af A0 rfl rfl ⟨A6 vb (Cx fun e=>hn (by rw [e])),trivial⟩
 refine Fs [] (fun k:Nat=>[(5,.c (vi k))]) (fun k=>[]) (fun k=>[]) (fun k=>k≤a.length∧a.take k=b.take k) (fun k=>a.length-k) fun k hk=>?_;obtain ⟨hk,he⟩:=hk;refine E3 (fun h=>?_) fun h=>?_
 ·have h:k<a.length:=by omega
  have hs:=Ez a b k he h A7;refine B6 ?_
  first|(refine Ae 6 rfl [0,1,2,3,4,5,6,7,8] Ak (Ag ?_))
  refine B6 ?_;refine C2 (fun hc=>?_) fun hc=>?_
  ·have hc:(!decide (a.getD k default=b.getD k default))=true:=by rw [←D9.eqv];exact hc
   exact Af A0 rfl rfl ⟨A6 vb (Cx fun e=>by subst e;simp at hc),trivial⟩
  have hc:(!decide (a.getD k default=b.getD k default))=false:=by rw [←D9.eqv];exact hc
  refine B6 ?_;refine Co [] (k+1) ⟨by omega,hs.2 (by simpa using hc)⟩ A7 ⟨rfl,trivial⟩ trivial
 exact Af A0 rfl rfl ⟨A6 vb (D7 (by rw [←Bt a k A7,he,Bt b k A7])),trivial⟩
theorem C87 (a b:List Cs)(ha:a.length≤16777216)(hb:b.length≤16777216):Df 93 [.one (Ch a),.one (Ch b)] [.one (vb (decide (a=b)))]:=by
 refine Dy Tryz.func93 fun W=>?_;refine Xi (fun hn=>?_) fun hn=>?_
 ·exact Af A0 rfl rfl ⟨A6 vb (Cx fun e=>hn (by rw [e])),trivial⟩
 refine Fs [] (fun k:Nat=>[(5,.c (vi k))]) (fun k=>[]) (fun k=>[]) (fun k=>k≤a.length∧a.take k=b.take k) (fun k=>a.length-k) fun k hk=>?_;obtain ⟨hk,he⟩:=hk;refine E3 (fun h=>?_) fun h=>?_
 ·have h:k<a.length:=by omega
  have hs:=Ez a b k he h A7;refine B6 ?_
  first|(refine Ae 6 rfl [0,1,2,3,4,5,6,7,8] Ak (Ag ?_))
  refine B6 ?_;refine C2 (fun hc=>?_) fun hc=>?_
  ·have hc:(!decide (a.getD k default=b.getD k default))=true:=by rw [←Cs.eqv];exact hc
   exact Af A0 rfl rfl ⟨A6 vb (Cx fun e=>by subst e;simp at hc),trivial⟩
  have hc:(!decide (a.getD k default=b.getD k default))=false:=by rw [←Cs.eqv];exact hc
  refine B6 ?_;refine Co [] (k+1) ⟨by omega,hs.2 (by simpa using hc)⟩ A7 ⟨rfl,trivial⟩ trivial
 exact Af A0 rfl rfl ⟨A6 vb (D7 (by rw [←Bt a k A7,he,Bt b k A7])),trivial⟩
theorem B2e (a b:List Bool)(ha:a.length≤16777216)(hb:b.length≤16777216):Df 28 [.one (Dz a),.one (Dz b)] [.one (vb (decide (a=b)))]:=by
 refine Dy Tryz.func28 fun W=>?_;refine Xi (fun hn=>?_) fun hn=>?_
 ·exact Af A0 rfl rfl ⟨A6 vb (Cx fun e=>hn (by rw [e])),trivial⟩
 refine Fs [] (fun k:Nat=>[(5,.c (vi k))]) (fun k=>[]) (fun k=>[]) (fun k=>k≤a.length∧a.take k=b.take k) (fun k=>a.length-k) fun k hk=>?_;obtain ⟨hk,he⟩:=hk;refine E3 (fun h=>?_) fun h=>?_
 ·have h:k<a.length:=by omega
  have hs:=Ez a b k he h A7;refine B6 ?_
  first|(refine Ae 6 rfl [0,1,2,3,4,5,6,7,8] Ak (Ag ?_))
  refine B6 ?_;refine C2 (fun hc=>?_) fun hc=>?_
  ·have hc:(!decide (a.getD k default=b.getD k default))=true:=by rw [←B3q];exact hc
   exact Af A0 rfl rfl ⟨A6 vb (Cx fun e=>by subst e;simp at hc),trivial⟩
  have hc:(!decide (a.getD k default=b.getD k default))=false:=by rw [←B3q];exact hc
  refine B6 ?_;refine Co [] (k+1) ⟨by omega,hs.2 (by simpa using hc)⟩ A7 ⟨rfl,trivial⟩ trivial
 exact Af A0 rfl rfl ⟨A6 vb (D7 (by rw [←Bt a k A7,he,Bt b k A7])),trivial⟩
theorem D1c (a b:Ba)(ha:a.ax.length≤16777216)(hb:b.ax.length≤16777216):Df 192 [.agg a.c,.agg b.c] [.one (vb (decide (a=b)))]:=by
 obtain ⟨k,x,y,l⟩:=a;obtain ⟨k2,x2,y2,l2⟩:=b;refine Dy Tryz.func192 fun W=>?_
 repeat' (first|(refine Gy ?_;conv=>whnf)|(refine Gz ?_;conv=>whnf)|(refine ⟨fun h=>?_,fun h=>?_⟩<;>conv=>whnf)|(refine Ao (B5t l l2 ha hb) rfl (Ag ?_))|(refine D6 ?_;conv=>whnf)|fail)
 all_goals (refine Af A0 rfl rfl ⟨A6 vb ?_,trivial⟩;simp_all [Ba.mk.injEq])
theorem C86 (a b:List Ba)(ha:wS Ba.w a≤16777216)(hb:wS Ba.w b≤16777216):Df 132 [.one (Ay a),.one (Ay b)] [.one (vb (decide (a=b)))]:=by
 simp only [wS] at ha hb;refine Dy Tryz.func132 fun W=>?_;refine Xi (fun hn=>?_) fun hn=>?_
 ·exact Af A0 rfl rfl ⟨A6 vb (Cx fun e=>hn (by rw [e])),trivial⟩
 refine Fs [] (fun k:Nat=>[(5,.c (vi k))]) (fun k=>[]) (fun k=>[]) (fun k=>k≤a.length∧a.take k=b.take k) (fun k=>a.length-k) fun k hk=>?_;obtain ⟨hk,he⟩:=hk;refine E3 (fun h=>?_) fun h=>?_
 ·have h:k<a.length:=by omega
  have hs:=Ez a b k he h A7;have h1:=Fg Ba.w a k h;have h2:=Fg Ba.w b k A7
  first|(refine Ae 6 rfl [0,1,2,3,4,5,6,7,8,9] Ak (Ag ?_))
  refine B6 ?_;refine Fh (D1c (a.getD k default) (b.getD k default) (by simp only [Ba.w] at h1;omega) (by simp only [Ba.w] at h2;omega)) ?_;refine C2 (fun hc=>?_) fun hc=>?_
  ·exact Af A0 rfl rfl ⟨A6 vb (Cx fun e=>by subst e;simp at hc),trivial⟩
  refine B6 ?_;refine Co [] (k+1) ⟨by omega,hs.2 (by simpa using hc)⟩ A7 ⟨rfl,trivial⟩ trivial
 exact Af A0 rfl rfl ⟨A6 vb (D7 (by rw [←Bt a k A7,he,Bt b k A7])),trivial⟩
theorem B9r (x y:Ax)(hx:x.w≤16777216)(hy:y.w≤16777216):Df 69 [.agg x.c,.agg y.c] [.one (vb (decide (x=y)))]:=by
 rw [Ax.eqv];refine Dy Tryz.func69 fun W=>?_
 first|
 refine Fh (C86 x.ay y.ay hx hy) ?_
 repeat' (first|(refine Gy ?_;conv=>whnf)|(refine Gz ?_;conv=>whnf)|(refine ⟨fun h=>?_,fun h=>?_⟩<;>conv=>whnf)|(refine Ew ?_;conv=>whnf)|fail)
 all_goals (refine Af A0 rfl rfl ⟨?_,trivial⟩;(conv=>whnf);refine A6 vb ?_;simp only [*,Wr,Wq,Ux])
theorem A59 (x y:B5)(hx:x.w≤16777216)(hy:y.w≤16777216):Df 34 [.agg x.c,.agg y.c] [.one (vb (decide (x=y)))]:=by
 simp only [B5.w] at hx hy;rw [B5.eqv];refine Dy Tryz.func34 fun W=>?_
 first|
 refine Fh (B9r x.az y.az A7 A7) ?_
 repeat' (first|(refine Gy ?_;conv=>whnf)|(refine Gz ?_;conv=>whnf)|(refine ⟨fun h=>?_,fun h=>?_⟩<;>conv=>whnf)|(refine Ew ?_;conv=>whnf)|fail)
 all_goals first
  |(refine Af A0 rfl rfl ⟨?_,trivial⟩;(conv=>whnf);refine A6 vb ?_;simp only [*,Wr,Wq,Ux];done)
  |(refine Ao (Ot x.ap y.ap A7 A7) rfl (I7 ?_);conv=>whnf)
 repeat' (first|(refine Gy ?_;conv=>whnf)|(refine Gz ?_;conv=>whnf)|(refine ⟨fun h=>?_,fun h=>?_⟩<;>conv=>whnf)|(refine Ew ?_;conv=>whnf)|fail)
 all_goals first
  |(refine Af A0 rfl rfl ⟨?_,trivial⟩;(conv=>whnf);refine A6 vb ?_;simp only [*,Wr,Wq,Ux];done)
  |(refine Ao (C87 x.an y.an A7 A7) rfl (I7 ?_);conv=>whnf)
 repeat' (first|(refine Gy ?_;conv=>whnf)|(refine Gz ?_;conv=>whnf)|(refine ⟨fun h=>?_,fun h=>?_⟩<;>conv=>whnf)|(refine Ew ?_;conv=>whnf)|fail)
 all_goals (refine Af A0 rfl rfl ⟨?_,trivial⟩;(conv=>whnf);refine A6 vb ?_;simp only [*,Wr,Wq,Ux])
theorem C84 (x:D8)(h:x.w≤16777216):Df 134 [.agg x.c,.agg x.c] [.one (vb true)]:=by
 have h:x.al.length≤16777216:=h;have e:decide (x.al=x.al)=true:=D7 rfl;refine Dy Tryz.func134 fun W=>?_
 first|
 refine Ar ?_;refine Ao (Ot x.al x.al h h) rfl (Ft ?_);exact Af A0 rfl rfl ⟨A6 vb Ef,trivial⟩
theorem C2h (x:Aj)(h:x.w≤16777216):Df 133 [.agg x.c,.agg x.c] [.one (vb true)]:=by
 have h1:=h;simp only [Aj.w] at h1;have e1:decide (x.al=x.al)=true:=D7 rfl;have e2:decide (x.bq=x.bq)=true:=D7 rfl;have e3:decide (x.ap=x.ap)=true:=D7 rfl;have e4:decide (x.cells=x.cells)=true:=D7 rfl;have e5:decide (x.ai=x.ai)=true:=D7 rfl;have e6:decide (x.ah=x.ah)=true:=D7 rfl;have e7:decide (x.ao=x.ao)=true:=D7 rfl;refine Dy Tryz.func133 fun W=>?_
 first|
 refine Ao (Ot x.al x.al A7 A7) rfl (Ft ?_);refine Ao (Ot x.bq x.bq A7 A7) rfl (Ft ?_);refine Ao (Ot x.ap x.ap A7 A7) rfl (Ft ?_);refine Ao (C82 x.cells x.cells A7 A7) rfl (Ft ?_);refine Ao (B5t x.ai x.ai A7 A7) rfl (Ft ?_);refine Ao (B2e x.ah x.ah A7 A7) rfl (Ft ?_);refine Ao (B2e x.ao x.ao A7 A7) rfl (Ft ?_);refine Ao (C83 x.bz x.bz A7 A7) rfl (Ft ?_);exact Af A0 rfl rfl ⟨A6 vb Ef,trivial⟩
theorem B7w (l:List Aj)(hl:wS Aj.w l≤16777216):Df 70 [.one (Ai l),.one (Ai l)] [.one (vb true)]:=by
 simp only [wS] at hl;refine Dy Tryz.func70 fun W=>?_;refine Xi (fun hn=>?_) fun hn=>?_
 ·omega
 refine Fs [] (fun k:Nat=>[(5,.c (vi k))]) (fun k=>[]) (fun k=>[]) (fun k=>k≤l.length) (fun k=>l.length-k) fun k hk=>?_;refine E3 (fun h=>?_) fun h=>?_
 ·have h:k<l.length:=by omega
  have h1:=Fg Aj.w l k h
  first|(refine Ae 6 rfl [0,1,2,3,4,5,6,7,8,9] Ak (Ag ?_))
  refine B6 ?_;refine Ao (C2h (l.getD k default) A7) rfl (Ft ?_);refine B6 ?_;refine Co [] (k+1) A7 A7 ⟨rfl,trivial⟩ trivial
 exact Dk
theorem C5y (l:List D8)(hl:wS D8.w l≤16777216):Df 71 [.one (Bo l),.one (Bo l)] [.one (vb true)]:=by
 simp only [wS] at hl;refine Dy Tryz.func71 fun W=>?_;refine Xi (fun hn=>?_) fun hn=>?_
 ·omega
 refine Fs [] (fun k:Nat=>[(5,.c (vi k))]) (fun k=>[]) (fun k=>[]) (fun k=>k≤l.length) (fun k=>l.length-k) fun k hk=>?_;refine E3 (fun h=>?_) fun h=>?_
 ·have h:k<l.length:=by omega
  have h1:=Fg D8.w l k h
  first|(refine Ae 6 rfl [0,1,2,3,4,5,6,7,8,9] Ak (Ag ?_))
  refine B6 ?_;refine Ao (C84 (l.getD k default) A7) rfl (Ft ?_);refine B6 ?_;refine Co [] (k+1) A7 A7 ⟨rfl,trivial⟩ trivial
 exact Dk
theorem B7v (x:A3)(h:x.w≤16777216):Df 27 [.agg x.c,.agg x.c] [.one (vb true)]:=by
 have h1:=h;simp only [A3.w] at h1;have eg:decide (x.az=x.az)=true:=D7 rfl;have et:decide (x.ar=x.ar)=true:=D7 rfl;refine Dy Tryz.func27 fun W=>?_
 first|
 refine Ao (B9r x.az x.az A7 A7) rfl (Ft ?_);refine Ao (B7w x.aq A7) rfl (Ft ?_);refine Ao (C5y x.ak A7) rfl (Ft ?_);refine Ao (C5z x.ar x.ar A7 A7) rfl (Ft ?_);refine Ao (C85 x.au x.au A7 A7) rfl (Ft ?_);exact Af A0 rfl rfl ⟨A6 vb Ef,trivial⟩
end Go.Proofs.YtmhcebdkjgkmlaaGreatDoor
