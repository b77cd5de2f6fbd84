/- Part 38 of the proof that each of the laws FnScriptsBack returns true for every input. No conditions. -/
import Derived.Test.YtmhcebdkjgkmlaaGreatDoorR13
import Derived.Test.YtmhcebdkjgkmlaaGreatDoorR36

set_option linter.unusedSimpArgs false
set_option linter.unusedVariables false
set_option maxRecDepth 100000
namespace Go.Proofs.YtmhcebdkjgkmlaaGreatDoor
open Go.Sx
theorem C5m (xs:List D9)(hx:xs.length≤16777216)(f:Nat)(cs:List Ad)(p:D9→Bool)(hf:∀x∈xs,Df f [.agg x.c,.ptr cs] [.one (vb (p x))]):
  Df 235 [.one (C4 xs),.fn f [.ptr cs]] [.one (vi (Pf p xs))]:=by
 refine Dy Tryz.func235 fun W=>?_;refine Fs [] (fun k:Nat=>[(8,.c (vi k))]) (fun k=>[]) (fun k=>[]) (fun k=>k≤xs.length∧(xs.take k).any p=false) (fun k=>xs.length-k) fun k hk=>?_;obtain ⟨hk,he⟩:=hk;refine E3 (fun h=>?_) fun h=>?_
 ·have h:k<xs.length:=by omega
  refine B6 ?_;refine Fh (hf (xs.getD k default) (Am h)) ?_;refine C2 (fun hc=>?_) fun hc=>?_
  ·exact Af A0 rfl rfl ⟨A6 vi (Sm p xs k he h hc),trivial⟩
  refine B6 ?_;refine Co [] (k+1) ⟨by omega,Gq he h hc⟩ A7 ⟨rfl,trivial⟩ trivial
 exact Af A0 rfl rfl ⟨A6 vi (M9 p xs (by rw [Bt xs k A7] at he;exact he)),trivial⟩
theorem D16 (w:Int)(y:D9):Df 236 [.agg y.c,.ptr [vi w]] [.one (vb (Kc w y))]:=by
 refine Dy Tryz.func236 fun W=>?_;exact Af A0 rfl rfl ⟨rfl,trivial⟩
variable {c : A3} {w : Int}
theorem A32 (h:¬ (B1 c∧c.au.any (Kc w)=true)):Fj c w=(c,false):=Ab h
theorem B4c (h:B1 c∧c.au.any (Kc w)=true)(h1:Lh (A8 c w) (Gd c w).am=true):Fj c w=(Vf c w,true):=by
 unfold Fj;rw [Ah h,Ah h1]
theorem B4b (h:B1 c∧c.au.any (Kc w)=true)(h1:Lh (A8 c w) (Gd c w).am=false):Fj c w=(Bf (Vf c w) w (Jq (A8 c w) ⟨(Gd c w).am,(Gd c w).ae⟩),true):=by
 unfold Fj;rw [Ah h,Ab (by rw [h1];decide)]
theorem C2j (h:c.au.any (Kc w)=true):P6 c w<c.au.length∧Pf (Kc w) c.au=(P6 c w:Int)∧Kc w (Gd c w)=true:=by
 have e:Pf (Kc w) c.au=(Iu (Kc w) c.au:Int):=by rw [Pf,Ah h]
 have hx:∀(l:List D9),l.any (Kc w)=true→Iu (Kc w) l<l.length∧Kc w (l.getD (Iu (Kc w) l) default)=true:=by
  intro l
  induction l with
  |nil=>intro h;simp at h
  |cons y r ih=>
   intro h
   by_cases hy:Kc w y=true
   ·simp [Iu,hy]
   have hy:Kc w y=false:=by simpa using hy
   rw [List.any_cons,hy,Zb] at h;obtain ⟨a,b⟩:=ih h;simp only [Iu,hy];exact ⟨by simpa using a,by simpa using b⟩
 exact ⟨(hx _ h).1,e,(hx _ h).2⟩
set_option maxHeartbeats 8000000 in
theorem B1v (x:A3)(w:Int)(h:x.w≤16000000)(hgo:Nj x):Df 181 [.agg x.c,.one (vi w)] [.agg (Fj x w).1.c,.one (vb (Fj x w).2)]:=by
 have hnl:=A3.news_le h;refine Dy Tryz.func181 fun W=>?_;refine Hp (Ev x A7) ?_;refine Ao (C5m x.au A7 _ [vi w] (Kc w) (fun y _=>D16 w y)) rfl (Ag ?_)
 cases hA:x.au.any (Kc w)
 ·rw [M9 _ _ hA]
  refine Ar ?_;rw [A32 (fun p=>by rw [p.2] at hA;cases hA)];exact Dk
 obtain ⟨n1,n2,n3⟩:=C2j hA;rw [n2];refine C2 (fun hz=>?_) fun hz=>?_
 ·have:=Bp hz
  omega
 refine Ar ?_;refine Ao (O9 x A7 hgo) rfl (Ft ?_);refine C2 (fun h1=>?_) fun h1=>?_
 ·have h1:¬ B1 x:=Cy (by simpa [Av] using h1)
  refine Ar ?_;rw [A32 (fun p=>h1 p.1)];exact Dk
 have hC:B1 x:=Bp (show Av x=true by simpa using h1)
 have hH:B1 x∧x.au.any (Kc w)=true:=⟨hC,hA⟩;have hwn:=hC.2.2.2.2 _ (Am (d:=default) n1);have hto:(Gd x w).to_=w:=by simpa [Kc] using n3
 have hwl:=hC.1.2.1
 have hwb:0≤w∧w<x.aq.length:=by
  have:=hwn.1
  have e:(x.au.getD (P6 x w) default).to_=w:=hto;omega
 have hj:w.toNat<x.aq.length:=by omega
 have hww:=A3.worker_le h hj;have hdl:(x.aq.getD w.toNat default).bz.length≤(x.aq.getD w.toNat default).w:=by simp only [Aj.w];omega
 refine Ar ?_;refine A4w [.own 7] (B7o x.au (P6 x w) n1 A7) (fun _ _=>trivial) (fun _ h=>by cases h) I1 rfl rfl (fun i _=>go A0 false ?_);conv=>whnf
 have hE0:(x.au.getD (P6 x w) default).am=(Gd x w).am:=rfl
 first|(refine Ae 7 rfl [0,1,2,3,4,5,6,7,8] Ak (Ag ?_))|(refine Ae 8 rfl [0,1,2,3,4,5,6,7,8,9,10,11,12,13,14,15,16,17,18] Ak (Ag ?_))
 refine B6 ?_;refine Ao (A5u (A8 x w) (Gd x w).am (by show (x.aq.getD w.toNat default).w≤_;omega)) rfl (Ag ?_)
 refine C2 (fun hd=>?_) fun hd=>?_
 ·have hd:Lh (A8 x w) (Gd x w).am=false:=by simpa using hd
  refine Ar ?_;refine Yt 8 3 4 rfl rfl (fun v2=>?_);refine A6h 8 3 rfl rfl (fun ho_v2=>?_);refine Jd rfl (E4 0 rfl (E4 3 rfl (E4 9 rfl (E4 11 rfl ?_))));refine Lw (s':=?_) 4 rfl Ak ?_ ?_;rotate_left;refine Ag ?_;refine He 48 4 rfl (F1 ?_);exact C8
  refine Pb 5 ?_;refine Pb 6 ?_;refine E4 7 rfl ?_;refine Vw (α:=Value) (s':=?_) 8 rfl Ak ?_ ?_;rotate_left;refine Ag ?_;refine Ma A0 rfl (jn:=w.toNat) rfl rfl (fun v=>go A0 false ?_);conv=>whnf
  exact A2t v
  intro v;refine Pb 10 ?_;refine Pb 12 ?_;refine Pb 13 ?_;refine Np [14,15,16,17,18] [⟨1,45,.rd v2⟩,⟨2,46,.rd (Value.int .i64 w)⟩] Ak ?_;refine Mt rfl Dt ?_;refine La (s':=?_) rfl Dt ?_ ?_;rotate_left;refine Ag ?_;refine Bg A0 rfl (Hy ((x.aq.getD w.toNat default).bz++[⟨(Gd x w).am,(Gd x w).ae⟩])) (An rfl) Ij A7 (Ag ?_);exact C8
  refine La (s':=?_) rfl Dt ?_ ?_;rotate_left;refine Ag ?_;refine He 45 4 rfl (F1 ?_);exact C8
  refine Mt rfl Dt ?_;refine La (s':=?_) rfl Dt ?_ ?_;rotate_left;refine Ag ?_;refine Bi (j:=w) A0 rfl (Ai (x.aq.set w.toNat (Jq (A8 x w) ⟨(Gd x w).am,(Gd x w).ae⟩))) (Ht hj rfl) (Ag ?_);exact C8
  refine Lt A0 Ak Dt (GW.out (I7 ?_));conv=>whnf
  refine C21 Tryz.prog (fun _ g=>Yr 2 3 4 rfl rfl rfl g) ?_;rw [B4b hH hd];exact Dk
 have hd:Lh (A8 x w) (Gd x w).am=true:=by simpa using hd
 refine Ar ?_;rw [B4c hH hd];exact Dk
end Go.Proofs.YtmhcebdkjgkmlaaGreatDoor
