/- Part 40 of the proof that each of the laws FnScriptsBack returns true for every input. No conditions. -/
import Derived.Test.YtmhcebdkjgkmlaaGreatDoorR37
import Derived.Test.YtmhcebdkjgkmlaaGreatDoorR38

set_option linter.unusedSimpArgs false
set_option linter.unusedVariables false
set_option maxRecDepth 100000
namespace Go.Proofs.YtmhcebdkjgkmlaaGreatDoor
open Go.Sx
theorem A7e (l:List D9)(k:Nat):Ze (l.take k).length (l.drop (k+1)).length 3 (fun i=>D9.c ((l.take k).getD i default)) (fun i=>D9.c ((l.drop (k+1)).getD i default)) (C4 (l.take k++l.drop (k+1))):=A37 3 D9.c _ _
theorem B7x {c:A3}{w:Int}{k:Nat}(hk:k<c.au.length)(hb:∀i,i<k→Kc w (c.au.getD i default)=false)(h:Kc w (c.au.getD k default)=true):P6 c w=k∧c.au.any (Kc w)=true:=⟨Yj _ _ k hk hb h,R8 hk h⟩
theorem C2k {c:A3}{w:Int}(hb:∀i,i<c.au.length→Kc w (c.au.getD i default)=false):c.au.any (Kc w)=false:=by
 rw [A2d];intro y hy;obtain ⟨i,hi,rfl⟩:=Po hy
 have:=hb i hi
 rw [show c.au.getD i default=c.au[i] by simp [List.getD,hi]] at this
 simpa using this
set_option maxHeartbeats 8000000 in
theorem C62 (x:A3)(w:Int)(h:x.w≤16000000):MtR (fun _=>True) 190 [] (rc x) [.one (vi w)] (fun _:Unit=>True) (fun _=>rcb (Fj x w).1 (Av x)) (fun _=>[.one (vb (Fj x w).2)]):=by
 have hnl:=A3.news_le h;refine zeP Tryz.func190 fun B b hH hp=>?_;refine Fs [6] (fun k:Nat=>[(5,.c (vi k))]) (fun k=>[⟨0,[.own 1,.c (vi x.az.aq),.c (vi x.az.cap),.own 2,.own 3,.own 4,.own 5,.c (vb (Av x))]⟩]) (fun k=>[⟨1,Ay x.az.ay⟩,⟨2,Ai x.aq⟩,⟨3,Bo x.ak⟩,⟨4,B4 x.ar⟩,⟨5,C4 x.au⟩]) (fun k=>k≤x.au.length∧∀i,i<k→Kc w (x.au.getD i default)=false) (fun k=>x.au.length-k) fun k hk=>?_;obtain ⟨hk,he⟩:=hk;conv=>whnf
 refine E3 (fun h1=>?_) fun h1=>?_
 ·have h1:k<x.au.length:=by omega
  refine Ar ?_;refine C2 (fun hok=>?_) fun hok=>?_
  ·have hC:B1 x:=Bp (show Av x=true from hok)
   refine Ar ?_;refine Xi (fun h2=>?_) fun h2=>?_
   ·rw [Cp] at h2
    have h2':Kc w (x.au.getD k default)=false:=by simpa [Kc] using h2
    refine B6 ?_;refine Co [] (k+1) ⟨by omega,fun i hi=>(Wl.1 hi).elim (fun h4=>he i h4) (fun h4=>by subst h4;exact h2')⟩ A7 ⟨rfl,trivial⟩ ⟨rfl,rfl,rfl,rfl,rfl,trivial⟩
   rw [Cp] at h2;have h2':Kc w (x.au.getD k default)=true:=by simpa [Kc] using h2
   obtain ⟨hat,hA⟩:=B7x h1 he h2';have hH:B1 x∧x.au.any (Kc w)=true:=⟨hC,hA⟩;have hno:Gd x w=x.au.getD k default:=by unfold Gd;rw [hat]
   have hwn:=hC.2.2.2.2 _ (Am (d:=default) h1);have hwl:=hC.1.2.1
   have hwb:0≤w∧w<x.aq.length:=by
    have:=hwn.1
    omega
   have hj:w.toNat<x.aq.length:=by omega
   have hww:=A3.worker_le h hj;have hdl:(x.aq.getD w.toNat default).bz.length≤(x.aq.getD w.toNat default).w:=by simp only [Aj.w];omega
   have htk:=Ng k x.au;refine C49 0 6 5 rfl rfl rfl ?_
   have hh:Vf x w=⟨x.az,x.aq,x.ak,x.ar,x.au.take k++x.au.drop (k+1)⟩:=by
    unfold Vf;rw [hat,A45]
   refine Jd rfl (E4 0 rfl (E4 2 rfl (E4 3 rfl (E4 4 rfl (E4 5 rfl (E4 7 rfl (E4 10 rfl (E4 11 rfl (E4 12 rfl (E4 13 rfl (E4 15 rfl (E4 16 rfl ?_))))))))))));refine Pb 6 ?_;refine Lw (s':=?_) 8 rfl Ak ?_ ?_;rotate_left;refine Ag ?_;refine P9 A0 rfl ⟨by omega,by omega,by omega⟩ (C4 (x.au.take k)) (A13 A7) (Ag ?_);exact C8
   refine Np [9,14,17,18,19,20,21,22] [⟨1,36,.emp 3⟩] Ak ?_;refine Na (s1:=?_) (s2:=?_) A0 [9,14,17,18,19,20,21,22] 9 14 [14,17,18,19,20,21,22] [9,17,18,19,20,21,22] rfl rfl Ak Dt Bk Bk ?_ ?_ ?_ ?_;rotate_left 2;refine Ag ?_;refine Bg A0 rfl (C4 (x.au.take k)) (Bw) (fun _=>H1 _) A7 (Ag ?_);exact C8
   refine Mt rfl Dt ?_;refine La (s':=?_) rfl Dt ?_ ?_;rotate_left;refine Ag ?_;refine P9 A0 rfl ⟨by omega,by omega,by omega⟩ (C4 (x.au.drop (k+1))) (Im (k:=k+1) h1) (Ag ?_);exact C8
   refine La (s':=?_) rfl Dt ?_ ?_;rotate_left;refine Ag ?_;refine Bg A0 rfl (C4 (x.au.take k++x.au.drop (k+1))) (A7e x.au k) (fun _=>H1 _) (by (rw [G2,Gm];omega)) (Ag ?_);exact C8
   refine Mt rfl Dt ?_;refine Mt rfl Dt ?_;refine Mt rfl Dt ?_;refine Mt rfl Dt ?_;refine Lt A0 Ak Dt (GW.out (I7 ?_));conv=>whnf
   rotate_left 1;refine F1 ?_;exact C8
   refine Na (s1:=?_) (s2:=?_) A0 [9,17,18,19,20,21,22] 9 17 [17,18,19,20,21,22] [9,18,19,20,21,22] rfl rfl Ak Dt Bk Bk ?_ ?_ ?_ ?_;rotate_left 2;refine Ag ?_;refine Bg A0 rfl (C4 (x.au.take k)) (Bw) (fun _=>H1 _) A7 (Ag ?_);exact C8
   refine La (s':=?_) rfl Dt ?_ ?_;rotate_left;refine Ag ?_;refine P9 A0 rfl ⟨by omega,by omega,by omega⟩ (C4 (x.au.drop (k+1))) (Im (k:=k+1) h1) (Ag ?_);exact C8
   refine La (s':=?_) rfl Dt ?_ ?_;rotate_left;refine Ag ?_;refine Bg A0 rfl (C4 (x.au.take k++x.au.drop (k+1))) (A7e x.au k) (fun _=>H1 _) (by (rw [G2,Gm];omega)) (Ag ?_);exact C8
   refine Mt rfl Dt ?_;refine Mt rfl Dt ?_;refine Mt rfl Dt ?_;refine Mt rfl Dt ?_;refine Lt A0 Ak Dt (GW.out (I7 ?_));conv=>whnf
   rotate_left 1;refine Ag ?_;refine P9 A0 rfl ⟨by omega,by omega,by omega⟩ (C4 (x.au.drop (k+1))) (Im (k:=k+1) h1) (Ag ?_);exact C8
   refine La (s':=?_) rfl Dt ?_ ?_;rotate_left;refine Ag ?_;refine Bg A0 rfl (C4 (x.au.take k)) (Bw) (fun _=>H1 _) A7 (Ag ?_);exact C8
   refine La (s':=?_) rfl Dt ?_ ?_;rotate_left;refine Ag ?_;refine Bg A0 rfl (C4 (x.au.take k++x.au.drop (k+1))) (A7e x.au k) (fun _=>H1 _) (by (rw [G2,Gm];omega)) (Ag ?_);exact C8
   refine Mt rfl Dt ?_;refine Mt rfl Dt ?_;refine Mt rfl Dt ?_;refine Mt rfl Dt ?_;refine Lt A0 Ak Dt (GW.out (I7 ?_));conv=>whnf
   all_goals
    first|(refine Ae 6 rfl [0,2,3,4,5,6,7,8,10,11,12,13,14,15,16,17,1,9,18,19,20,21,22] Ak (Ag ?_))|(refine Ae 7 rfl [0,1,2,3,4,5,6,7,8,9,10,11] Ak (Ag ?_))|(refine Ae 8 rfl [0,1,2,3,4,5,6,7,8,9,10,11,12,13,14,15,16,17,18,19,20,21,22,23,24] Ak (Ag ?_))
    refine B6 ?_;refine A3a A0 rfl hj rfl (fun u=>go A0 false ?_);conv=>whnf
    refine Fh (A7j (x.aq.getD w.toNat default) (x.au.getD k default).am A7) ?_;refine C2 (fun hd=>?_) fun hd=>?_
    ·have hd:Lh (A8 x w) (Gd x w).am=false:=by rw [hno];exact (Mp _).mp hd
     refine Rp 2 (w.toNat) [(0,10),(1,11),(2,12),(3,13),(4,14),(5,15),(6,16),(7,17)] (Ai x.aq) hj rfl rfl S0 rfl (Cv rfl) (I7 ?_);conv=>whnf
     refine Yt 0 3 2 rfl rfl (fun v2=>?_);refine A6h 0 3 rfl rfl (fun ho_v2=>?_);refine Jd rfl (E4 0 rfl (E4 1 rfl (E4 2 rfl (E4 3 rfl (E4 5 rfl (E4 6 rfl (E4 7 rfl (E4 8 rfl (E4 9 rfl (E4 11 rfl (E4 15 rfl (E4 17 rfl ?_))))))))))));refine Lw (s':=?_) 10 rfl Ak ?_ ?_;rotate_left;refine Ag ?_;refine He 79 2 rfl (F1 ?_);exact C8
     refine Pb 12 ?_;refine E4 13 rfl ?_;refine Vw (α:=Value) (s':=?_) 14 rfl Ak ?_ ?_;rotate_left;refine Ag ?_;refine Ma A0 rfl (jn:=w.toNat) rfl rfl (fun v3=>go A0 false ?_);conv=>whnf
     exact A2t v3
     intro v3;refine Pb 16 ?_;refine Pb 18 ?_;refine Pb 19 ?_;refine Np [20,21,22,23,24] [⟨4,73,.rd v2⟩] Ak ?_;refine Mt rfl Dt ?_;refine La (s':=?_) rfl Dt ?_ ?_;rotate_left;refine Ag ?_;refine Bg A0 rfl (Hy ((x.aq.getD w.toNat default).bz++[⟨(x.au.getD k default).am,(x.au.getD k default).ae⟩])) (An rfl) Ij A7 (Ag ?_);exact C8
     refine La (s':=?_) rfl Dt ?_ ?_;rotate_left;refine Ag ?_;refine He 73 2 rfl (F1 ?_);exact C8
     refine Mt rfl Dt ?_;refine La (s':=?_) rfl Dt ?_ ?_;rotate_left;refine Ag ?_;refine Bi (j:=w) A0 rfl (Ai (x.aq.set w.toNat (Jq (A8 x w) ⟨(x.au.getD k default).am,(x.au.getD k default).ae⟩))) (Ht hj rfl) (Ag ?_);exact C8
     refine Lt A0 Ak Dt (GW.out (I7 ?_));conv=>whnf
     refine C21 Tryz.prog (fun _ g=>Yr 0 3 2 rfl rfl rfl g) ?_;rw [B4b hH hd,hno,hh];exact Iy () trivial
    have hd:Lh (A8 x w) (Gd x w).am=true:=by rw [hno];exact (Uj _).mp hd
    refine Ge Tryz.prog 2 (w.toNat) [(0,10),(1,11),(2,12),(3,13),(4,14),(5,15),(6,16),(7,17)] (Ai x.aq) hj rfl S0 rfl (Cv rfl) ?_;rw [B4c hH hd,hh];exact Iy () trivial
  have hC:¬ B1 x:=Cy (show Av x=false from hok)
  refine Ar ?_;rw [A32 (fun p=>hC p.1)];exact Iy () trivial
 obtain rfl:k=x.au.length:=by omega
 refine Ar ?_;rw [A32 (fun p=>by have q:=p.2;rw [C2k he] at q;cases q)];exact Iy () trivial
end Go.Proofs.YtmhcebdkjgkmlaaGreatDoor
