/- Part 33 of the proof that each of the laws FnTight returns true for every input. No conditions. -/
import Derived.Test.YtonodkjaoalfjaaP5
import Derived.Test.YtonodkjaoalfjaaP31
import Derived.Test.YtonodkjaoalfjaaP32

set_option linter.unusedSimpArgs false
set_option linter.unusedVariables false
set_option maxRecDepth 100000
namespace Go.Proofs.Ytonodkjaoalfjaa
open Go.Sx
theorem Ra (l:List Ez)(k:Nat):Od (l.take k).length (l.drop (k+1)).length 3 (fun i=>Ez.c ((l.take k).getD i default)) (fun i=>Ez.c ((l.drop (k+1)).getD i default)) (D0 (l.take k++l.drop (k+1))):=Ph 3 Ez.c _ _
theorem Wx {c:A3}{w:Int}{k:Nat}(hk:k<c.news.length)(hb:∀i,i<k→Iv w (c.news.getD i default)=false)(h:Iv w (c.news.getD k default)=true):M6 c w=k∧c.news.any (Iv w)=true:=⟨M0 _ _ k hk hb h,Kg hk h⟩
theorem A0m {c:A3}{w:Int}(hb:∀i,i<c.news.length→Iv w (c.news.getD i default)=false):c.news.any (Iv w)=false:=by
 rw [List.any_eq_false]
 intro y hy
 obtain ⟨i,hi,rfl⟩:=List.getElem_of_mem hy
 have:=hb i hi
 rw [show c.news.getD i default=c.news[i] by simp [List.getD,hi]] at this
 simpa using this
set_option maxHeartbeats 8000000 in
theorem A3s (x:A3)(w:Int)(h:x.w≤16000000):Dq Try.prog (fun _=>True) 60 [] (rc x) [.one (vi w)] (fun _:Unit=>True) (fun _=>O4 (D9 x w).1 (Aq x)) (fun _=>[.one (vb (D9 x w).2)]):=by
 have hnl:=A3.news_le h
 refine Ex A0 false Try.func60 rfl Cb fun B b hH hp=>?_
 conv=>whnf
 refine Cc A0 false [6] (fun k:Nat=>[(5,.c (vi k))]) (fun k=>[⟨0,[.own 1,.c (vi x.graph.workers),.c (vi x.graph.cap),.own 2,.own 3,.own 4,.own 5,.c (vb (Aq x))]⟩]) (fun k=>[⟨1,Bt x.graph.nodes⟩,⟨2,Ap x.workers⟩,⟨3,D7 x.links⟩,⟨4,Cl x.tokens⟩,⟨5,D0 x.news⟩])
  (fun k=>k≤x.news.length∧∀i,i<k→Iv w (x.news.getD i default)=false) (fun k=>x.news.length-k) 0 ⟨Nat.zero_le _,by first|rfl|assumption|simp⟩ ⟨by first|rfl|simp [Dc,ren2,ren1,ren0],trivial⟩ D8 ⟨by first|rfl|exact (congrArg (fun l=>Dz _ _ l) (List.append_nil _)).symm|(show (_:A7)=_;simp)|simp,by first|rfl|exact (congrArg (fun l=>Dz _ _ l) (List.append_nil _)).symm|(show (_:A7)=_;simp)|simp,by first|rfl|exact (congrArg (fun l=>Dz _ _ l) (List.append_nil _)).symm|(show (_:A7)=_;simp)|simp,by first|rfl|exact (congrArg (fun l=>Dz _ _ l) (List.append_nil _)).symm|(show (_:A7)=_;simp)|simp,by first|rfl|exact (congrArg (fun l=>Dz _ _ l) (List.append_nil _)).symm|(show (_:A7)=_;simp)|simp,trivial⟩ Dg A6 (fun k hk=>?_)
 obtain ⟨hk,he⟩:=hk
 conv=>whnf
 conv=>whnf
 refine G2 (fun h1=>?_) fun h1=>?_<;>conv=>whnf
 ·have h1:k<x.news.length:=by omega
  repeat refine Bg ?_
  refine ⟨fun hok=>?_,fun hok=>?_⟩<;>conv=>whnf
  ·have hC:Ar x:=of_decide_eq_true (show Aq x=true from hok)
   repeat refine Bg ?_
   (repeat refine Ak ?_)
   refine ⟨fun h2=>have h2:=bne_iff_ne.1 h2;?_,fun h2=>have h2:=bne_eq_false_iff_eq.1 h2;?_⟩<;>conv=>whnf
   ·rw [Int.toNat_natCast] at h2
    have h2':Iv w (x.news.getD k default)=false:=by simpa [Iv] using h2
    (repeat refine Ak ?_)
    refine B8 [] (k+1) ⟨by omega,fun i hi=>(Nat.lt_succ_iff_lt_or_eq.1 hi).elim (fun h4=>he i h4) (fun h4=>by subst h4;exact h2')⟩ Ag ⟨rfl,trivial⟩ ⟨rfl,rfl,rfl,rfl,rfl,trivial⟩ D8 A6 Dg A6
   ·rw [Int.toNat_natCast] at h2
    have h2':Iv w (x.news.getD k default)=true:=by simpa [Iv] using h2
    obtain ⟨hat,hA⟩:=Wx h1 he h2'
    have hH:Ar x∧x.news.any (Iv w)=true:=⟨hC,hA⟩
    have hno:Fa x w=x.news.getD k default:=by unfold Fa;rw [hat]
    have hwn:=hC.2.2.2.2 _ (B9 (d:=default) h1)
    have hwl:=hC.1.2.1
    have hwb:0≤w∧w<x.workers.length:=by
     have:=hwn.1
     omega
    have hj:w.toNat<x.workers.length:=by omega
    have hww:=A3.worker_le h hj
    have hdl:(x.workers.getD w.toNat default).dones.length≤(x.workers.getD w.toNat default).w:=by simp only [Ad.w];omega
    have htk:=List.length_take_le k x.news
    refine A2e 0 6 5 rfl rfl rfl ?_
    have hh:Ip x w=⟨x.graph,x.workers,x.links,x.tokens,x.news.take k++x.news.drop (k+1)⟩:=by
     unfold Ip
     rw [hat,A19]
    refine J7 rfl ?_
    refine Bi A0 false 0 rfl rfl A6 rfl (Aa D3) ?_
    refine Bi A0 false 2 rfl rfl A6 rfl (Aa D3) ?_
    refine Bi A0 false 3 rfl rfl A6 rfl (Aa D3) ?_
    refine Bi A0 false 4 rfl rfl A6 rfl (Aa D3) ?_
    refine Bi A0 false 5 rfl rfl A6 rfl (Aa D3) ?_
    refine Bi A0 false 7 rfl rfl A6 rfl (Aa D3) ?_
    refine Bi A0 false 10 rfl rfl A6 rfl (Aa D3) ?_
    refine Bi A0 false 11 rfl rfl A6 rfl (Aa D3) ?_
    refine Bi A0 false 12 rfl rfl A6 rfl (Aa D3) ?_
    refine Bi A0 false 13 rfl rfl A6 rfl (Aa D3) ?_
    refine Bi A0 false 15 rfl rfl A6 rfl (Aa D3) ?_
    refine Bi A0 false 16 rfl rfl A6 rfl (Aa D3) ?_
    refine Eh (s':=?_) 6 rfl A6 ?_ ?_
    rotate_left
    refine go A0 false ?_
    conv=>whnf
    (repeat refine Ak ?_)
    exact Ay
    refine Eh (s':=?_) 8 rfl A6 ?_ ?_
    rotate_left
    refine go A0 false ?_
    conv=>whnf
    refine Kx A0 rfl rfl rfl rfl rfl rfl rfl (l:=0) (h:=(k:Int)) rfl rfl ⟨by omega,by omega,by omega⟩ (D0 (x.news.take k)) (Ob Ag) (Af ?_)
    exact Ay
    refine Kt [9,14,17,18,19,20,21,22] [⟨1,36,.emp 3⟩] A6 ?_
    refine J2 (s1:=?_) (s2:=?_) A0 [9,14,17,18,19,20,21,22] 9 14 [14,17,18,19,20,21,22] [9,17,18,19,20,21,22] rfl rfl A6 Db Cb Cb ?_ ?_ ?_ ?_
    rotate_left 2
    refine go A0 false ?_
    conv=>whnf
    refine B4 A0 rfl rfl rfl rfl rfl rfl rfl rfl rfl rfl rfl (D0 (x.news.take k)) (Ah) (fun _=>F5 _) Ag (Af ?_)
    exact Ay
    refine B2 (s':=?_) A0 rfl A6 Db ?_ ?_
    rotate_left
    refine go A0 false ?_
    conv=>whnf
    (repeat refine Ak ?_)
    exact Ay
    refine B2 (s':=?_) A0 rfl A6 Db ?_ ?_
    rotate_left
    refine go A0 false ?_
    conv=>whnf
    refine Kx A0 rfl rfl rfl rfl rfl rfl rfl (l:=(k:Int)+1) (h:=(x.news.length:Int)) rfl rfl ⟨by omega,by omega,by omega⟩ (D0 (x.news.drop (k+1))) (G5 (k:=k+1) h1) (Af ?_)
    exact Ay
    refine B2 (s':=?_) A0 rfl A6 Db ?_ ?_
    rotate_left
    refine go A0 false ?_
    conv=>whnf
    refine B4 A0 rfl rfl rfl rfl rfl rfl rfl rfl rfl rfl rfl (D0 (x.news.take k++x.news.drop (k+1))) (Ra x.news k) (fun _=>F5 _) (by (rw [List.length_take,List.length_drop];omega)) (Af ?_)
    exact Ay
    refine B2 (s':=?_) A0 rfl A6 Db ?_ ?_
    rotate_left
    refine go A0 false ?_
    conv=>whnf
    (repeat refine Ak ?_)
    exact Ay
    refine B2 (s':=?_) A0 rfl A6 Db ?_ ?_
    rotate_left
    refine go A0 false ?_
    conv=>whnf
    (repeat refine Ak ?_)
    exact Ay
    refine B2 (s':=?_) A0 rfl A6 Db ?_ ?_
    rotate_left
    refine go A0 false ?_
    conv=>whnf
    (repeat refine Ak ?_)
    exact Ay
    refine B2 (s':=?_) A0 rfl A6 Db ?_ ?_
    rotate_left
    refine go A0 false ?_
    conv=>whnf
    (repeat refine Ak ?_)
    exact Ay
    refine Ix A0 A6 Db (GW.out (J4 ?_))
    conv=>whnf
    rotate_left 1
    refine go A0 false ?_
    conv=>whnf
    (repeat refine Ak ?_)
    exact Ay
    refine J2 (s1:=?_) (s2:=?_) A0 [9,17,18,19,20,21,22] 9 17 [17,18,19,20,21,22] [9,18,19,20,21,22] rfl rfl A6 Db Cb Cb ?_ ?_ ?_ ?_
    rotate_left 2
    refine go A0 false ?_
    conv=>whnf
    refine B4 A0 rfl rfl rfl rfl rfl rfl rfl rfl rfl rfl rfl (D0 (x.news.take k)) (Ah) (fun _=>F5 _) Ag (Af ?_)
    exact Ay
    refine B2 (s':=?_) A0 rfl A6 Db ?_ ?_
    rotate_left
    refine go A0 false ?_
    conv=>whnf
    refine Kx A0 rfl rfl rfl rfl rfl rfl rfl (l:=(k:Int)+1) (h:=(x.news.length:Int)) rfl rfl ⟨by omega,by omega,by omega⟩ (D0 (x.news.drop (k+1))) (G5 (k:=k+1) h1) (Af ?_)
    exact Ay
    refine B2 (s':=?_) A0 rfl A6 Db ?_ ?_
    rotate_left
    refine go A0 false ?_
    conv=>whnf
    refine B4 A0 rfl rfl rfl rfl rfl rfl rfl rfl rfl rfl rfl (D0 (x.news.take k++x.news.drop (k+1))) (Ra x.news k) (fun _=>F5 _) (by (rw [List.length_take,List.length_drop];omega)) (Af ?_)
    exact Ay
    refine B2 (s':=?_) A0 rfl A6 Db ?_ ?_
    rotate_left
    refine go A0 false ?_
    conv=>whnf
    (repeat refine Ak ?_)
    exact Ay
    refine B2 (s':=?_) A0 rfl A6 Db ?_ ?_
    rotate_left
    refine go A0 false ?_
    conv=>whnf
    (repeat refine Ak ?_)
    exact Ay
    refine B2 (s':=?_) A0 rfl A6 Db ?_ ?_
    rotate_left
    refine go A0 false ?_
    conv=>whnf
    (repeat refine Ak ?_)
    exact Ay
    refine B2 (s':=?_) A0 rfl A6 Db ?_ ?_
    rotate_left
    refine go A0 false ?_
    conv=>whnf
    (repeat refine Ak ?_)
    exact Ay
    refine Ix A0 A6 Db (GW.out (J4 ?_))
    conv=>whnf
    rotate_left 1
    refine go A0 false ?_
    conv=>whnf
    refine Kx A0 rfl rfl rfl rfl rfl rfl rfl (l:=(k:Int)+1) (h:=(x.news.length:Int)) rfl rfl ⟨by omega,by omega,by omega⟩ (D0 (x.news.drop (k+1))) (G5 (k:=k+1) h1) (Af ?_)
    exact Ay
    refine B2 (s':=?_) A0 rfl A6 Db ?_ ?_
    rotate_left
    refine go A0 false ?_
    conv=>whnf
    refine B4 A0 rfl rfl rfl rfl rfl rfl rfl rfl rfl rfl rfl (D0 (x.news.take k)) (Ah) (fun _=>F5 _) Ag (Af ?_)
    exact Ay
    refine B2 (s':=?_) A0 rfl A6 Db ?_ ?_
    rotate_left
    refine go A0 false ?_
    conv=>whnf
    refine B4 A0 rfl rfl rfl rfl rfl rfl rfl rfl rfl rfl rfl (D0 (x.news.take k++x.news.drop (k+1))) (Ra x.news k) (fun _=>F5 _) (by (rw [List.length_take,List.length_drop];omega)) (Af ?_)
    exact Ay
    refine B2 (s':=?_) A0 rfl A6 Db ?_ ?_
    rotate_left
    refine go A0 false ?_
    conv=>whnf
    (repeat refine Ak ?_)
    exact Ay
    refine B2 (s':=?_) A0 rfl A6 Db ?_ ?_
    rotate_left
    refine go A0 false ?_
    conv=>whnf
    (repeat refine Ak ?_)
    exact Ay
    refine B2 (s':=?_) A0 rfl A6 Db ?_ ?_
    rotate_left
    refine go A0 false ?_
    conv=>whnf
    (repeat refine Ak ?_)
    exact Ay
    refine B2 (s':=?_) A0 rfl A6 Db ?_ ?_
    rotate_left
    refine go A0 false ?_
    conv=>whnf
    (repeat refine Ak ?_)
    exact Ay
    refine Ix A0 A6 Db (GW.out (J4 ?_))
    conv=>whnf
    all_goals
     first|(refine At 6 rfl [0,2,3,4,5,6,7,8,10,11,12,13,14,15,16,17,1,9,18,19,20,21,22] A6 (Af ?_))|(refine At 7 rfl [0,1,2,3,4,5,6,7,8,9,10,11] A6 (Af ?_))|(refine At 8 rfl [0,1,2,3,4,5,6,7,8,9,10,11,12,13,14,15,16,17,18,19,20,21,22,23,24] A6 (Af ?_))
     (repeat refine Ak ?_)
     refine Qv A0 rfl rfl rfl rfl rfl (jn:=w.toNat) rfl (r:=Ad.c ((x.workers).getD (w.toNat) default)) rfl hj rfl rfl (fun u=>go A0 false ?_)
     conv=>whnf
     refine B7 (Re (x.workers.getD w.toNat default) (x.news.getD k default).epoch Ag) rfl (Af ?_)
     refine ⟨fun hd=>?_,fun hd=>?_⟩<;>conv=>whnf
     ·have hd:En (A9 x w) (Fa x w).epoch=false:=by rw [hno];exact (Bool.not_eq_true' _).mp hd
      refine K8 2 (w.toNat) [(0,10),(1,11),(2,12),(3,13),(4,14),(5,15),(6,16),(7,17)] (Ap x.workers) hj rfl rfl Lt rfl (C7 rfl) (J4 ?_)
      conv=>whnf
      refine Ny 0 3 2 rfl rfl (fun v2=>?_)
      refine Sw 0 3 rfl rfl (fun ho_v2=>?_)
      refine J7 rfl ?_
      refine Bi A0 false 0 rfl rfl A6 rfl (Aa D3) ?_
      refine Bi A0 false 1 rfl rfl A6 rfl (Aa D3) ?_
      refine Bi A0 false 2 rfl rfl A6 rfl (Aa D3) ?_
      refine Bi A0 false 3 rfl rfl A6 rfl (Aa D3) ?_
      refine Bi A0 false 5 rfl rfl A6 rfl (Aa D3) ?_
      refine Bi A0 false 6 rfl rfl A6 rfl (Aa D3) ?_
      refine Bi A0 false 7 rfl rfl A6 rfl (Aa D3) ?_
      refine Bi A0 false 8 rfl rfl A6 rfl (Aa D3) ?_
      refine Bi A0 false 9 rfl rfl A6 rfl (Aa D3) ?_
      refine Bi A0 false 11 rfl rfl A6 rfl (Aa D3) ?_
      refine Bi A0 false 15 rfl rfl A6 rfl (Aa D3) ?_
      refine Bi A0 false 17 rfl rfl A6 rfl (Aa D3) ?_
      refine Eh (s':=?_) 10 rfl A6 ?_ ?_
      rotate_left
      refine go A0 false ?_
      conv=>whnf
      refine I3 79 2 rfl rfl (Af ?_)
      (repeat refine Ak ?_)
      exact Ay
      refine Eh (s':=?_) 12 rfl A6 ?_ ?_
      rotate_left
      refine go A0 false ?_
      conv=>whnf
      (repeat refine Ak ?_)
      exact Ay
      refine Bi A0 false 13 rfl rfl A6 rfl (Aa D3) ?_
      refine M8 (α:=Value) (s':=?_) 14 rfl A6 ?_ ?_
      rotate_left
      refine go A0 false ?_
      conv=>whnf
      refine Gk A0 rfl rfl rfl rfl rfl rfl (jn:=w.toNat) rfl rfl rfl (fun v3=>go A0 false ?_)
      conv=>whnf
      exact Q3 v3
      intro v3
      refine Eh (s':=?_) 16 rfl A6 ?_ ?_
      rotate_left
      refine go A0 false ?_
      conv=>whnf
      (repeat refine Ak ?_)
      exact Ay
      refine Eh (s':=?_) 18 rfl A6 ?_ ?_
      rotate_left
      refine go A0 false ?_
      conv=>whnf
      (repeat refine Ak ?_)
      exact Ay
      refine Eh (s':=?_) 19 rfl A6 ?_ ?_
      rotate_left
      refine go A0 false ?_
      conv=>whnf
      (repeat refine Ak ?_)
      exact Ay
      refine Kt [20,21,22,23,24] [⟨4,73,.rd v2⟩] A6 ?_
      refine B2 (s':=?_) A0 rfl A6 Db ?_ ?_
      rotate_left
      refine go A0 false ?_
      conv=>whnf
      (repeat refine Ak ?_)
      exact Ay
      refine B2 (s':=?_) A0 rfl A6 Db ?_ ?_
      rotate_left
      refine go A0 false ?_
      conv=>whnf
      refine B4 A0 rfl rfl rfl rfl rfl rfl rfl rfl rfl rfl rfl (Iy ((x.workers.getD w.toNat default).dones++[⟨(x.news.getD k default).epoch,(x.news.getD k default).capped⟩])) (B5 rfl) Rt Ag (Af ?_)
      exact Ay
      refine B2 (s':=?_) A0 rfl A6 Db ?_ ?_
      rotate_left
      refine go A0 false ?_
      conv=>whnf
      refine I3 73 2 rfl rfl (Af ?_)
      (repeat refine Ak ?_)
      exact Ay
      refine B2 (s':=?_) A0 rfl A6 Db ?_ ?_
      rotate_left
      refine go A0 false ?_
      conv=>whnf
      (repeat refine Ak ?_)
      exact Ay
      refine B2 (s':=?_) A0 rfl A6 Db ?_ ?_
      rotate_left
      refine go A0 false ?_
      conv=>whnf
      refine Cu (j:=w) A0 rfl rfl rfl rfl rfl rfl rfl rfl (Ap (x.workers.set w.toNat (Fj (A9 x w) ⟨(x.news.getD k default).epoch,(x.news.getD k default).capped⟩))) (Ee hj rfl) (Af ?_)
      exact Ay
      refine Ix A0 A6 Db (GW.out (J4 ?_))
      conv=>whnf
      refine A5p Try.prog (fun _ g=>Nu 0 3 2 rfl rfl rfl g) ?_
      rw [A2h hH hd,hno,hh]
      exact C9 A0 () trivial rfl rfl rfl rfl C1
     ·have hd:En (A9 x w) (Fa x w).epoch=true:=by rw [hno];exact (Bool.not_eq_false' _).mp hd
      refine Fb Try.prog 2 (w.toNat) [(0,10),(1,11),(2,12),(3,13),(4,14),(5,15),(6,16),(7,17)] (Ap x.workers) hj rfl rfl Lt rfl (C7 rfl) ?_
      rw [A2i hH hd,hh]
      exact C9 A0 () trivial rfl rfl rfl rfl C1
  ·have hC:¬ Ar x:=of_decide_eq_false (show Aq x=false from hok)
   repeat refine Bg ?_
   rw [Yg (fun p=>hC p.1)]
   exact C9 A0 () trivial rfl rfl rfl rfl C1
 ·obtain rfl:k=x.news.length:=by omega
  repeat refine Bg ?_
  rw [Yg (fun p=>by have q:=p.2;rw [A0m he] at q;cases q)]
  exact C9 A0 () trivial rfl rfl rfl rfl C1
end Go.Proofs.Ytonodkjaoalfjaa
