/- Part 34 of the proof that each of the laws FnExactRunScriptOf, FnExactSpreadResult returns true for every input. No conditions. -/
import Derived.Test.YtlbmkgkmbjadcaaGreatP5
import Derived.Test.YtlbmkgkmbjadcaaGreatP31
import Derived.Test.YtlbmkgkmbjadcaaGreatP33

set_option linter.unusedSimpArgs false
set_option linter.unusedVariables false
set_option maxRecDepth 100000
namespace Go.Proofs.YtlbmkgkmbjadcaaGreat
open Go.Sx
theorem Xo (l:List B7)(k:Nat):Rf (l.take k).length (l.drop (k+1)).length 3 (fun i=>B7.c ((l.take k).getD i default)) (fun i=>B7.c ((l.drop (k+1)).getD i default)) (C3 (l.take k++l.drop (k+1))):=V3 3 B7.c _ _
theorem A5w {c:A4}{w:Int}{k:Nat}(hk:k<c.news.length)(hb:∀i,i<k→Hd w (c.news.getD i default)=false)(h:Hd w (c.news.getD k default)=true):Kn c w=k∧c.news.any (Hd w)=true:=⟨Nh _ _ k hk hb h,K7 hk h⟩
theorem A9r {c:A4}{w:Int}(hb:∀i,i<c.news.length→Hd w (c.news.getD i default)=false):c.news.any (Hd w)=false:=by
 rw [List.any_eq_false]
 intro y hy
 obtain ⟨i,hi,rfl⟩:=List.getElem_of_mem hy
 have:=hb i hi
 rw [show c.news.getD i default=c.news[i] by simp [List.getD,hi]] at this
 simpa using this
set_option maxHeartbeats 8000000 in
theorem B3f (x:A4)(w:Int)(h:x.w≤16000000):J0 Tryz.prog (fun _=>True) 149 [] (rc x) [.one (vi w)] (fun _:Unit=>True) (fun _=>Te (Eo x w).1 (B8 x)) (fun _=>[.one (vb (Eo x w).2)]):=by
 have hnl:=A4.news_le h
 refine Kl A0 false Tryz.func149 rfl Bs fun B b hH hp=>?_
 conv=>whnf
 refine B6 A0 false [6] (fun k:Nat=>[(5,.c (vi k))]) (fun k=>[⟨0,[.own 1,.c (vi x.graph.workers),.c (vi x.graph.cap),.own 2,.own 3,.own 4,.own 5,.c (vb (B8 x))]⟩]) (fun k=>[⟨1,Bb x.graph.nodes⟩,⟨2,Ap x.workers⟩,⟨3,Bu x.links⟩,⟨4,Be x.tokens⟩,⟨5,C3 x.news⟩])
  (fun k=>k≤x.news.length∧∀i,i<k→Hd w (x.news.getD i default)=false) (fun k=>x.news.length-k) 0 ⟨Nat.zero_le _,by first|rfl|assumption|simp⟩ ⟨by first|rfl|simp [Cr,ren2,ren1,ren0],trivial⟩ Cp ⟨by first|rfl|exact (congrArg (fun l=>Cb _ _ l) (List.append_nil _)).symm|(show (_:Ab)=_;simp)|simp,by first|rfl|exact (congrArg (fun l=>Cb _ _ l) (List.append_nil _)).symm|(show (_:Ab)=_;simp)|simp,by first|rfl|exact (congrArg (fun l=>Cb _ _ l) (List.append_nil _)).symm|(show (_:Ab)=_;simp)|simp,by first|rfl|exact (congrArg (fun l=>Cb _ _ l) (List.append_nil _)).symm|(show (_:Ab)=_;simp)|simp,by first|rfl|exact (congrArg (fun l=>Cb _ _ l) (List.append_nil _)).symm|(show (_:Ab)=_;simp)|simp,trivial⟩ Cc A5 (fun k hk=>?_)
 obtain ⟨hk,he⟩:=hk
 conv=>whnf
 conv=>whnf
 refine F2 (fun h1=>?_) fun h1=>?_<;>conv=>whnf
 ·have h1:k<x.news.length:=by omega
  repeat refine B9 ?_
  refine ⟨fun hok=>?_,fun hok=>?_⟩<;>conv=>whnf
  ·have hC:Bg x:=of_decide_eq_true (show B8 x=true from hok)
   repeat refine B9 ?_
   (repeat refine An ?_)
   refine ⟨fun h2=>have h2:=bne_iff_ne.1 h2;?_,fun h2=>have h2:=bne_eq_false_iff_eq.1 h2;?_⟩<;>conv=>whnf
   ·rw [Int.toNat_natCast] at h2
    have h2':Hd w (x.news.getD k default)=false:=by simpa [Hd] using h2
    (repeat refine An ?_)
    refine At [] (k+1) ⟨by omega,fun i hi=>(Nat.lt_succ_iff_lt_or_eq.1 hi).elim (fun h4=>he i h4) (fun h4=>by subst h4;exact h2')⟩ Ad ⟨rfl,trivial⟩ ⟨rfl,rfl,rfl,rfl,rfl,trivial⟩ Cp A5 Cc A5
   ·rw [Int.toNat_natCast] at h2
    have h2':Hd w (x.news.getD k default)=true:=by simpa [Hd] using h2
    obtain ⟨hat,hA⟩:=A5w h1 he h2'
    have hH:Bg x∧x.news.any (Hd w)=true:=⟨hC,hA⟩
    have hno:F5 x w=x.news.getD k default:=by unfold F5;rw [hat]
    have hwn:=hC.2.2.2.2 _ (B2 (d:=default) h1)
    have hwl:=hC.1.2.1
    have hwb:0≤w∧w<x.workers.length:=by
     have:=hwn.1
     omega
    have hj:w.toNat<x.workers.length:=by omega
    have hww:=A4.worker_le h hj
    have hdl:(x.workers.getD w.toNat default).dones.length≤(x.workers.getD w.toNat default).w:=by simp only [A6.w];omega
    have htk:=List.length_take_le k x.news
    refine B12 0 6 5 rfl rfl rfl ?_
    have hh:P0 x w=⟨x.graph,x.workers,x.links,x.tokens,x.news.take k++x.news.drop (k+1)⟩:=by
     unfold P0
     rw [hat,Vw]
    refine Gl rfl ?_
    refine Bk A0 false 0 rfl rfl A5 rfl (Af D7) ?_
    refine Bk A0 false 2 rfl rfl A5 rfl (Af D7) ?_
    refine Bk A0 false 3 rfl rfl A5 rfl (Af D7) ?_
    refine Bk A0 false 4 rfl rfl A5 rfl (Af D7) ?_
    refine Bk A0 false 5 rfl rfl A5 rfl (Af D7) ?_
    refine Bk A0 false 7 rfl rfl A5 rfl (Af D7) ?_
    refine Bk A0 false 10 rfl rfl A5 rfl (Af D7) ?_
    refine Bk A0 false 11 rfl rfl A5 rfl (Af D7) ?_
    refine Bk A0 false 12 rfl rfl A5 rfl (Af D7) ?_
    refine Bk A0 false 13 rfl rfl A5 rfl (Af D7) ?_
    refine Bk A0 false 15 rfl rfl A5 rfl (Af D7) ?_
    refine Bk A0 false 16 rfl rfl A5 rfl (Af D7) ?_
    refine Cj (s':=?_) 6 rfl A5 ?_ ?_
    rotate_left
    refine go A0 false ?_
    conv=>whnf
    (repeat refine An ?_)
    exact Ax
    refine Cj (s':=?_) 8 rfl A5 ?_ ?_
    rotate_left
    refine go A0 false ?_
    conv=>whnf
    refine O0 A0 rfl rfl rfl rfl rfl rfl rfl (l:=0) (h:=(k:Int)) rfl rfl ⟨by omega,by omega,by omega⟩ (C3 (x.news.take k)) (To Ad) (Ae ?_)
    exact Ax
    refine Jo [9,14,17,18,19,20,21,22] [⟨1,36,.emp 3⟩] A5 ?_
    refine Jf (s1:=?_) (s2:=?_) A0 [9,14,17,18,19,20,21,22] 9 14 [14,17,18,19,20,21,22] [9,17,18,19,20,21,22] rfl rfl A5 Jk Bs Bs ?_ ?_ ?_ ?_
    rotate_left 2
    refine go A0 false ?_
    conv=>whnf
    refine Bm A0 rfl rfl rfl rfl rfl rfl rfl rfl rfl rfl rfl (C3 (x.news.take k)) (B1) (fun _=>Fh _) Ad (Ae ?_)
    exact Ax
    refine Bf (s':=?_) A0 rfl A5 Jk ?_ ?_
    rotate_left
    refine go A0 false ?_
    conv=>whnf
    (repeat refine An ?_)
    exact Ax
    refine Bf (s':=?_) A0 rfl A5 Jk ?_ ?_
    rotate_left
    refine go A0 false ?_
    conv=>whnf
    refine O0 A0 rfl rfl rfl rfl rfl rfl rfl (l:=(k:Int)+1) (h:=(x.news.length:Int)) rfl rfl ⟨by omega,by omega,by omega⟩ (C3 (x.news.drop (k+1))) (G9 (k:=k+1) h1) (Ae ?_)
    exact Ax
    refine Bf (s':=?_) A0 rfl A5 Jk ?_ ?_
    rotate_left
    refine go A0 false ?_
    conv=>whnf
    refine Bm A0 rfl rfl rfl rfl rfl rfl rfl rfl rfl rfl rfl (C3 (x.news.take k++x.news.drop (k+1))) (Xo x.news k) (fun _=>Fh _) (by (rw [List.length_take,List.length_drop];omega)) (Ae ?_)
    exact Ax
    refine Bf (s':=?_) A0 rfl A5 Jk ?_ ?_
    rotate_left
    refine go A0 false ?_
    conv=>whnf
    (repeat refine An ?_)
    exact Ax
    refine Bf (s':=?_) A0 rfl A5 Jk ?_ ?_
    rotate_left
    refine go A0 false ?_
    conv=>whnf
    (repeat refine An ?_)
    exact Ax
    refine Bf (s':=?_) A0 rfl A5 Jk ?_ ?_
    rotate_left
    refine go A0 false ?_
    conv=>whnf
    (repeat refine An ?_)
    exact Ax
    refine Bf (s':=?_) A0 rfl A5 Jk ?_ ?_
    rotate_left
    refine go A0 false ?_
    conv=>whnf
    (repeat refine An ?_)
    exact Ax
    refine I7 A0 A5 Jk (GW.out (Iy ?_))
    conv=>whnf
    rotate_left 1
    refine go A0 false ?_
    conv=>whnf
    (repeat refine An ?_)
    exact Ax
    refine Jf (s1:=?_) (s2:=?_) A0 [9,17,18,19,20,21,22] 9 17 [17,18,19,20,21,22] [9,18,19,20,21,22] rfl rfl A5 Jk Bs Bs ?_ ?_ ?_ ?_
    rotate_left 2
    refine go A0 false ?_
    conv=>whnf
    refine Bm A0 rfl rfl rfl rfl rfl rfl rfl rfl rfl rfl rfl (C3 (x.news.take k)) (B1) (fun _=>Fh _) Ad (Ae ?_)
    exact Ax
    refine Bf (s':=?_) A0 rfl A5 Jk ?_ ?_
    rotate_left
    refine go A0 false ?_
    conv=>whnf
    refine O0 A0 rfl rfl rfl rfl rfl rfl rfl (l:=(k:Int)+1) (h:=(x.news.length:Int)) rfl rfl ⟨by omega,by omega,by omega⟩ (C3 (x.news.drop (k+1))) (G9 (k:=k+1) h1) (Ae ?_)
    exact Ax
    refine Bf (s':=?_) A0 rfl A5 Jk ?_ ?_
    rotate_left
    refine go A0 false ?_
    conv=>whnf
    refine Bm A0 rfl rfl rfl rfl rfl rfl rfl rfl rfl rfl rfl (C3 (x.news.take k++x.news.drop (k+1))) (Xo x.news k) (fun _=>Fh _) (by (rw [List.length_take,List.length_drop];omega)) (Ae ?_)
    exact Ax
    refine Bf (s':=?_) A0 rfl A5 Jk ?_ ?_
    rotate_left
    refine go A0 false ?_
    conv=>whnf
    (repeat refine An ?_)
    exact Ax
    refine Bf (s':=?_) A0 rfl A5 Jk ?_ ?_
    rotate_left
    refine go A0 false ?_
    conv=>whnf
    (repeat refine An ?_)
    exact Ax
    refine Bf (s':=?_) A0 rfl A5 Jk ?_ ?_
    rotate_left
    refine go A0 false ?_
    conv=>whnf
    (repeat refine An ?_)
    exact Ax
    refine Bf (s':=?_) A0 rfl A5 Jk ?_ ?_
    rotate_left
    refine go A0 false ?_
    conv=>whnf
    (repeat refine An ?_)
    exact Ax
    refine I7 A0 A5 Jk (GW.out (Iy ?_))
    conv=>whnf
    rotate_left 1
    refine go A0 false ?_
    conv=>whnf
    refine O0 A0 rfl rfl rfl rfl rfl rfl rfl (l:=(k:Int)+1) (h:=(x.news.length:Int)) rfl rfl ⟨by omega,by omega,by omega⟩ (C3 (x.news.drop (k+1))) (G9 (k:=k+1) h1) (Ae ?_)
    exact Ax
    refine Bf (s':=?_) A0 rfl A5 Jk ?_ ?_
    rotate_left
    refine go A0 false ?_
    conv=>whnf
    refine Bm A0 rfl rfl rfl rfl rfl rfl rfl rfl rfl rfl rfl (C3 (x.news.take k)) (B1) (fun _=>Fh _) Ad (Ae ?_)
    exact Ax
    refine Bf (s':=?_) A0 rfl A5 Jk ?_ ?_
    rotate_left
    refine go A0 false ?_
    conv=>whnf
    refine Bm A0 rfl rfl rfl rfl rfl rfl rfl rfl rfl rfl rfl (C3 (x.news.take k++x.news.drop (k+1))) (Xo x.news k) (fun _=>Fh _) (by (rw [List.length_take,List.length_drop];omega)) (Ae ?_)
    exact Ax
    refine Bf (s':=?_) A0 rfl A5 Jk ?_ ?_
    rotate_left
    refine go A0 false ?_
    conv=>whnf
    (repeat refine An ?_)
    exact Ax
    refine Bf (s':=?_) A0 rfl A5 Jk ?_ ?_
    rotate_left
    refine go A0 false ?_
    conv=>whnf
    (repeat refine An ?_)
    exact Ax
    refine Bf (s':=?_) A0 rfl A5 Jk ?_ ?_
    rotate_left
    refine go A0 false ?_
    conv=>whnf
    (repeat refine An ?_)
    exact Ax
    refine Bf (s':=?_) A0 rfl A5 Jk ?_ ?_
    rotate_left
    refine go A0 false ?_
    conv=>whnf
    (repeat refine An ?_)
    exact Ax
    refine I7 A0 A5 Jk (GW.out (Iy ?_))
    conv=>whnf
    all_goals
     first|(refine Ak 6 rfl [0,2,3,4,5,6,7,8,10,11,12,13,14,15,16,17,1,9,18,19,20,21,22] A5 (Ae ?_))|(refine Ak 7 rfl [0,1,2,3,4,5,6,7,8,9,10,11] A5 (Ae ?_))|(refine Ak 8 rfl [0,1,2,3,4,5,6,7,8,9,10,11,12,13,14,15,16,17,18,19,20,21,22,23,24] A5 (Ae ?_))
     (repeat refine An ?_)
     refine Qg A0 rfl rfl rfl rfl rfl (jn:=w.toNat) rfl (r:=A6.c ((x.workers).getD (w.toNat) default)) rfl hj rfl rfl (fun u=>go A0 false ?_)
     conv=>whnf
     refine Ai (Xs (x.workers.getD w.toNat default) (x.news.getD k default).epoch Ad) rfl (Ae ?_)
     refine ⟨fun hd=>?_,fun hd=>?_⟩<;>conv=>whnf
     ·have hd:Gp (Ag x w) (F5 x w).epoch=false:=by rw [hno];exact (Bool.not_eq_true' _).mp hd
      refine Kv 2 (w.toNat) [(0,10),(1,11),(2,12),(3,13),(4,14),(5,15),(6,16),(7,17)] (Ap x.workers) hj rfl rfl Lw rfl (Cm rfl) (Iy ?_)
      conv=>whnf
      refine R5 0 3 2 rfl rfl (fun v2=>?_)
      refine Wy 0 3 rfl rfl (fun ho_v2=>?_)
      refine Gl rfl ?_
      refine Bk A0 false 0 rfl rfl A5 rfl (Af D7) ?_
      refine Bk A0 false 1 rfl rfl A5 rfl (Af D7) ?_
      refine Bk A0 false 2 rfl rfl A5 rfl (Af D7) ?_
      refine Bk A0 false 3 rfl rfl A5 rfl (Af D7) ?_
      refine Bk A0 false 5 rfl rfl A5 rfl (Af D7) ?_
      refine Bk A0 false 6 rfl rfl A5 rfl (Af D7) ?_
      refine Bk A0 false 7 rfl rfl A5 rfl (Af D7) ?_
      refine Bk A0 false 8 rfl rfl A5 rfl (Af D7) ?_
      refine Bk A0 false 9 rfl rfl A5 rfl (Af D7) ?_
      refine Bk A0 false 11 rfl rfl A5 rfl (Af D7) ?_
      refine Bk A0 false 15 rfl rfl A5 rfl (Af D7) ?_
      refine Bk A0 false 17 rfl rfl A5 rfl (Af D7) ?_
      refine Cj (s':=?_) 10 rfl A5 ?_ ?_
      rotate_left
      refine go A0 false ?_
      conv=>whnf
      refine A8p 79 2 rfl rfl (Ae ?_)
      (repeat refine An ?_)
      exact Ax
      refine Cj (s':=?_) 12 rfl A5 ?_ ?_
      rotate_left
      refine go A0 false ?_
      conv=>whnf
      (repeat refine An ?_)
      exact Ax
      refine Bk A0 false 13 rfl rfl A5 rfl (Af D7) ?_
      refine Pe (α:=Value) (s':=?_) 14 rfl A5 ?_ ?_
      rotate_left
      refine go A0 false ?_
      conv=>whnf
      refine Ij A0 rfl rfl rfl rfl rfl rfl (jn:=w.toNat) rfl rfl rfl (fun v3=>go A0 false ?_)
      conv=>whnf
      exact Tx v3
      intro v3
      refine Cj (s':=?_) 16 rfl A5 ?_ ?_
      rotate_left
      refine go A0 false ?_
      conv=>whnf
      (repeat refine An ?_)
      exact Ax
      refine Cj (s':=?_) 18 rfl A5 ?_ ?_
      rotate_left
      refine go A0 false ?_
      conv=>whnf
      (repeat refine An ?_)
      exact Ax
      refine Cj (s':=?_) 19 rfl A5 ?_ ?_
      rotate_left
      refine go A0 false ?_
      conv=>whnf
      (repeat refine An ?_)
      exact Ax
      refine Jo [20,21,22,23,24] [⟨4,73,.rd v2⟩] A5 ?_
      refine Bf (s':=?_) A0 rfl A5 Jk ?_ ?_
      rotate_left
      refine go A0 false ?_
      conv=>whnf
      (repeat refine An ?_)
      exact Ax
      refine Bf (s':=?_) A0 rfl A5 Jk ?_ ?_
      rotate_left
      refine go A0 false ?_
      conv=>whnf
      refine Bm A0 rfl rfl rfl rfl rfl rfl rfl rfl rfl rfl rfl (Er ((x.workers.getD w.toNat default).dones++[⟨(x.news.getD k default).epoch,(x.news.getD k default).capped⟩])) (Bh rfl) Ef Ad (Ae ?_)
      exact Ax
      refine Bf (s':=?_) A0 rfl A5 Jk ?_ ?_
      rotate_left
      refine go A0 false ?_
      conv=>whnf
      refine A8p 73 2 rfl rfl (Ae ?_)
      (repeat refine An ?_)
      exact Ax
      refine Bf (s':=?_) A0 rfl A5 Jk ?_ ?_
      rotate_left
      refine go A0 false ?_
      conv=>whnf
      (repeat refine An ?_)
      exact Ax
      refine Bf (s':=?_) A0 rfl A5 Jk ?_ ?_
      rotate_left
      refine go A0 false ?_
      conv=>whnf
      refine Bj (j:=w) A0 rfl rfl rfl rfl rfl rfl rfl rfl (Ap (x.workers.set w.toNat (H8 (Ag x w) ⟨(x.news.getD k default).epoch,(x.news.getD k default).capped⟩))) (Fj hj rfl) (Ae ?_)
      exact Ax
      refine I7 A0 A5 Jk (GW.out (Iy ?_))
      conv=>whnf
      refine A96 Tryz.prog (fun _ g=>R4 0 3 2 rfl rfl rfl g) ?_
      rw [A20 hH hd,hno,hh]
      exact Ez A0 () trivial rfl rfl rfl rfl C1
     ·have hd:Gp (Ag x w) (F5 x w).epoch=true:=by rw [hno];exact (Bool.not_eq_false' _).mp hd
      refine F6 Tryz.prog 2 (w.toNat) [(0,10),(1,11),(2,12),(3,13),(4,14),(5,15),(6,16),(7,17)] (Ap x.workers) hj rfl rfl Lw rfl (Cm rfl) ?_
      rw [A21 hH hd,hh]
      exact Ez A0 () trivial rfl rfl rfl rfl C1
  ·have hC:¬ Bg x:=of_decide_eq_false (show B8 x=false from hok)
   repeat refine B9 ?_
   rw [Uy (fun p=>hC p.1)]
   exact Ez A0 () trivial rfl rfl rfl rfl C1
 ·obtain rfl:k=x.news.length:=by omega
  repeat refine B9 ?_
  rw [Uy (fun p=>by have q:=p.2;rw [A9r he] at q;cases q)]
  exact Ez A0 () trivial rfl rfl rfl rfl C1
end Go.Proofs.YtlbmkgkmbjadcaaGreat
