/- Part 27 of the proof that each of the laws FnTight returns true for every input. No conditions. -/
import Derived.Test.YtonodkjaoalfjaaP5
import Derived.Test.YtonodkjaoalfjaaP6
import Derived.Test.YtonodkjaoalfjaaP24
import Derived.Test.YtonodkjaoalfjaaP11
import Derived.Test.YtonodkjaoalfjaaP10

set_option linter.unusedSimpArgs false
set_option linter.unusedVariables false
set_option maxRecDepth 100000
namespace Go.Proofs.Ytonodkjaoalfjaa
open Go.Sx
def A8n (p:Nat→Bool) (n:Nat):List Int:=(List.range n).flatMap fun k=>if p k then [(k:Int)] else []
theorem A9b (p:Nat→Bool)(k:Nat):A8n p (k+1)=A8n p k++if p k then [(k:Int)] else []:=Hm _ _
theorem B1t (p:Nat→Bool)(k:Nat):(A8n p k).length≤k:=by
 induction k with
 |zero=>exact Nat.le_refl _
 |succ k ih=>rw [A9b,List.length_append];split<;>simp<;>omega
def idle (w:Ad):Bool:=w.queue.length+w.staged.length+w.inputs.length==0
def B3m (x:A3) (k:Nat):Bool:=idle (x.workers.getD k default)
theorem B3i (x:Ad):x.queue.length+x.staged.length+x.inputs.length≤x.w:=by simp only [Ad.w];omega
theorem B4h (x:Ad)(hx:x.w≤16777216):Bp Try.prog 45 [.agg x.c] [.one (vb (idle x))]:=by
 have h:=B3i x
 refine Bm A0 false Try.func45 rfl Cb fun W=>?_
 conv=>whnf
 (repeat refine Ak ?_)
 exact B1 A0 rfl rfl ⟨congrArg vb (by rw [Bool.eq_iff_iff];simp only [idle,beq_iff_eq];omega),trivial⟩
theorem B5f (x:A3)(hx:x.w≤16777216)(f:Nat)(cs:List A7)(p:Nat→Bool)(hf:∀k:Nat,k<x.workers.length→Bp Try.prog f [.one (vi k),.ptr cs] [.one (vb (p k))]):
  Bp Try.prog 37 [.agg x.c,.fn f [.ptr cs]] [.one (Ds (A8n p x.workers.length))]:=by
 have hl:=A3.workers_le hx
 refine Bm A0 false Try.func37 rfl Cb fun W=>?_
 conv=>whnf
 refine A6p 5 1 (fun i=>(fun n=>[vi n]) (([]:List Int).getD i default)) rfl ?_
 refine Cc A0 false [] (fun k:Nat=>[(10,.c (vi k))]) (fun k=>[]) (fun k=>[⟨1,Ds (A8n p k)⟩])
  (fun k=>k≤x.workers.length) (fun k=>x.workers.length-k) 0 (Nat.zero_le _) ⟨by first|rfl|simp [Dc,ren2,ren1,ren0],trivial⟩ trivial ⟨by first|rfl|exact (congrArg (fun l=>Dz _ _ l) (List.append_nil _)).symm|(show (_:A7)=_;simp)|simp,trivial⟩ Dg A6 (fun k hk=>?_)
 conv=>whnf
 refine G2 (fun h'=>?_) fun h'=>?_<;>conv=>whnf
 ·have h':k<x.workers.length:=by omega
  have ht:=A9b p k
  have hn:=B1t p k
  (repeat refine Ak ?_)
  refine B7 (hf k h') rfl (Af ?_)
  refine ⟨fun hc=>?_,fun hc=>?_⟩<;>conv=>whnf
  ·(repeat refine Ak ?_)
   refine B4 A0 rfl rfl rfl rfl rfl rfl rfl rfl rfl rfl rfl (Ds (A8n p k++[(k:Int)])) (B5 rfl) Rt Ag (Af ?_)
   (repeat refine Ak ?_)
   refine B8 [(1,3)] (k+1) Ag Ag ⟨rfl,trivial⟩ ⟨congrArg Ds (by rw [ht,if_pos hc]),trivial⟩ trivial A6 Dg A6
  ·(repeat refine Ak ?_)
   refine B8 [] (k+1) Ag Ag ⟨rfl,trivial⟩ ⟨congrArg Ds (by rw [ht,if_neg (by rw [hc];decide),List.append_nil]),trivial⟩ trivial A6 Dg A6
 ·refine B1 A0 rfl rfl ⟨?_,trivial⟩
  exact congrArg (fun k=>Ds (A8n p k)) (show k=x.workers.length by omega)
theorem B1d (x:A3)(hx:x.w≤16777216)(k:Nat)(hk:k<x.workers.length):Bp Try.prog 44 [.one (vi k),.ptr x.c] [.one (vb (B3m x k))]:=by
 have hl:=A3.workers_le hx
 have hw:=A3.worker_le hx hk
 refine Bm A0 false Try.func44 rfl Cb fun W=>?_
 conv=>whnf
 (repeat refine Ak ?_)
 refine B7 (B4h (x.workers.getD k default) Ag) rfl (Af ?_)
 exact B1 A0 rfl rfl ⟨rfl,trivial⟩
theorem B13 (x:A3)(hx:x.w≤16777216):Bp Try.prog 18 [.agg x.c] [.one (Ds (A8n (B3m x) x.workers.length))]:=by
 refine Bm A0 false Try.func18 rfl Cb fun W=>?_
 conv=>whnf
 refine Dk (B5f x hx _ x.c (B3m x) (fun k hk=>B1d x hx k hk)) rfl (Af ?_)
 exact B1 A0 rfl rfl ⟨rfl,trivial⟩
def A9y (c:A3) (w:Int):Int:=Gd c.graph.workers w (As c w)
def B1u (c:A3) (w:Int):Prop:=(0≤w∧w<c.workers.length)∧0<(A9 c w).staged.length∧As c w≠w∧(0≤A9y c w∧A9y c w<c.links.length)∧(Bc c (A9y c w)).credits=0
instance (c:A3) (w:Int):Decidable (B1u c w):=by unfold B1u;infer_instance
def A8j (c:A3) (w:Int):Bool:=decide (B1u c w)
set_option maxHeartbeats 1000000 in
theorem B1f (x:A3)(w:Int)(hx:x.w≤16777216)(og:Gs .i64 x.graph.workers):Bp Try.prog 39 [.agg x.c,.one (vi w)] [.one (vb (A8j x w))]:=by
 have hl:=A3.workers_le hx
 have hl2:=A3.links_le hx
 have og2:x.graph.workers≤9223372036854775807:=og.2
 refine Bm A0 false Try.func39 rfl Cb fun W=>?_
 conv=>whnf
 (repeat refine Ak ?_)
 refine B7 (B4i w 0 (x.workers.length-1)) rfl (Af ?_)
 refine ⟨fun h0=>?_,fun h0=>?_⟩<;>conv=>whnf
 ·have h0:Ek w 0 (x.workers.length-1)=false:=by simpa using h0
  have h0:=Go.Sx.B3.1 h0
  repeat refine Bg ?_
  exact B1 A0 rfl rfl ⟨congrArg vb (decide_eq_false fun p=>h0 ⟨p.1.1,by have:=p.1.2;omega⟩),trivial⟩
 have h0:Ek w 0 (x.workers.length-1)=true:=by simpa using h0
 have h0:=Go.Sx.Al.1 h0
 have hk:w.toNat<x.workers.length:=by omega
 have hw:=A3.worker_le hx hk
 have hwk:(x.workers.getD w.toNat default)=A9 x w:=rfl
 repeat refine Bg ?_
 (repeat refine Ak ?_)
 refine ⟨fun h1=>have h1:=eq_of_beq h1;?_,fun h1=>have h1:=beq_eq_false_iff_ne.1 h1;?_⟩<;>conv=>whnf
 ·have h1:(A9 x w).staged.length=0:=by show (x.workers.getD w.toNat default).staged.length=0;omega
  repeat refine Bg ?_
  exact B1 A0 rfl rfl ⟨congrArg vb (decide_eq_false fun p=>by have:=p.2.1;omega),trivial⟩
 have h1:0<(A9 x w).staged.length:=by show 0<(x.workers.getD w.toNat default).staged.length;omega
 repeat refine Bg ?_
 first|(refine At 3 rfl [0,1,2,3,4,5,6,7,8,9,10,11,12,13] A6 (Af ?_))
 (repeat refine Ak ?_)
 refine B7 (B2o (Au x w).key x.graph.workers og2) rfl (Af ?_)
 have hmv:De (Au x w).key x.graph.workers=As x w:=rfl
 rw [hmv]
 refine B7 (B1e x.graph w (As x w)) rfl (Af ?_)
 have hsk:Gd x.graph.workers w (As x w)=A9y x w:=rfl
 rw [hsk]
 refine ⟨fun h2=>have h2:=bne_iff_ne.1 h2;?_,fun h2=>have h2:=bne_eq_false_iff_eq.1 h2;?_⟩<;>conv=>whnf
 ·repeat refine Bg ?_
  (repeat refine Ak ?_)
  refine B7 (B4i (A9y x w) 0 (x.links.length-1)) rfl (Af ?_)
  repeat refine Bg ?_
  refine ⟨fun h3=>?_,fun h3=>?_⟩<;>conv=>whnf
  ·have h3:=Go.Sx.Al.1 h3
   repeat refine Bg ?_
   (repeat refine Ak ?_)
   have hS:A8j x w=((x.links.getD (A9y x w).toNat default).credits==0):=by
    unfold A8j
    rw [Bool.eq_iff_iff]
    simp only [decide_eq_true_eq,beq_iff_eq]
    exact ⟨fun p=>p.2.2.2.2,fun q=>⟨by omega,h1,h2,by omega,q⟩⟩
   exact B1 A0 rfl rfl ⟨congrArg vb hS,trivial⟩
  ·have h3:=Go.Sx.B3.1 h3
   repeat refine Bg ?_
   exact B1 A0 rfl rfl ⟨congrArg vb (decide_eq_false fun p=>h3 ⟨p.2.2.2.1.1,by have:=p.2.2.2.1.2;omega⟩),trivial⟩
 ·repeat refine Bg ?_
  exact B1 A0 rfl rfl ⟨congrArg vb (decide_eq_false fun p=>p.2.2.1 Ag),trivial⟩
theorem B14 (x:A3)(hx:x.w≤16777216)(og:Gs .i64 x.graph.workers)(k:Nat)(hk:k<x.workers.length):Bp Try.prog 38 [.one (vi k),.ptr x.c] [.one (vb (A8j x k))]:=by
 refine Bm A0 false Try.func38 rfl Cb fun W=>?_
 conv=>whnf
 refine B7 (B1f x k hx og) rfl (Af ?_)
 exact B1 A0 rfl rfl ⟨rfl,trivial⟩
theorem A9o (x:A3)(hx:x.w≤16777216)(og:Gs .i64 x.graph.workers):Bp Try.prog 15 [.agg x.c] [.one (Ds (A8n (fun k=>A8j x k) x.workers.length))]:=by
 refine Bm A0 false Try.func15 rfl Cb fun W=>?_
 conv=>whnf
 refine Dk (B5f x hx _ x.c (fun k=>A8j x k) (fun k hk=>B14 x hx og k hk)) rfl (Af ?_)
 exact B1 A0 rfl rfl ⟨rfl,trivial⟩
theorem B1c (x:A3)(h:x.w≤16777216):Bp Try.prog 19 [.agg x.c] [.one (vi (A78 x.links:Nat))]:=by
 have hl:=A3.links_le h
 refine Bm A0 false Try.func19 rfl Cb fun W=>?_
 conv=>whnf
 refine Cc A0 false [] (fun k:Nat=>[(3,.c (vi (A78 (x.links.take k):Nat))),(9,.c (vi k))]) (fun k=>[⟨0,[.c (Bt x.graph.nodes),.c (vi x.graph.workers),.c (vi x.graph.cap),.c (Ap x.workers),.c (D7 x.links),.c (Cl x.tokens),.c (D0 x.news)]⟩]) (fun k=>[])
  (fun k=>k≤x.links.length) (fun k=>x.links.length-k) 0 (Nat.zero_le _) ⟨by first|rfl|simp [Dc,ren2,ren1,ren0],by first|rfl|simp [Dc,ren2,ren1,ren0],trivial⟩ D8 trivial Dg A6 (fun k hk=>?_)
 conv=>whnf
 refine G2 (fun h=>?_) fun h=>?_<;>conv=>whnf
 ·have h:k<x.links.length:=by omega
  have h1:=B01 x.links k h
  have h2:=B12 (x.links.take k)
  have h3:=List.length_take_le k x.links
  (repeat refine Ak ?_)
  refine ⟨fun h'=>have h':=eq_of_beq h';?_,fun h'=>have h':=beq_eq_false_iff_ne.1 h';?_⟩<;>conv=>whnf
  ·have h':((x.links.getD k default).queue.length:Int)=(x.links.getD k default).cap:=h'
   rw [if_pos h'] at h1
   (repeat refine Ak ?_)
   refine B8 [] (k+1) Ag Ag ⟨congrArg (fun n=>AV.c (vi n)) Ag,rfl,trivial⟩ trivial D8 A6 Dg A6
  ·have h':¬ ((x.links.getD k default).queue.length:Int)=(x.links.getD k default).cap:=h'
   rw [if_neg h'] at h1
   (repeat refine Ak ?_)
   refine B8 [] (k+1) Ag Ag ⟨congrArg (fun n=>AV.c (vi n)) Ag,rfl,trivial⟩ trivial D8 A6 Dg A6
 ·exact B1 A0 rfl rfl ⟨congrArg (fun l:List C0=>vi (A78 l:Nat)) (Gr x.links k Ag).symm,trivial⟩
theorem B0c (x:A3)(h:x.w≤16777216):Bp Try.prog 20 [.agg x.c] [.one (vi (A8w x.workers))]:=by
 have hl:=A3.workers_le h
 refine Bm A0 false Try.func20 rfl Cb fun W=>?_
 conv=>whnf
 refine Cc A0 false [] (fun k:Nat=>[(3,.c (vi (A8w (x.workers.take k)))),(9,.c (vi k))]) (fun k=>[⟨0,[.c (Bt x.graph.nodes),.c (vi x.graph.workers),.c (vi x.graph.cap),.c (Ap x.workers),.c (D7 x.links),.c (Cl x.tokens),.c (D0 x.news)]⟩]) (fun k=>[])
  (fun k=>k≤x.workers.length) (fun k=>x.workers.length-k) 0 (Nat.zero_le _) ⟨by first|rfl|simp [Dc,ren2,ren1,ren0],by first|rfl|simp [Dc,ren2,ren1,ren0],trivial⟩ D8 trivial Dg A6 (fun k hk=>?_)
 conv=>whnf
 refine G2 (fun h=>?_) fun h=>?_<;>conv=>whnf
 ·have h:k<x.workers.length:=by omega
  (repeat refine Ak ?_)
  refine B8 [] (k+1) Ag Ag ⟨congrArg (fun n=>AV.c (vi n)) (B15 x.workers k h).symm,rfl,trivial⟩ trivial D8 A6 Dg A6
 ·exact B1 A0 rfl rfl ⟨congrArg (fun l:List Ad=>vi (A8w l)) (Gr x.workers k Ag).symm,trivial⟩
theorem A0l (e:Int)(b:Bool)(k:Nat):(K6 e b k).length=k:=by rw [K6,List.length_map,List.length_range]
theorem Ww (e:Int)(b:Bool)(k:Nat):K6 e b (k+1)=K6 e b k++[⟨(k:Int)+1,e,b⟩]:=by
 rw [K6,List.range_succ,List.map_append]
 rfl
set_option maxHeartbeats 4000000 in
theorem Vz (x:A3)(e:Int)(cap ok:Bool)(h:x.w≤16000000)(h0:0<x.workers.length):
  Dq Try.prog (fun _=>True) 80 [] (O4 x ok) [.one (vi e),.one (vb cap)] (fun _:Unit=>True) (fun _=>O4 (Mj (Av x 0 (Fj (x.workers.getD 0 default) ⟨e,cap⟩)) (K6 e cap (x.workers.length-1))) ok) (fun _=>[]):=by
 have hw:=A3.worker_le h h0
 have hnl:=A3.news_le h
 have hwl:=A3.workers_le h
 have hdl:(x.workers.getD 0 default).dones.length≤16000000:=by simp only [Ad.w] at hw;omega
 refine Ex A0 false Try.func80 rfl Cb fun B b hH hp=>?_
 conv=>whnf
 refine Ny 0 3 2 rfl rfl (fun v2=>?_)
 refine Sw 0 3 rfl rfl (fun ho_v2=>?_)
 refine J7 rfl ?_
 refine Bi A0 false 0 rfl rfl A6 rfl (Aa D3) ?_
 refine Bi A0 false 1 rfl rfl A6 rfl (Aa D3) ?_
 refine Bi A0 false 2 rfl rfl A6 rfl (Aa D3) ?_
 refine Bi A0 false 3 rfl rfl A6 rfl (Aa D3) ?_
 refine Bi A0 false 5 rfl rfl A6 rfl (Aa D3) ?_
 refine Bi A0 false 6 rfl rfl A6 rfl (Aa D3) ?_
 refine Bi A0 false 7 rfl rfl A6 rfl (Aa D3) ?_
 refine Bi A0 false 8 rfl rfl A6 rfl (Aa D3) ?_
 refine Bi A0 false 13 rfl rfl A6 rfl (Aa D3) ?_
 refine Bi A0 false 14 rfl rfl A6 rfl (Aa D3) ?_
 refine Eh (s':=?_) 9 rfl A6 ?_ ?_
 rotate_left
 refine go A0 false ?_
 conv=>whnf
 (repeat refine Ak ?_)
 exact Ay
 refine Eh (s':=?_) 10 rfl A6 ?_ ?_
 rotate_left
 refine go A0 false ?_
 conv=>whnf
 refine I3 16 2 rfl rfl (Af ?_)
 (repeat refine Ak ?_)
 exact Ay
 refine Bi A0 false 11 rfl rfl A6 rfl (Aa D3) ?_
 refine M8 (α:=Value) (s':=?_) 12 rfl A6 ?_ ?_
 rotate_left
 refine go A0 false ?_
 conv=>whnf
 refine Gk A0 rfl rfl rfl rfl rfl rfl (jn:=0) rfl rfl rfl (fun v=>go A0 false ?_)
 conv=>whnf
 exact Q3 v
 intro v
 refine Eh (s':=?_) 15 rfl A6 ?_ ?_
 rotate_left
 refine go A0 false ?_
 conv=>whnf
 (repeat refine Ak ?_)
 exact Ay
 refine Kt [16,17,18,19,20] [⟨4,11,.rd v2⟩] A6 ?_
 refine B2 (s':=?_) A0 rfl A6 Db ?_ ?_
 rotate_left
 refine go A0 false ?_
 conv=>whnf
 (repeat refine Ak ?_)
 exact Ay
 refine B2 (s':=?_) A0 rfl A6 Db ?_ ?_
 rotate_left
 refine go A0 false ?_
 conv=>whnf
 refine B4 A0 rfl rfl rfl rfl rfl rfl rfl rfl rfl rfl rfl (Iy ((x.workers.getD 0 default).dones++[⟨e,cap⟩])) (B5 rfl) Rt Ag (Af ?_)
 exact Ay
 refine B2 (s':=?_) A0 rfl A6 Db ?_ ?_
 rotate_left
 refine go A0 false ?_
 conv=>whnf
 refine I3 11 2 rfl rfl (Af ?_)
 (repeat refine Ak ?_)
 exact Ay
 refine B2 (s':=?_) A0 rfl A6 Db ?_ ?_
 rotate_left
 refine go A0 false ?_
 conv=>whnf
 (repeat refine Ak ?_)
 exact Ay
 refine B2 (s':=?_) A0 rfl A6 Db ?_ ?_
 rotate_left
 refine go A0 false ?_
 conv=>whnf
 refine Cu (j:=0) A0 rfl rfl rfl rfl rfl rfl rfl rfl (Ap (x.workers.set 0 (Fj (x.workers.getD 0 default) ⟨e,cap⟩))) (Ee h0 rfl) (Af ?_)
 exact Ay
 refine Ix A0 A6 Db (GW.out (J4 ?_))
 conv=>whnf
 refine Nu 0 3 2 rfl rfl rfl ?_
 refine Cc A0 false [7,8,9,10,11,12,13,14,15,16,17,18,19,20,21,22,23,24,25,26] (fun k:Nat=>[(6,.c (vi (k+1)))]) (fun k=>[⟨0,[.own 1,.c (vi x.graph.workers),.c (vi x.graph.cap),.own 2,.own 3,.own 4,.own 5,.c (vb ok)]⟩]) (fun k=>[⟨1,Bt x.graph.nodes⟩,⟨2,Ap (x.workers.set 0 (Fj (x.workers.getD 0 default) ⟨e,cap⟩))⟩,⟨3,D7 x.links⟩,⟨4,Cl x.tokens⟩,⟨5,D0 (x.news++K6 e cap k)⟩])
  (fun k=>k≤(x.workers.length-1)) (fun k=>(x.workers.length-1)-k) 0 (Nat.zero_le _) ⟨by first|rfl|simp [Dc,ren2,ren1,ren0],trivial⟩ D8 ⟨by first|rfl|exact (congrArg (fun l=>Dz _ _ l) (List.append_nil _)).symm|(show (_:A7)=_;simp)|simp,by first|rfl|exact (congrArg (fun l=>Dz _ _ l) (List.append_nil _)).symm|(show (_:A7)=_;simp)|simp,by first|rfl|exact (congrArg (fun l=>Dz _ _ l) (List.append_nil _)).symm|(show (_:A7)=_;simp)|simp,by first|rfl|exact (congrArg (fun l=>Dz _ _ l) (List.append_nil _)).symm|(show (_:A7)=_;simp)|simp,by first|rfl|exact (congrArg (fun l=>Dz _ _ l) (List.append_nil _)).symm|(show (_:A7)=_;simp)|simp,trivial⟩ Dg A6 (fun k hk=>?_)
 conv=>whnf
 refine G2 (fun hg=>?_) fun hg=>?_<;>conv=>whnf
 ·rw [List.length_set] at hg
  refine B4 A0 rfl rfl rfl rfl rfl rfl rfl rfl rfl rfl rfl (D0 (x.news++K6 e cap k++[⟨k+1,e,cap⟩])) (B5 rfl) Rt (by rw [List.length_append,A0l];omega) (Af ?_)
  (repeat refine Ak ?_)
  refine B8 [(0,0),(1,1),(2,2),(3,3),(4,4),(5,10)] (k+1) Ag Ag ⟨by rw [Int.natCast_add];rfl,trivial⟩ ⟨rfl,rfl,rfl,rfl,by show (_:A7)=_;rw [Ww,←List.append_assoc],trivial⟩ D8 A6 Dg A6
 ·rw [List.length_set] at hg
  repeat refine Bg ?_
  obtain rfl:k=x.workers.length-1:=by omega
  exact A6e (C9 A0 () trivial rfl rfl rfl rfl C1)
end Go.Proofs.Ytonodkjaoalfjaa
