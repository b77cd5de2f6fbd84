/- Part 34 of the proof that each of the laws FnStalls returns true for every input. No conditions. -/
import Derived.Test.YtonodkjaoalfjaaGreatP33
import Derived.Test.YtonodkjaoalfjaaGreatP5
import Derived.Test.YtonodkjaoalfjaaGreatP6
import Derived.Test.YtonodkjaoalfjaaGreatP17
import Derived.Test.YtonodkjaoalfjaaGreatP11
import Derived.Test.YtonodkjaoalfjaaGreatP3

set_option linter.unusedSimpArgs false
set_option linter.unusedVariables false
set_option maxRecDepth 100000
namespace Go.Proofs.YtonodkjaoalfjaaGreat
open Go.Sx
theorem C5t (d:I9):M0 Tryz.prog HT 68 d.pins [] [.one (.val d.v)] (fun r:A3×Int=>C3a r.1) (fun r=>[.agg r.1.c,.one (vi r.2)]):=by
 refine A0v A0 false Tryz.func68 rfl Bu fun B hH hp=>?_
 conv=>whnf
 refine B9a (B76 d) hp rfl (fun h0 _=>go A0 false ?_)
 conv=>whnf
 refine Fg (C4p d 0 h0 ⟨Int.le_refl _,Int.natCast_nonneg _⟩) hH hp rfl Ca rfl rfl (fun r hr=>go A0 false ?_)
 conv=>whnf
 refine O2 7 (F1 [0,0,1,1,2,3,-1,9223372036854775807]) rfl (Db rfl F3) ?_
 refine Fg (A57 d r.1 r.2.1 [0,0,1,1,2,3,-1,9223372036854775807] hr.1 Bu) hH hp rfl Ca rfl rfl (fun r2 hr2=>go A0 false ?_)
 conv=>whnf
 exact A4w A0 (r.2.2,[0,0,1,1,2,3,-1,9223372036854775807].getD r2.2.2 0) hr.2 rfl rfl Ca
theorem C2k (d:I9):M0 Tryz.prog HT 16 d.pins [] [.one (.val d.v)] (fun r:A3×Int=>C3a r.1) (fun r=>[.agg r.1.c,.one (vi r.2)]):=by
 refine A0v A0 false Tryz.func16 rfl Bu fun B hH hp=>?_
 conv=>whnf
 refine B74 (C5t d) hH hp rfl (fun r hr=>go A0 false ?_)
 conv=>whnf
 exact A4w A0 r hr rfl rfl Ca
theorem C5u (d:I9):M0 Tryz.prog HT 118 d.pins [] [.one (.val d.v)] (fun r:A3×Int=>C3a r.1) (fun r=>[.agg r.1.c,.one (vi r.2)]):=by
 refine A0v A0 false Tryz.func118 rfl Bu fun B hH hp=>?_
 conv=>whnf
 refine B9a (B76 d) hp rfl (fun h0 _=>go A0 false ?_)
 conv=>whnf
 refine Fg (C4p d 0 h0 ⟨Int.le_refl _,Int.natCast_nonneg _⟩) hH hp rfl Ca rfl rfl (fun r hr=>go A0 false ?_)
 conv=>whnf
 refine Fg (E5 d r.1 r.2.1 6 hr.1 Bu) hH hp rfl Ca rfl rfl (fun r2 hr2=>go A0 false ?_)
 conv=>whnf
 have hk9:=hr2.2.2.2 Bu
 have hk8:=hr2.2.1
 (repeat refine Ar ?_)
 exact A4w A0 (r.2.2,r2.2.2-1) hr.2 rfl rfl Ca
theorem C5s (d:I9):M0 Tryz.prog HT 69 d.pins [] [.one (.val d.v)] (fun r:A3×Int=>C3a r.1) (fun r=>[.agg r.1.c,.one (vi r.2)]):=by
 refine A0v A0 false Tryz.func69 rfl Bu fun B hH hp=>?_
 conv=>whnf
 refine B74 (C5u d) hH hp rfl (fun r hr=>go A0 false ?_)
 conv=>whnf
 exact A4w A0 r hr rfl rfl Ca
theorem C2z (d:I9):M0 Tryz.prog HT 17 d.pins [] [.one (.val d.v)] (fun r:A3×Int=>C3a r.1) (fun r=>[.agg r.1.c,.one (vi r.2)]):=by
 refine A0v A0 false Tryz.func17 rfl Bu fun B hH hp=>?_
 conv=>whnf
 refine B74 (C5s d) hH hp rfl (fun r hr=>go A0 false ?_)
 conv=>whnf
 exact A4w A0 r hr rfl rfl Ca
def B5u (p:Nat→Bool) (n:Nat):List Int:=(List.range n).flatMap fun k=>if p k then [(k:Int)] else []
theorem C04 (p:Nat→Bool)(k:Nat):B5u p (k+1)=B5u p k++if p k then [(k:Int)] else []:=Hj _ _
theorem C0v (p:Nat→Bool)(k:Nat):(B5u p k).length≤k:=by
 induction k with
 |zero=>exact Nat.le_refl _
 |succ k ih=>rw [C04,List.length_append];split<;>simp<;>omega
def C4u (w:Ab):Bool:=w.queue.length+w.staged.length+w.inputs.length==0
def C0o (x:A3) (k:Nat):Bool:=C4u (x.workers.getD k default)
theorem C2i (x:Ab):x.queue.length+x.staged.length+x.inputs.length≤x.w:=by simp only [Ab.w];omega
theorem C41 (x:Ab)(hx:x.w≤16777216):B0 Tryz.prog 78 [.agg x.c] [.one (vb (C4u x))]:=by
 have h:=C2i x
 refine Ay A0 false Tryz.func78 rfl Bu fun W=>?_
 conv=>whnf
 repeat' (first|(refine Ms ?_;conv=>whnf)|(refine Mt ?_;conv=>whnf)|(refine ⟨fun h=>?_,fun h=>?_⟩<;>conv=>whnf)|(refine Kf ?_;conv=>whnf)|fail)
 all_goals (refine Ao A0 rfl rfl ⟨?_,trivial⟩;(conv=>whnf);refine congrArg vb ?_;(first|(rw [Bool.eq_iff_iff];simp only [C4u,beq_iff_eq,beq_eq_false_iff_ne,ne_eq] at *;omega)|exact beq_eq_false_iff_ne.2 (by simp only [beq_iff_eq,beq_eq_false_iff_ne,ne_eq] at *;omega)))
theorem C4v (x:Ab)(hx:x.w≤16777216):B0 Tryz.prog 77 [.agg x.c] [.one (vb (C4u x))]:=by
 have h:=C2i x
 refine Ay A0 false Tryz.func77 rfl Bu fun W=>?_
 conv=>whnf
 (repeat refine Ar ?_)
 exact Ao A0 rfl rfl ⟨congrArg vb (by rw [Bool.eq_iff_iff];simp only [C4u,beq_iff_eq];omega),trivial⟩
theorem C5q (x:A3)(hx:x.w≤16777216)(f:Nat)(cs:List A8)(p:Nat→Bool)(hf:∀k:Nat,k<x.workers.length→B0 Tryz.prog f [.one (vi k),.ptr cs] [.one (vb (p k))]):
  B0 Tryz.prog 74 [.agg x.c,.fn f [.ptr cs]] [.one (F1 (B5u p x.workers.length))]:=by
 have hl:=A3.workers_le hx
 refine Ay A0 false Tryz.func74 rfl Bu fun W=>?_
 conv=>whnf
 refine A36 5 1 (fun i=>(fun n=>[vi n]) (([]:List Int).getD i default)) rfl ?_
 refine Bw A0 false [] (fun k:Nat=>[(10,.c (vi k))]) (fun k=>[]) (fun k=>[⟨1,F1 (B5u p k)⟩])
  (fun k=>k≤x.workers.length) (fun k=>x.workers.length-k) 0 (Nat.zero_le _) ⟨by first|rfl|simp [Dl,ren2,ren1,ren0],trivial⟩ trivial ⟨by first|rfl|exact (congrArg (fun l=>Du _ _ l) (List.append_nil _)).symm|(show (_:A8)=_;simp)|simp,trivial⟩ Dh Aa (fun k hk=>?_)
 conv=>whnf
 refine G5 (fun h'=>?_) fun h'=>?_<;>conv=>whnf
 ·have h':k<x.workers.length:=by omega
  have ht:=C04 p k
  have hn:=C0v p k
  (repeat refine Ar ?_)
  refine Aw (hf k h') rfl (Al ?_)
  refine ⟨fun hc=>?_,fun hc=>?_⟩<;>conv=>whnf
  ·(repeat refine Ar ?_)
   refine Dp A0 rfl rfl rfl rfl rfl rfl rfl rfl rfl rfl rfl (F1 (B5u p k++[(k:Int)])) (Bf rfl) M1 Ac (Al ?_)
   (repeat refine Ar ?_)
   refine B5 [(1,3)] (k+1) Ac Ac ⟨rfl,trivial⟩ ⟨congrArg F1 (by rw [ht,if_pos hc]),trivial⟩ trivial Aa Dh Aa
  ·(repeat refine Ar ?_)
   refine B5 [] (k+1) Ac Ac ⟨rfl,trivial⟩ ⟨congrArg F1 (by rw [ht,if_neg (by rw [hc];decide),List.append_nil]),trivial⟩ trivial Aa Dh Aa
 ·refine Ao A0 rfl rfl ⟨?_,trivial⟩
  exact congrArg (fun k=>F1 (B5u p k)) (show k=x.workers.length by omega)
theorem C24 (x:A3)(hx:x.w≤16777216):B0 Tryz.prog 24 [.agg x.c] [.one (F1 (B5u (C0o x) x.workers.length))]:=by
 have hl:=A3.workers_le hx
 refine Ay A0 false Tryz.func24 rfl Bu fun W=>?_
 conv=>whnf
 refine G4 1 (F1 []) rfl F8 ?_
 refine Bw A0 false [5] (fun k:Nat=>[(4,.c (vi k))]) (fun k=>[⟨0,[.c (Bp x.graph.nodes),.c (vi x.graph.workers),.c (vi x.graph.cap),.c (Be x.workers),.c (Dt x.links),.c (C0 x.tokens),.c (Ef x.news)]⟩]) (fun k=>[⟨1,F1 (B5u (C0o x) k)⟩])
  (fun k=>k≤x.workers.length) (fun k=>x.workers.length-k) 0 (Nat.zero_le _) ⟨by first|rfl|simp [Dl,ren2,ren1,ren0],trivial⟩ F3 ⟨by first|rfl|exact (congrArg (fun l=>Du _ _ l) (List.append_nil _)).symm|(show (_:A8)=_;simp)|simp,trivial⟩ Dh Aa (fun k hk=>?_)
 conv=>whnf
 refine G5 (fun h'=>?_) fun h'=>?_<;>conv=>whnf
 ·have h':k<x.workers.length:=by omega
  have hw:=Go.Sx.A3.worker_le hx h'
  have ht:=C04 (C0o x) k
  have hn:=C0v (C0o x) k
  (repeat refine Ar ?_)
  refine Aw (C41 (x.workers.getD k default) Ac) rfl (Al ?_)
  refine ⟨fun hc=>?_,fun hc=>?_⟩<;>conv=>whnf
  ·(repeat refine Ar ?_)
   refine Dp A0 rfl rfl rfl rfl rfl rfl rfl rfl rfl rfl rfl (F1 (B5u (C0o x) k++[(k:Int)])) (Bf rfl) M1 Ac (Al ?_)
   (repeat refine Ar ?_)
   refine B5 [(1,3)] (k+1) Ac Ac ⟨rfl,trivial⟩ ⟨congrArg F1 (by rw [ht,if_pos (show C0o x k=true from hc)]),trivial⟩ F3 Aa Dh Aa
  ·(repeat refine Ar ?_)
   refine B5 [] (k+1) Ac Ac ⟨rfl,trivial⟩ ⟨congrArg F1 (by rw [ht,if_neg (by rw [show C0o x k=false from hc];decide),List.append_nil]),trivial⟩ F3 Aa Dh Aa
 ·refine Ao A0 rfl rfl ⟨?_,trivial⟩
  exact congrArg (fun k=>F1 (B5u (C0o x) k)) (show k=x.workers.length by omega)
theorem C2m (x:A3)(hx:x.w≤16777216)(k:Nat)(hk:k<x.workers.length):B0 Tryz.prog 76 [.one (vi k),.ptr x.c] [.one (vb (C0o x k))]:=by
 have hl:=A3.workers_le hx
 have hw:=Go.Sx.A3.worker_le hx hk
 refine Ay A0 false Tryz.func76 rfl Bu fun W=>?_
 conv=>whnf
 (repeat refine Ar ?_)
 refine Aw (C4v (x.workers.getD k default) Ac) rfl (Al ?_)
 exact Ao A0 rfl rfl ⟨rfl,trivial⟩
theorem C0y (x:A3)(hx:x.w≤16777216):B0 Tryz.prog 23 [.agg x.c] [.one (F1 (B5u (C0o x) x.workers.length))]:=by
 refine Ay A0 false Tryz.func23 rfl Bu fun W=>?_
 conv=>whnf
 refine B4 (C5q x hx _ x.c (C0o x) (fun k hk=>C2m x hx k hk)) rfl (Al ?_)
 exact Ao A0 rfl rfl ⟨rfl,trivial⟩
def C0t (c:A3) (w:Int):Int:=Ij c.graph.workers w (B8 c w)
def C2x (c:A3) (w:Int):Prop:=(0≤w∧w<c.workers.length)∧0<(A6 c w).staged.length∧B8 c w≠w∧(0≤C0t c w∧C0t c w<c.links.length)∧(An c (C0t c w)).credits=0
instance (c:A3) (w:Int):Decidable (C2x c w):=by unfold C2x;infer_instance
def A8d (c:A3) (w:Int):Bool:=decide (C2x c w)
set_option maxHeartbeats 1000000 in
theorem C0s (x:A3)(w:Int)(hx:x.w≤16777216)(og:K9 .i64 x.graph.workers):B0 Tryz.prog 18 [.agg x.c,.one (vi w)] [.one (vb (A8d x w))]:=by
 have hl:=A3.workers_le hx
 have hl2:=A3.links_le hx
 have og2:x.graph.workers≤9223372036854775807:=og.2
 refine Ay A0 false Tryz.func18 rfl Bu fun W=>?_
 conv=>whnf
 (repeat refine Ar ?_)
 refine Aw (He w 0 (x.workers.length-1)) rfl (Al ?_)
 refine ⟨fun h0=>?_,fun h0=>?_⟩<;>conv=>whnf
 ·have h0:Eg w 0 (x.workers.length-1)=false:=by simpa using h0
  have h0:=Go.Sx.Az.1 h0
  repeat refine Bi ?_
  exact Ao A0 rfl rfl ⟨congrArg vb (decide_eq_false fun p=>h0 ⟨p.1.1,by have:=p.1.2;omega⟩),trivial⟩
 have h0:Eg w 0 (x.workers.length-1)=true:=by simpa using h0
 have h0:=Go.Sx.Am.1 h0
 have hk:w.toNat<x.workers.length:=by omega
 have hw:=A3.worker_le hx hk
 have hwk:(x.workers.getD w.toNat default)=A6 x w:=rfl
 repeat refine Bi ?_
 (repeat refine Ar ?_)
 refine ⟨fun h1=>have h1:=eq_of_beq h1;?_,fun h1=>have h1:=beq_eq_false_iff_ne.1 h1;?_⟩<;>conv=>whnf
 ·have h1:(A6 x w).staged.length=0:=by show (x.workers.getD w.toNat default).staged.length=0;omega
  repeat refine Bi ?_
  exact Ao A0 rfl rfl ⟨congrArg vb (decide_eq_false fun p=>by have:=p.2.1;omega),trivial⟩
 have h1:0<(A6 x w).staged.length:=by show 0<(x.workers.getD w.toNat default).staged.length;omega
 repeat refine Bi ?_
 first|(refine B9 3 rfl [0,1,2,3,4,5,6,7,8,9,10,11,12,13] Aa (Al ?_))
 (repeat refine Ar ?_)
 refine Aw (Tw (B7 x w).key x.graph.workers og2) rfl (Al ?_)
 have hmv:Cf (B7 x w).key x.graph.workers=B8 x w:=rfl
 rw [hmv]
 refine Aw (Qb x.graph w (B8 x w)) rfl (Al ?_)
 have hsk:Ij x.graph.workers w (B8 x w)=C0t x w:=rfl
 rw [hsk]
 refine ⟨fun h2=>have h2:=bne_iff_ne.1 h2;?_,fun h2=>have h2:=bne_eq_false_iff_eq.1 h2;?_⟩<;>conv=>whnf
 ·repeat refine Bi ?_
  (repeat refine Ar ?_)
  refine Aw (He (C0t x w) 0 (x.links.length-1)) rfl (Al ?_)
  repeat refine Bi ?_
  refine ⟨fun h3=>?_,fun h3=>?_⟩<;>conv=>whnf
  ·have h3:=Go.Sx.Am.1 h3
   repeat refine Bi ?_
   (repeat refine Ar ?_)
   have hS:A8d x w=((x.links.getD (C0t x w).toNat default).credits==0):=by
    unfold A8d
    rw [Bool.eq_iff_iff]
    simp only [decide_eq_true_eq,beq_iff_eq]
    exact ⟨fun p=>p.2.2.2.2,fun q=>⟨by omega,h1,h2,by omega,q⟩⟩
   exact Ao A0 rfl rfl ⟨congrArg vb hS,trivial⟩
  ·have h3:=Go.Sx.Az.1 h3
   repeat refine Bi ?_
   exact Ao A0 rfl rfl ⟨congrArg vb (decide_eq_false fun p=>h3 ⟨p.2.2.2.1.1,by have:=p.2.2.2.1.2;omega⟩),trivial⟩
 ·repeat refine Bi ?_
  exact Ao A0 rfl rfl ⟨congrArg vb (decide_eq_false fun p=>p.2.2.1 Ac),trivial⟩
theorem C22 (x:A3)(hx:x.w≤16777216)(og:K9 .i64 x.graph.workers)(k:Nat)(hk:k<x.workers.length):B0 Tryz.prog 75 [.one (vi k),.ptr x.c] [.one (vb (A8d x k))]:=by
 refine Ay A0 false Tryz.func75 rfl Bu fun W=>?_
 conv=>whnf
 refine Aw (C0s x k hx og) rfl (Al ?_)
 exact Ao A0 rfl rfl ⟨rfl,trivial⟩
theorem C2n (x:A3)(hx:x.w≤16777216)(og:K9 .i64 x.graph.workers):B0 Tryz.prog 21 [.agg x.c] [.one (F1 (B5u (fun k=>A8d x k) x.workers.length))]:=by
 refine Ay A0 false Tryz.func21 rfl Bu fun W=>?_
 conv=>whnf
 refine B4 (C5q x hx _ x.c (fun k=>A8d x k) (fun k hk=>C22 x hx og k hk)) rfl (Al ?_)
 exact Ao A0 rfl rfl ⟨rfl,trivial⟩
set_option maxHeartbeats 1000000 in
theorem C1h (x:A3)(w:Int)(hx:x.w≤16777216)(og:K9 .i64 x.graph.workers):B0 Tryz.prog 19 [.agg x.c,.one (vi w)] [.one (vb (A8d x w))]:=by
 have hl:=A3.workers_le hx
 have hl2:=A3.links_le hx
 have og2:x.graph.workers≤9223372036854775807:=og.2
 refine Ay A0 false Tryz.func19 rfl Bu fun W=>?_
 conv=>whnf
 (repeat refine Ar ?_)
 refine Aw (Jo w 0 (x.workers.length-1)) rfl (Al ?_)
 refine ⟨fun h0=>?_,fun h0=>?_⟩<;>conv=>whnf
 ·have h0:Eg w 0 (x.workers.length-1)=false:=by simpa using h0
  have h0:=Go.Sx.Az.1 h0
  repeat refine Bi ?_
  exact Ao A0 rfl rfl ⟨congrArg vb (decide_eq_false fun p=>h0 ⟨p.1.1,by have:=p.1.2;omega⟩),trivial⟩
 have h0:Eg w 0 (x.workers.length-1)=true:=by simpa using h0
 have h0:=Go.Sx.Am.1 h0
 have hk:w.toNat<x.workers.length:=by omega
 have hw:=A3.worker_le hx hk
 have hwk:(x.workers.getD w.toNat default)=A6 x w:=rfl
 repeat refine Bi ?_
 (repeat refine Ar ?_)
 refine ⟨fun h1=>have h1:=eq_of_beq h1;?_,fun h1=>have h1:=beq_eq_false_iff_ne.1 h1;?_⟩<;>conv=>whnf
 ·have h1:(A6 x w).staged.length=0:=by show (x.workers.getD w.toNat default).staged.length=0;omega
  repeat refine Bi ?_
  exact Ao A0 rfl rfl ⟨congrArg vb (decide_eq_false fun p=>by have:=p.2.1;omega),trivial⟩
 have h1:0<(A6 x w).staged.length:=by show 0<(x.workers.getD w.toNat default).staged.length;omega
 repeat refine Bi ?_
 first|(refine B9 3 rfl [0,1,2,3,4,5,6,7,8,9,10,11,12,13] Aa (Al ?_))
 (repeat refine Ar ?_)
 refine Aw (C08 (B7 x w).key x.graph.workers og2) rfl (Al ?_)
 have hmv:Cf (B7 x w).key x.graph.workers=B8 x w:=rfl
 rw [hmv]
 refine Aw (B6u x.graph w (B8 x w) og) rfl (Al ?_)
 have hsk:Ij x.graph.workers w (B8 x w)=C0t x w:=rfl
 rw [hsk]
 refine ⟨fun h2=>have h2:=bne_iff_ne.1 h2;?_,fun h2=>have h2:=bne_eq_false_iff_eq.1 h2;?_⟩<;>conv=>whnf
 ·repeat refine Bi ?_
  (repeat refine Ar ?_)
  refine Aw (Jo (C0t x w) 0 (x.links.length-1)) rfl (Al ?_)
  repeat refine Bi ?_
  refine ⟨fun h3=>?_,fun h3=>?_⟩<;>conv=>whnf
  ·have h3:=Go.Sx.Am.1 h3
   repeat refine Bi ?_
   (repeat refine Ar ?_)
   have hS:A8d x w=((x.links.getD (C0t x w).toNat default).credits==0):=by
    unfold A8d
    rw [Bool.eq_iff_iff]
    simp only [decide_eq_true_eq,beq_iff_eq]
    exact ⟨fun p=>p.2.2.2.2,fun q=>⟨by omega,h1,h2,by omega,q⟩⟩
   exact Ao A0 rfl rfl ⟨congrArg vb hS,trivial⟩
  ·have h3:=Go.Sx.Az.1 h3
   repeat refine Bi ?_
   exact Ao A0 rfl rfl ⟨congrArg vb (decide_eq_false fun p=>h3 ⟨p.2.2.2.1.1,by have:=p.2.2.2.1.2;omega⟩),trivial⟩
 ·repeat refine Bi ?_
  exact Ao A0 rfl rfl ⟨congrArg vb (decide_eq_false fun p=>p.2.2.1 Ac),trivial⟩
set_option maxHeartbeats 1000000 in
theorem C2r (x:A3)(hx:x.w≤16777216)(og:K9 .i64 x.graph.workers):B0 Tryz.prog 22 [.agg x.c] [.one (F1 (B5u (fun k=>A8d x k) x.workers.length))]:=by
 have hl:=A3.workers_le hx
 refine Ay A0 false Tryz.func22 rfl Bu fun W=>?_
 conv=>whnf
 refine G4 1 (F1 []) rfl F8 ?_
 refine Bw A0 false [5] (fun k:Nat=>[(4,.c (vi k))]) (fun k=>[⟨0,[.c (Bp x.graph.nodes),.c (vi x.graph.workers),.c (vi x.graph.cap),.c (Be x.workers),.c (Dt x.links),.c (C0 x.tokens),.c (Ef x.news)]⟩]) (fun k=>[⟨1,F1 (B5u (fun k=>A8d x k) k)⟩])
  (fun k=>k≤x.workers.length) (fun k=>x.workers.length-k) 0 (Nat.zero_le _) ⟨by first|rfl|simp [Dl,ren2,ren1,ren0],trivial⟩ F3 ⟨by first|rfl|exact (congrArg (fun l=>Du _ _ l) (List.append_nil _)).symm|(show (_:A8)=_;simp)|simp,trivial⟩ Dh Aa (fun k hk=>?_)
 conv=>whnf
 refine G5 (fun h'=>?_) fun h'=>?_<;>conv=>whnf
 ·have h':k<x.workers.length:=by omega
  have ht:=C04 (fun k=>A8d x k) k
  have hn:=C0v (fun k=>A8d x k) k
  (repeat refine Ar ?_)
  refine Aw (C1h x k hx og) rfl (Al ?_)
  refine ⟨fun hc=>?_,fun hc=>?_⟩<;>conv=>whnf
  ·(repeat refine Ar ?_)
   refine Dp A0 rfl rfl rfl rfl rfl rfl rfl rfl rfl rfl rfl (F1 (B5u (fun k=>A8d x k) k++[(k:Int)])) (Bf rfl) M1 Ac (Al ?_)
   (repeat refine Ar ?_)
   refine B5 [(1,3)] (k+1) Ac Ac ⟨rfl,trivial⟩ ⟨congrArg F1 (by rw [ht,if_pos (show A8d x k=true from hc)]),trivial⟩ F3 Aa Dh Aa
  ·(repeat refine Ar ?_)
   refine B5 [] (k+1) Ac Ac ⟨rfl,trivial⟩ ⟨congrArg F1 (by rw [ht,if_neg (by rw [show A8d x k=false from hc];decide),List.append_nil]),trivial⟩ F3 Aa Dh Aa
 ·refine Ao A0 rfl rfl ⟨?_,trivial⟩
  exact congrArg (fun k=>F1 (B5u (fun k=>A8d x k) k)) (show k=x.workers.length by omega)
theorem C2p (x:A3)(h:x.w≤16777216):B0 Tryz.prog 28 [.agg x.c] [.one (vi (B1w x.links:Nat))]:=by
 have hl:=A3.links_le h
 refine Ay A0 false Tryz.func28 rfl Bu fun W=>?_
 conv=>whnf
 refine Bw A0 false [] (fun k:Nat=>[(3,.c (vi (B1w (x.links.take k):Nat))),(4,.c (vi k))]) (fun k=>[⟨0,[.c (Bp x.graph.nodes),.c (vi x.graph.workers),.c (vi x.graph.cap),.c (Be x.workers),.c (Dt x.links),.c (C0 x.tokens),.c (Ef x.news)]⟩]) (fun k=>[])
  (fun k=>k≤x.links.length) (fun k=>x.links.length-k) 0 (Nat.zero_le _) ⟨by first|rfl|simp [Dl,ren2,ren1,ren0],by first|rfl|simp [Dl,ren2,ren1,ren0],trivial⟩ F3 trivial Dh Aa (fun k hk=>?_)
 conv=>whnf
 refine G5 (fun h=>?_) fun h=>?_<;>conv=>whnf
 ·have h:k<x.links.length:=by omega
  have h1:=C06 x.links k h
  have h2:=C1n (x.links.take k)
  have h3:=List.length_take_le k x.links
  first|(refine B9 5 rfl [0,1,2,3,4,5,6,7,8,9,10,11,12,13] Aa (Al ?_))
  (repeat refine Ar ?_)
  refine ⟨fun h'=>have h':=eq_of_beq h';?_,fun h'=>have h':=beq_eq_false_iff_ne.1 h';?_⟩<;>conv=>whnf
  ·have h':((x.links.getD k default).queue.length:Int)=(x.links.getD k default).cap:=h'
   rw [if_pos h'] at h1
   (repeat refine Ar ?_)
   refine B5 [] (k+1) Ac Ac ⟨congrArg (fun n=>AV.c (vi n)) Ac,rfl,trivial⟩ trivial F3 Aa Dh Aa
  ·have h':¬ ((x.links.getD k default).queue.length:Int)=(x.links.getD k default).cap:=h'
   rw [if_neg h'] at h1
   (repeat refine Ar ?_)
   refine B5 [] (k+1) Ac Ac ⟨congrArg (fun n=>AV.c (vi n)) Ac,rfl,trivial⟩ trivial F3 Aa Dh Aa
 ·exact Ao A0 rfl rfl ⟨congrArg (fun l:List C2=>vi (B1w l:Nat)) (Fi x.links k Ac).symm,trivial⟩
theorem C2l (x:A3)(h:x.w≤16777216):B0 Tryz.prog 27 [.agg x.c] [.one (vi (B1w x.links:Nat))]:=by
 have hl:=A3.links_le h
 refine Ay A0 false Tryz.func27 rfl Bu fun W=>?_
 conv=>whnf
 refine Bw A0 false [] (fun k:Nat=>[(3,.c (vi (B1w (x.links.take k):Nat))),(9,.c (vi k))]) (fun k=>[⟨0,[.c (Bp x.graph.nodes),.c (vi x.graph.workers),.c (vi x.graph.cap),.c (Be x.workers),.c (Dt x.links),.c (C0 x.tokens),.c (Ef x.news)]⟩]) (fun k=>[])
  (fun k=>k≤x.links.length) (fun k=>x.links.length-k) 0 (Nat.zero_le _) ⟨by first|rfl|simp [Dl,ren2,ren1,ren0],by first|rfl|simp [Dl,ren2,ren1,ren0],trivial⟩ F3 trivial Dh Aa (fun k hk=>?_)
 conv=>whnf
 refine G5 (fun h=>?_) fun h=>?_<;>conv=>whnf
 ·have h:k<x.links.length:=by omega
  have h1:=C06 x.links k h
  have h2:=C1n (x.links.take k)
  have h3:=List.length_take_le k x.links
  (repeat refine Ar ?_)
  refine ⟨fun h'=>have h':=eq_of_beq h';?_,fun h'=>have h':=beq_eq_false_iff_ne.1 h';?_⟩<;>conv=>whnf
  ·have h':((x.links.getD k default).queue.length:Int)=(x.links.getD k default).cap:=h'
   rw [if_pos h'] at h1
   (repeat refine Ar ?_)
   refine B5 [] (k+1) Ac Ac ⟨congrArg (fun n=>AV.c (vi n)) Ac,rfl,trivial⟩ trivial F3 Aa Dh Aa
  ·have h':¬ ((x.links.getD k default).queue.length:Int)=(x.links.getD k default).cap:=h'
   rw [if_neg h'] at h1
   (repeat refine Ar ?_)
   refine B5 [] (k+1) Ac Ac ⟨congrArg (fun n=>AV.c (vi n)) Ac,rfl,trivial⟩ trivial F3 Aa Dh Aa
 ·exact Ao A0 rfl rfl ⟨congrArg (fun l:List C2=>vi (B1w l:Nat)) (Fi x.links k Ac).symm,trivial⟩
theorem C5d (a b:Int):B0 Tryz.prog 79 [.one (vi a),.one (vi b)] [.one (vi (if b>a then b else a))]:=by
 refine Ay A0 false Tryz.func79 rfl Bu fun W=>?_
 conv=>whnf
 refine G5 (fun h=>?_) fun h=>?_<;>conv=>whnf
 ·exact Ao A0 rfl rfl ⟨congrArg vi (if_pos h),trivial⟩
 ·exact Ao A0 rfl rfl ⟨congrArg vi (if_neg h),trivial⟩
theorem C1x (x:A3)(h:x.w≤16777216):B0 Tryz.prog 26 [.agg x.c] [.one (vi (B97 x.workers))]:=by
 have hl:=A3.workers_le h
 refine Ay A0 false Tryz.func26 rfl Bu fun W=>?_
 conv=>whnf
 refine Bw A0 false [] (fun k:Nat=>[(3,.c (vi (B97 (x.workers.take k)))),(4,.c (vi k))]) (fun k=>[⟨0,[.c (Bp x.graph.nodes),.c (vi x.graph.workers),.c (vi x.graph.cap),.c (Be x.workers),.c (Dt x.links),.c (C0 x.tokens),.c (Ef x.news)]⟩]) (fun k=>[])
  (fun k=>k≤x.workers.length) (fun k=>x.workers.length-k) 0 (Nat.zero_le _) ⟨by first|rfl|simp [Dl,ren2,ren1,ren0],by first|rfl|simp [Dl,ren2,ren1,ren0],trivial⟩ F3 trivial Dh Aa (fun k hk=>?_)
 conv=>whnf
 refine G5 (fun h=>?_) fun h=>?_<;>conv=>whnf
 ·have h:k<x.workers.length:=by omega
  (repeat refine Ar ?_)
  refine Aw (C5d _ _) rfl (Al ?_)
  (repeat refine Ar ?_)
  refine B5 [] (k+1) Ac Ac ⟨congrArg (fun n=>AV.c (vi n)) (C1o x.workers k h).symm,rfl,trivial⟩ trivial F3 Aa Dh Aa
 ·exact Ao A0 rfl rfl ⟨congrArg (fun l:List Ab=>vi (B97 l)) (Fi x.workers k Ac).symm,trivial⟩
theorem C1v (x:A3)(h:x.w≤16777216):B0 Tryz.prog 25 [.agg x.c] [.one (vi (B97 x.workers))]:=by
 have hl:=A3.workers_le h
 refine Ay A0 false Tryz.func25 rfl Bu fun W=>?_
 conv=>whnf
 refine Bw A0 false [] (fun k:Nat=>[(3,.c (vi (B97 (x.workers.take k)))),(9,.c (vi k))]) (fun k=>[⟨0,[.c (Bp x.graph.nodes),.c (vi x.graph.workers),.c (vi x.graph.cap),.c (Be x.workers),.c (Dt x.links),.c (C0 x.tokens),.c (Ef x.news)]⟩]) (fun k=>[])
  (fun k=>k≤x.workers.length) (fun k=>x.workers.length-k) 0 (Nat.zero_le _) ⟨by first|rfl|simp [Dl,ren2,ren1,ren0],by first|rfl|simp [Dl,ren2,ren1,ren0],trivial⟩ F3 trivial Dh Aa (fun k hk=>?_)
 conv=>whnf
 refine G5 (fun h=>?_) fun h=>?_<;>conv=>whnf
 ·have h:k<x.workers.length:=by omega
  (repeat refine Ar ?_)
  refine B5 [] (k+1) Ac Ac ⟨congrArg (fun n=>AV.c (vi n)) (C1o x.workers k h).symm,rfl,trivial⟩ trivial F3 Aa Dh Aa
 ·exact Ao A0 rfl rfl ⟨congrArg (fun l:List Ab=>vi (B97 l)) (Fi x.workers k Ac).symm,trivial⟩
theorem C1q (a b:List Int)(ha:a.length≤16777216)(hb:b.length≤16777216):B0 Tryz.prog 20 [.one (F1 a),.one (F1 b)] [.one (vb (decide (a=b)))]:=by
 refine Ay A0 false Tryz.func20 rfl Bu fun W=>?_
 conv=>whnf
 refine ⟨fun hn=>have hn:=bne_iff_ne.1 hn;?_,fun hn=>have hn:=bne_eq_false_iff_eq.1 hn;?_⟩<;>conv=>whnf
 ·exact Ao A0 rfl rfl ⟨congrArg vb (decide_eq_false fun e=>hn (by rw [e])),trivial⟩
 refine Bw A0 false [] (fun k:Nat=>[(5,.c (vi k))]) (fun k=>[]) (fun k=>[])
  (fun k=>k≤a.length∧a.take k=b.take k) (fun k=>a.length-k) 0 ⟨Nat.zero_le _,by first|rfl|assumption|simp⟩ ⟨by first|rfl|simp [Dl,ren2,ren1,ren0],trivial⟩ trivial trivial Dh Aa (fun k hk=>?_)
 obtain ⟨hk,he⟩:=hk
 conv=>whnf
 refine G5 (fun h=>?_) fun h=>?_<;>conv=>whnf
 ·have h:k<a.length:=by omega
  have hs:=A2f a b k he h Ac
  (repeat refine Ar ?_)
  first|(refine B9 6 rfl [0,1,2,3,4,5,6,7,8] Aa (Al ?_))
  (repeat refine Ar ?_)
  refine ⟨fun hc=>?_,fun hc=>?_⟩<;>conv=>whnf
  ·have hc:(!decide (a.getD k default=b.getD k default))=true:=by rw [←C33];exact hc
   exact Ao A0 rfl rfl ⟨congrArg vb (decide_eq_false fun e=>by subst e;simp at hc),trivial⟩
  ·have hc:(!decide (a.getD k default=b.getD k default))=false:=by rw [←C33];exact hc
   (repeat refine Ar ?_)
   refine B5 [] (k+1) ⟨by omega,hs.2 (by simpa using hc)⟩ Ac ⟨rfl,trivial⟩ trivial trivial Aa Dh Aa
 ·exact Ao A0 rfl rfl ⟨congrArg vb (decide_eq_true (by rw [←Fi a k Ac,he,Fi b k Ac])),trivial⟩
theorem B8h (a:Option Addr)(n cp:Nat):B0 Tryz.prog 6 [.one (.val (.slice a n cp))] [.one (vb (decide ((n:Int)>1_048_576)))]:=by
 refine Ay A0 false Tryz.func6 rfl Bu fun W=>?_
 conv=>whnf
 exact Ao A0 rfl rfl ⟨by rfl,trivial⟩
end Go.Proofs.YtonodkjaoalfjaaGreat
