/- Part 20 of the proof that each of the laws FnExactRunScriptOf, FnExactSpreadResult returns true for every input. No conditions. -/
import Derived.Test.YtlbmkgkmbjadcaaGreatP5
import Derived.Test.YtlbmkgkmbjadcaaGreatP19
import Derived.Test.YtlbmkgkmbjadcaaGreatP9

set_option linter.unusedSimpArgs false
set_option linter.unusedVariables false
set_option maxRecDepth 100000
namespace Go.Proofs.YtlbmkgkmbjadcaaGreat
open Go.Sx
def Al (g:Ar) (op:Int):Au:=g.nodes.getD op.toNat default
def Eh (c:A4):List Aa:=c.workers.foldl (fun l w=>w.cells.foldl Du l) []
def E8 (g:Ar) (l:List Aa):List Aa:=l.filter fun x=>decide ((0≤x.op∧x.op<g.nodes.length)∧(Al g x.op).kind=8)
def P9 (c:A4) (e:Int):List Aa:=(E8 c.graph (Eh c)).filter fun x=>x.epoch==e
def Zf (ws:List A6):List Aa:=ws.foldl (fun l w=>w.cells.foldl Du l) []
theorem Vp (x:A4):Eh x=Zf x.workers:=rfl
theorem R1 {α β:Type} [Inhabited α] (f:β→α→β)(b:β){l:List α}{k:Nat}(hk:k<l.length):(l.take (k+1)).foldl f b=f ((l.take k).foldl f b) (l.getD k default):=by
 have:l.take (k+1)=l.take k++[l.getD k default]:=by
  rw [List.take_succ_eq_append_getElem hk]
  simp [List.getD,hk]
 rw [this,List.foldl_append]
 rfl
theorem A3d {ws:List A6}{k:Nat}(hk:k<ws.length):Zf (ws.take (k+1))=(ws.getD k default).cells.foldl Du (Zf (ws.take k)):=R1 _ _ hk
theorem A3w (l:List Aa)(x:Aa):(Du l x).length≤l.length+1:=by
 unfold Du
 split
 ·omega
 ·have:=B24 l x
  simp only [List.length_append,List.length_take,List.length_cons,List.length_drop]
  omega
theorem Oz (cs:List Aa):∀l:List Aa,(cs.foldl Du l).length≤l.length+cs.length:=by
 induction cs with
 |nil=>intro l;simp
 |cons c r ih=>
  intro l
  have:=ih (Du l c)
  have:=A3w l c
  simp only [List.foldl_cons,List.length_cons]
  omega
theorem A0h (w:A6):w.cells.length≤w.w:=by simp only [A6.w];omega
theorem B2a (ws:List A6):∀l:List Aa,(ws.foldl (fun l w=>w.cells.foldl Du l) l).length≤l.length+(ws.map A6.w).sum:=by
 induction ws with
 |nil=>intro l;simp
 |cons w r ih=>
  intro l
  have h1:=ih (w.cells.foldl Du l)
  have h2:=Oz w.cells l
  have h3:=A0h w
  simp only [List.foldl_cons,List.map_cons,List.sum_cons]
  omega
theorem A04 (ws:List A6):(Zf ws).length≤(ws.map A6.w).sum:=by
 have:=B2a ws []
 simpa [Zf] using this
theorem Ot {x:A4}{n:Nat}(h:x.w≤n):(Eh x).length≤n:=by
 have:=A04 x.workers
 rw [Vp]
 simp only [A4.w,wS] at h
 omega
set_option maxHeartbeats 1000000 in
theorem A4d (x:A4)(hx:x.w≤16000000):Aq Tryz.prog 168 [.agg x.c] [.one (Ao (Eh x))]:=by
 have hl:=A4.workers_le hx
 refine Aj A0 false Tryz.func168 rfl Bs fun W=>?_
 conv=>whnf
 refine Gk 1 (Ao []) rfl Do ?_
 refine B6 A0 false [5,6] (fun k:Nat=>[(4,.c (vi k))]) (fun k=>[⟨0,[.c (Bb x.graph.nodes),.c (vi x.graph.workers),.c (vi x.graph.cap),.c (Ap x.workers),.c (Bu x.links),.c (Be x.tokens),.c (C3 x.news)]⟩]) (fun k=>[⟨1,Ao (Zf (x.workers.take k))⟩])
  (fun k=>k≤x.workers.length) (fun k=>x.workers.length-k) 0 (Nat.zero_le _) ⟨by first|rfl|simp [Cr,ren2,ren1,ren0],trivial⟩ Cp ⟨by first|rfl|exact (congrArg (fun l=>Cb _ _ l) (List.append_nil _)).symm|(show (_:Ab)=_;simp)|simp,trivial⟩ Cc A5 (fun k hk=>?_)
 conv=>whnf
 (repeat refine An ?_)
 refine F2 (fun h=>?_) fun h=>?_<;>conv=>whnf
 ·have h:k<x.workers.length:=by omega
  have hw:=A4.worker_le hx h
  have hc:=A0h (x.workers.getD k default)
  have hi:=A04 (x.workers.take k)
  refine B6 A0 false [] (fun j:Nat=>[(5,.c (vi j))]) (fun j=>[⟨0,[.c (Bb x.graph.nodes),.c (vi x.graph.workers),.c (vi x.graph.cap),.c (Ap x.workers),.c (Bu x.links),.c (Be x.tokens),.c (C3 x.news)]⟩]) (fun j=>[⟨1,Ao (((x.workers.getD k default).cells.take j).foldl Du (Zf (x.workers.take k)))⟩])
   (fun j=>j≤(x.workers.getD k default).cells.length) (fun j=>(x.workers.getD k default).cells.length-j) 0 (Nat.zero_le _) ⟨by first|rfl|simp [Cr,ren2,ren1,ren0],trivial⟩ Cp ⟨by first|rfl|exact (congrArg (fun l=>Cb _ _ l) (List.append_nil _)).symm|(show (_:Ab)=_;simp)|simp,trivial⟩ Cc A5 (fun j hj=>?_)
  conv=>whnf
  (repeat refine An ?_)
  refine F2 (fun h=>?_) fun h=>?_<;>conv=>whnf
  ·have h:j<(x.workers.getD k default).cells.length:=by rw [Int.toNat_natCast] at h;omega
   have hf:=Oz ((x.workers.getD k default).cells.take j) (Zf (x.workers.take k))
   have ht:=List.length_take_le j (x.workers.getD k default).cells
   (repeat refine An ?_)
   refine Av (Iu (((x.workers.getD k default).cells.take j).foldl Du (Zf (x.workers.take k))) ((x.workers.getD k default).cells.getD j default) Ad) rfl (Ae ?_)
   (repeat refine An ?_)
   refine At [(1,2)] (j+1) Ad Ad ⟨rfl,trivial⟩ ⟨congrArg Ao (R1 _ _ h).symm,trivial⟩ Cp A5 Cc A5
  ·(repeat refine An ?_)
   refine At [] (k+1) Ad Ad ⟨rfl,trivial⟩ ⟨congrArg Ao (by rw [Int.toNat_natCast] at h;rw [A3d ‹_›,Ee (x.workers.getD k default).cells j Ad]),trivial⟩ Cp A5 Cc A5
 ·(repeat refine An ?_)
  refine Ah A0 rfl rfl ⟨?_,trivial⟩
  exact congrArg Ao (by rw [Vp,List.take_of_length_le Ad])
set_option maxHeartbeats 1000000 in
theorem A24 (x:A4)(hx:x.w≤16000000):Aq Tryz.prog 171 [.agg x.c] [.one (Ao (Eh x))]:=by
 have hl:=A4.workers_le hx
 refine Aj A0 false Tryz.func171 rfl Bs fun W=>?_
 conv=>whnf
 refine Wv 3 4 (fun i=>Aa.c (([]:List Aa).getD i default)) rfl ?_
 refine B6 A0 false [] (fun k:Nat=>[(11,.c (vi k))]) (fun k=>[⟨0,[.c (Bb x.graph.nodes),.c (vi x.graph.workers),.c (vi x.graph.cap),.c (Ap x.workers),.c (Bu x.links),.c (Be x.tokens),.c (C3 x.news)]⟩]) (fun k=>[⟨1,Ao (Zf (x.workers.take k))⟩])
  (fun k=>k≤x.workers.length) (fun k=>x.workers.length-k) 0 (Nat.zero_le _) ⟨by first|rfl|simp [Cr,ren2,ren1,ren0],trivial⟩ Cp ⟨by first|rfl|exact (congrArg (fun l=>Cb _ _ l) (List.append_nil _)).symm|(show (_:Ab)=_;simp)|simp,trivial⟩ Cc A5 (fun k hk=>?_)
 conv=>whnf
 conv=>whnf
 refine F2 (fun h=>?_) fun h=>?_<;>conv=>whnf
 ·have h:k<x.workers.length:=by omega
  have hw:=A4.worker_le hx h
  have hc:=A0h (x.workers.getD k default)
  have hi:=A04 (x.workers.take k)
  (repeat refine An ?_)
  refine B6 A0 false [] (fun j:Nat=>[(18,.c (vi j))]) (fun j=>[⟨0,[.c (Bb x.graph.nodes),.c (vi x.graph.workers),.c (vi x.graph.cap),.c (Ap x.workers),.c (Bu x.links),.c (Be x.tokens),.c (C3 x.news)]⟩]) (fun j=>[⟨1,Ao (((x.workers.getD k default).cells.take j).foldl Du (Zf (x.workers.take k)))⟩])
   (fun j=>j≤(x.workers.getD k default).cells.length) (fun j=>(x.workers.getD k default).cells.length-j) 0 (Nat.zero_le _) ⟨by first|rfl|simp [Cr,ren2,ren1,ren0],trivial⟩ Cp ⟨by first|rfl|exact (congrArg (fun l=>Cb _ _ l) (List.append_nil _)).symm|(show (_:Ab)=_;simp)|simp,trivial⟩ Cc A5 (fun j hj=>?_)
  conv=>whnf
  conv=>whnf
  refine F2 (fun h=>?_) fun h=>?_<;>conv=>whnf
  ·have h:j<(x.workers.getD k default).cells.length:=by rw [Int.toNat_natCast] at h;omega
   have hf:=Oz ((x.workers.getD k default).cells.take j) (Zf (x.workers.take k))
   have ht:=List.length_take_le j (x.workers.getD k default).cells
   (repeat refine An ?_)
   refine Av (Md (((x.workers.getD k default).cells.take j).foldl Du (Zf (x.workers.take k))) ((x.workers.getD k default).cells.getD j default) Ad) rfl (Ae ?_)
   (repeat refine An ?_)
   refine At [(1,4)] (j+1) Ad Ad ⟨rfl,trivial⟩ ⟨congrArg Ao (R1 _ _ h).symm,trivial⟩ Cp A5 Cc A5
  ·(repeat refine An ?_)
   refine At [] (k+1) Ad Ad ⟨rfl,trivial⟩ ⟨congrArg Ao (by rw [Int.toNat_natCast] at h;rw [A3d ‹_›,Ee (x.workers.getD k default).cells j Ad]),trivial⟩ Cp A5 Cc A5
 ·(repeat refine An ?_)
  refine Ah A0 rfl rfl ⟨?_,trivial⟩
  exact congrArg Ao (by rw [Vp,List.take_of_length_le Ad])
def Lp (g:Ar) (op:Int):Au×Bool:=if Eg op 0 (g.nodes.length-1)=true then (Al g op,true) else (⟨0,0,0,[]⟩,false)
theorem B59 {g:Ar}{n:Nat}(h:g.w≤n)(op:Int)(hk:op.toNat<g.nodes.length):(Al g op).w≤n:=by
 have:=Bz Au.w g.nodes op.toNat hk
 simp only [Ar.w,wS] at h
 simp only [Al]
 omega
theorem O5 (g:Ar)(op:Int)(hg:g.w≤16777216):Aq Tryz.prog 216 [.agg g.c,.one (vi op)] [.agg (Lp g op).1.c,.one (vb (Lp g op).2)]:=by
 have hl:g.nodes.length≤16777216:=by simp only [Ar.w,wS] at hg;omega
 refine Aj A0 false Tryz.func216 rfl Bs fun W=>?_
 conv=>whnf
 (repeat refine An ?_)
 refine Ai (Gv op 0 (g.nodes.length-1)) rfl (Ae ?_)
 by_cases h1:Eg op 0 (g.nodes.length-1)=true
 ·have h2:=Go.Sx.Am.1 h1
  have hk:op.toNat<g.nodes.length:=by omega
  have hw:=B59 hg op hk
  have ho:(Al g op).outs.length≤16777216:=by simp only [Au.w] at hw;omega
  rw [h1,Lp,if_pos h1]
  repeat refine B9 ?_
  (repeat refine An ?_)
  refine Bm A0 rfl rfl rfl rfl rfl rfl rfl rfl rfl rfl rfl (Eu (Al g op).outs) (B1) (fun _=>Mx _) (by (simp only [Al] at ho;omega)) (Ae ?_)
  repeat refine B9 ?_
  refine Ah A0 rfl rfl ?_
  exact C1
 ·have h3:Eg op 0 (g.nodes.length-1)=false:=by simpa using h1
  rw [h3,Lp,if_neg h1]
  repeat refine B9 ?_
  refine Ah A0 rfl rfl ?_
  exact C1
def Yk (g:Ar) (x:Aa):Bool:=decide ((0≤x.op∧x.op<g.nodes.length)∧(Al g x.op).kind=8)
theorem A7v (g:Ar)(x:Aa):Yk g x=((Lp g x.op).2&&((Lp g x.op).1.kind==8)):=by
 unfold Yk Lp
 by_cases h1:Eg x.op 0 (g.nodes.length-1)=true
 ·have h2:=Go.Sx.Am.1 h1
  rw [if_pos h1,Bool.eq_iff_iff]
  simp only [decide_eq_true_eq,Bool.true_and,beq_iff_eq]
  exact ⟨fun h=>h.2,fun h=>⟨⟨by omega,by omega⟩,h⟩⟩
 ·have h3:Eg x.op 0 (g.nodes.length-1)=false:=by simpa using h1
  have h2:=Go.Sx.Aw.1 h3
  rw [if_neg h1]
  simp only [Bool.false_and,decide_eq_false_iff_not]
  exact fun h=>by omega
set_option maxHeartbeats 1000000 in
theorem A1v (g:Ar)(l:List Aa)(hg:g.w≤16777216)(hl:l.length≤16777216):Aq Tryz.prog 167 [.agg g.c,.one (Ao l)] [.one (Ao (E8 g l))]:=by
 refine Aj A0 false Tryz.func167 rfl Bs fun W=>?_
 conv=>whnf
 refine Gk 1 (Ao []) rfl Do ?_
 refine B6 A0 false [9] (fun k:Nat=>[(6,.c (vi k))]) (fun k=>[⟨0,[.c (Bb g.nodes),.c (vi g.workers),.c (vi g.cap)]⟩]) (fun k=>[⟨1,Ao ((l.take k).filter (Yk g))⟩])
  (fun k=>k≤l.length) (fun k=>l.length-k) 0 (Nat.zero_le _) ⟨by first|rfl|simp [Cr,ren2,ren1,ren0],trivial⟩ Cp ⟨by first|rfl|exact (congrArg (fun l=>Cb _ _ l) (List.append_nil _)).symm|(show (_:Ab)=_;simp)|simp,trivial⟩ Cc A5 (fun k hk=>?_)
 conv=>whnf
 (repeat refine An ?_)
 refine F2 (fun h=>?_) fun h=>?_<;>conv=>whnf
 ·have h:k<l.length:=by omega
  have hs:=Dv (Yk g) l k h
  have hb:=Dn (Yk g) l k
  rw [A7v g (l.getD k default)] at hs
  refine Gl rfl ?_
  refine Bk A0 false 1 rfl rfl A5 rfl (Af D7) ?_
  refine Bk A0 false 2 rfl rfl A5 rfl (Af D7) ?_
  refine Cj (s':=?_) 0 rfl A5 ?_ ?_
  rotate_left
  refine go A0 false ?_
  conv=>whnf
  (repeat refine An ?_)
  exact Ax
  refine Cj (s':=?_) 3 rfl A5 ?_ ?_
  rotate_left
  refine go A0 false ?_
  conv=>whnf
  (repeat refine An ?_)
  exact Ax
  refine Bk A0 false 4 rfl rfl A5 rfl (Af D7) ?_
  refine Cj (s':=?_) 5 rfl A5 ?_ ?_
  rotate_left
  refine go A0 false ?_
  conv=>whnf
  (repeat refine An ?_)
  exact Ax
  refine Cl [6,10] A5 ⟨?_,?_,trivial⟩
  focus
   refine go A0 false ?_
   conv=>whnf
   refine Av (O5 g (l.getD k default).op hg) rfl (Ae ?_)
   refine Cw ?_
   refine Bk A0 false 7 rfl rfl A5 rfl (Af D7) ?_
   refine Kd (s':=?_) 8 rfl A5 ?_ ?_
   rotate_left
   refine go A0 false ?_
   conv=>whnf
   (repeat refine An ?_)
   exact Ax
   refine Kd (s':=?_) 9 rfl A5 ?_ ?_
   rotate_left
   refine go A0 false ?_
   conv=>whnf
   (repeat refine An ?_)
   exact Ax
   refine Cl [10] A5 ⟨?_,trivial⟩
   refine go A0 false ?_
   conv=>whnf
   (repeat refine An ?_)
   refine Cw ?_
   refine Cl [11] A5 ⟨?_,trivial⟩
   refine go A0 false ?_
   conv=>whnf
   (repeat refine An ?_)
   refine Cw ?_
   refine Bk A0 false 12 rfl rfl A5 rfl (Af D7) ?_
   refine Hh A5 (Ae ?_)
  rotate_left 1
  focus
   refine go A0 false ?_
   conv=>whnf
   (repeat refine An ?_)
   refine Cw ?_
   refine Cl [6] A5 ⟨?_,trivial⟩
   refine go A0 false ?_
   conv=>whnf
   refine Av (O5 g (l.getD k default).op hg) rfl (Ae ?_)
   refine Cw ?_
   refine Bk A0 false 7 rfl rfl A5 rfl (Af D7) ?_
   refine Kd (s':=?_) 8 rfl A5 ?_ ?_
   rotate_left
   refine go A0 false ?_
   conv=>whnf
   (repeat refine An ?_)
   exact Ax
   refine Kd (s':=?_) 9 rfl A5 ?_ ?_
   rotate_left
   refine go A0 false ?_
   conv=>whnf
   (repeat refine An ?_)
   exact Ax
   refine Cl [11] A5 ⟨?_,trivial⟩
   refine go A0 false ?_
   conv=>whnf
   (repeat refine An ?_)
   refine Cw ?_
   refine Bk A0 false 12 rfl rfl A5 rfl (Af D7) ?_
   refine Hh A5 (Ae ?_)
  all_goals
   refine ⟨fun h1=>?_,fun h1=>?_⟩<;>conv=>whnf
   ·repeat refine B9 ?_
    refine ⟨fun h8=>?_,fun h8=>?_⟩<;>conv=>whnf
    ·(repeat refine An ?_)
     refine Bm A0 rfl rfl rfl rfl rfl rfl rfl rfl rfl rfl rfl (Ao ((l.take k).filter (Yk g)++[l.getD k default])) (Bh rfl) Ef Ad (Ae ?_)
     (repeat refine An ?_)
     refine At [(1,5)] (k+1) Ad Ad ⟨rfl,trivial⟩ ⟨congrArg Ao (by rw [hs,h1,h8];rfl),trivial⟩ Cp A5 Cc A5
    ·(repeat refine An ?_)
     refine At [] (k+1) Ad Ad ⟨rfl,trivial⟩ ⟨congrArg Ao (by rw [hs,h1,h8];simp),trivial⟩ Cp A5 Cc A5
   ·repeat refine B9 ?_
    refine At [] (k+1) Ad Ad ⟨rfl,trivial⟩ ⟨congrArg Ao (by rw [hs,h1];simp),trivial⟩ Cp A5 Cc A5
 ·(repeat refine An ?_)
  refine Ah A0 rfl rfl ⟨?_,trivial⟩
  exact congrArg (fun l=>Ao (List.filter _ l)) (Ee _ k Ad)
set_option maxHeartbeats 1000000 in
theorem A0v (g:Ar)(l:List Aa)(hg:g.w≤16777216)(hl:l.length≤16777216):Aq Tryz.prog 170 [.agg g.c,.one (Ao l)] [.one (Ao (E8 g l))]:=by
 refine Aj A0 false Tryz.func170 rfl Bs fun W=>?_
 conv=>whnf
 refine Wv 5 4 (fun i=>Aa.c (([]:List Aa).getD i default)) rfl ?_
 refine B6 A0 false [] (fun k:Nat=>[(10,.c (vi k))]) (fun k=>[⟨0,[.c (Bb g.nodes),.c (vi g.workers),.c (vi g.cap)]⟩]) (fun k=>[⟨1,Ao ((l.take k).filter (Yk g))⟩])
  (fun k=>k≤l.length) (fun k=>l.length-k) 0 (Nat.zero_le _) ⟨by first|rfl|simp [Cr,ren2,ren1,ren0],trivial⟩ Cp ⟨by first|rfl|exact (congrArg (fun l=>Cb _ _ l) (List.append_nil _)).symm|(show (_:Ab)=_;simp)|simp,trivial⟩ Cc A5 (fun k hk=>?_)
 conv=>whnf
 conv=>whnf
 refine F2 (fun h=>?_) fun h=>?_<;>conv=>whnf
 ·have h:k<l.length:=by omega
  have hs:=Dv (Yk g) l k h
  have hb:=Dn (Yk g) l k
  rw [A7v g (l.getD k default)] at hs
  (repeat refine An ?_)
  refine Ai (Nq g (l.getD k default).op hg) rfl (Ae ?_)
  refine ⟨fun h1=>?_,fun h1=>?_⟩<;>conv=>whnf
  ·have h2:=Go.Sx.Am.1 h1
   rw [Lp,if_pos h1] at hs
   repeat refine B9 ?_
   (repeat refine An ?_)
   refine ⟨fun h8=>?_,fun h8=>?_⟩<;>conv=>whnf
   ·have h8:((Al g (l.getD k default).op).kind==8)=true:=h8
    (repeat refine An ?_)
    refine Bm A0 rfl rfl rfl rfl rfl rfl rfl rfl rfl rfl rfl (Ao ((l.take k).filter (Yk g)++[l.getD k default])) (Bh rfl) Ef Ad (Ae ?_)
    (repeat refine An ?_)
    refine At [(1,4)] (k+1) Ad Ad ⟨rfl,trivial⟩ ⟨congrArg Ao (by rw [hs,h8];rfl),trivial⟩ Cp A5 Cc A5
   ·have h8:((Al g (l.getD k default).op).kind==8)=false:=h8
    (repeat refine An ?_)
    refine At [] (k+1) Ad Ad ⟨rfl,trivial⟩ ⟨congrArg Ao (by rw [hs,h8];simp),trivial⟩ Cp A5 Cc A5
  ·have hn:¬ Eg (l.getD k default).op 0 (g.nodes.length-1)=true:=by rw [h1];decide
   rw [Lp,if_neg hn] at hs
   repeat refine B9 ?_
   refine At [] (k+1) Ad Ad ⟨rfl,trivial⟩ ⟨congrArg Ao (by rw [hs];simp),trivial⟩ Cp A5 Cc A5
 ·(repeat refine An ?_)
  refine Ah A0 rfl rfl ⟨?_,trivial⟩
  exact congrArg (fun l=>Ao (List.filter _ l)) (Ee _ k Ad)
theorem Nw {g:Ar}{l:List Aa}{n:Nat}(h:l.length≤n):(E8 g l).length≤n:=Nat.le_trans (List.length_filter_le _ _) h
theorem U7 (x:A4)(e:Int):P9 x e=(E8 x.graph (Eh x)).filter (fun y=>y.epoch==e):=rfl
theorem Np {x:A4}{n:Nat}(h:x.w≤n):x.graph.w≤n:=by simp only [A4.w] at h;omega
set_option maxHeartbeats 1000000 in
theorem A1u (x:A4)(e:Int)(hx:x.w≤16000000):Aq Tryz.prog 121 [.agg x.c,.one (vi e)] [.one (Ao (P9 x e))]:=by
 have hc:=Ot hx
 have ho:=Nw (g:=x.graph) hc
 have hg:=Np hx
 refine Aj A0 false Tryz.func121 rfl Bs fun W=>?_
 conv=>whnf
 refine Gk 1 (Ao []) rfl Do ?_
 first|(refine Ak 2 rfl [0,1,2,3,4,5] A5 (Ae ?_))
 refine Av (A4d x hx) rfl (Ae ?_)
 refine Av (A1v x.graph (Eh x) Ad Ad) rfl (Ae ?_)
 rw [U7]
 refine B6 A0 false [8] (fun k:Nat=>[(7,.c (vi k))]) (fun k=>[]) (fun k=>[⟨3,Ao (E8 x.graph (Eh x))⟩,⟨1,Ao (((E8 x.graph (Eh x)).take k).filter (fun y=>y.epoch==e))⟩])
  (fun k=>k≤(E8 x.graph (Eh x)).length) (fun k=>(E8 x.graph (Eh x)).length-k) 0 (Nat.zero_le _) ⟨by first|rfl|simp [Cr,ren2,ren1,ren0],trivial⟩ trivial ⟨by first|rfl|exact (congrArg (fun l=>Cb _ _ l) (List.append_nil _)).symm|(show (_:Ab)=_;simp)|simp,by first|rfl|exact (congrArg (fun l=>Cb _ _ l) (List.append_nil _)).symm|(show (_:Ab)=_;simp)|simp,trivial⟩ Cc A5 (fun k hk=>?_)
 conv=>whnf
 (repeat refine An ?_)
 refine F2 (fun h=>?_) fun h=>?_<;>conv=>whnf
 ·have h:k<(E8 x.graph (Eh x)).length:=by omega
  have hs:=Dv (fun y:Aa=>y.epoch==e) (E8 x.graph (Eh x)) k h
  have hb:=Dn (fun y:Aa=>y.epoch==e) (E8 x.graph (Eh x)) k
  (repeat refine An ?_)
  refine ⟨fun h1=>?_,fun h1=>?_⟩<;>conv=>whnf
  ·rw [Int.toNat_natCast] at h1
   (repeat refine An ?_)
   refine Bm A0 rfl rfl rfl rfl rfl rfl rfl rfl rfl rfl rfl (Ao (((E8 x.graph (Eh x)).take k).filter (fun y=>y.epoch==e)++[(E8 x.graph (Eh x)).getD k default])) (Bh rfl) Ef Ad (Ae ?_)
   (repeat refine An ?_)
   refine At [(1,5)] (k+1) Ad Ad ⟨rfl,trivial⟩ ⟨rfl,congrArg Ao (by rw [hs,if_pos h1]),trivial⟩ Cp A5 Cc A5
  ·rw [Int.toNat_natCast] at h1
   (repeat refine An ?_)
   refine At [] (k+1) Ad Ad ⟨rfl,trivial⟩ ⟨rfl,congrArg Ao (by rw [hs,if_neg (by rw [h1];decide),List.append_nil]),trivial⟩ Cp A5 Cc A5
 ·(repeat refine An ?_)
  refine Ah A0 rfl rfl ⟨?_,trivial⟩
  exact congrArg (fun l=>Ao (List.filter _ l)) (Ee _ k Ad)
set_option maxHeartbeats 1000000 in
theorem A0u (x:A4)(e:Int)(hx:x.w≤16000000):Aq Tryz.prog 125 [.agg x.c,.one (vi e)] [.one (Ao (P9 x e))]:=by
 have hc:=Ot hx
 have ho:=Nw (g:=x.graph) hc
 have hg:=Np hx
 refine Aj A0 false Tryz.func125 rfl Bs fun W=>?_
 conv=>whnf
 refine Wv 5 4 (fun i=>Aa.c (([]:List Aa).getD i default)) rfl ?_
 first|(refine Ak 2 rfl [0,1,2,6,3,4,5] A5 (Ae ?_))
 refine Av (A24 x hx) rfl (Ae ?_)
 refine Av (A0v x.graph (Eh x) Ad Ad) rfl (Ae ?_)
 rw [U7]
 refine B6 A0 false [] (fun k:Nat=>[(14,.c (vi k))]) (fun k=>[]) (fun k=>[⟨3,Ao (E8 x.graph (Eh x))⟩,⟨1,Ao (((E8 x.graph (Eh x)).take k).filter (fun y=>y.epoch==e))⟩])
  (fun k=>k≤(E8 x.graph (Eh x)).length) (fun k=>(E8 x.graph (Eh x)).length-k) 0 (Nat.zero_le _) ⟨by first|rfl|simp [Cr,ren2,ren1,ren0],trivial⟩ trivial ⟨by first|rfl|exact (congrArg (fun l=>Cb _ _ l) (List.append_nil _)).symm|(show (_:Ab)=_;simp)|simp,by first|rfl|exact (congrArg (fun l=>Cb _ _ l) (List.append_nil _)).symm|(show (_:Ab)=_;simp)|simp,trivial⟩ Cc A5 (fun k hk=>?_)
 conv=>whnf
 conv=>whnf
 refine F2 (fun h=>?_) fun h=>?_<;>conv=>whnf
 ·have h:k<(E8 x.graph (Eh x)).length:=by omega
  have hs:=Dv (fun y:Aa=>y.epoch==e) (E8 x.graph (Eh x)) k h
  have hb:=Dn (fun y:Aa=>y.epoch==e) (E8 x.graph (Eh x)) k
  (repeat refine An ?_)
  refine ⟨fun h1=>?_,fun h1=>?_⟩<;>conv=>whnf
  ·rw [Int.toNat_natCast] at h1
   (repeat refine An ?_)
   refine Bm A0 rfl rfl rfl rfl rfl rfl rfl rfl rfl rfl rfl (Ao (((E8 x.graph (Eh x)).take k).filter (fun y=>y.epoch==e)++[(E8 x.graph (Eh x)).getD k default])) (Bh rfl) Ef Ad (Ae ?_)
   (repeat refine An ?_)
   refine At [(1,6)] (k+1) Ad Ad ⟨rfl,trivial⟩ ⟨rfl,congrArg Ao (by rw [hs,if_pos h1]),trivial⟩ Cp A5 Cc A5
  ·rw [Int.toNat_natCast] at h1
   (repeat refine An ?_)
   refine At [] (k+1) Ad Ad ⟨rfl,trivial⟩ ⟨rfl,congrArg Ao (by rw [hs,if_neg (by rw [h1];decide),List.append_nil]),trivial⟩ Cp A5 Cc A5
 ·(repeat refine An ?_)
  refine Ah A0 rfl rfl ⟨?_,trivial⟩
  exact congrArg (fun l=>Ao (List.filter _ l)) (Ee _ k Ad)
end Go.Proofs.YtlbmkgkmbjadcaaGreat
