/- Part 16 of the proof that each of the laws FnExactRunScriptOf, FnExactSpreadResult returns true for every input. No conditions. -/
import Derived.Test.YtlbmkgkmbjadcaaGreatP10
import Derived.Test.YtlbmkgkmbjadcaaGreatP5
import Derived.Test.YtlbmkgkmbjadcaaGreatP15

set_option linter.unusedSimpArgs false
set_option linter.unusedVariables false
set_option maxRecDepth 100000
namespace Go.Proofs.YtlbmkgkmbjadcaaGreat
open Go.Sx
theorem Xv (x:A4)(e:Int)(h:x.w≤16777216):Aq Tryz.prog 77 [.agg x.c,.one (vi e)] [.one (vb (Lt x e))]:=by
 have hl:=A4.workers_le h
 refine Aj A0 false Tryz.func77 rfl Bs fun W=>?_
 conv=>whnf
 refine F2 (fun h0=>?_) fun h0=>?_<;>conv=>whnf
 ·have hw:=A4.worker_le h (show 0<x.workers.length by omega)
  repeat' (first|(refine Ki ?_;conv=>whnf)|(refine Kj ?_;conv=>whnf)|(refine ⟨fun h=>?_,fun h=>?_⟩<;>conv=>whnf)|(refine Jn ?_;conv=>whnf)|fail)
  refine Ai (Xs (x.workers.getD 0 default) e Ad) rfl (Ae ?_)
  repeat' (first|(refine Ki ?_;conv=>whnf)|(refine Kj ?_;conv=>whnf)|(refine ⟨fun h=>?_,fun h=>?_⟩<;>conv=>whnf)|(refine Jn ?_;conv=>whnf)|fail)
  exact Ah A0 rfl rfl ⟨congrArg vb (by rw [Lt,if_pos Ad]),trivial⟩
 ·repeat' (first|(refine Ki ?_;conv=>whnf)|(refine Kj ?_;conv=>whnf)|(refine ⟨fun h=>?_,fun h=>?_⟩<;>conv=>whnf)|(refine Jn ?_;conv=>whnf)|fail)
  exact Ah A0 rfl rfl ⟨congrArg vb (by rw [Lt,if_neg Ad]),trivial⟩
def Ac (c:A4) (e:Int):Ay:=c.tokens.getD e.toNat default
def Ag (c:A4) (j:Int):A6:=c.workers.getD j.toNat default
def Ff (c:A4) (e:Int) (t:Ay):A4:=⟨c.graph,c.workers,c.links,c.tokens.set e.toNat t,c.news⟩
def C0 (c:A4) (j:Int) (w:A6):A4:=⟨c.graph,c.workers.set j.toNat w,c.links,c.tokens,c.news⟩
def Hf (w:A6) (e:Int):A6:=⟨w.queue,w.staged,w.inputs,w.cells,w.sums,w.black.set e.toNat false,w.caps,w.dones⟩
def H8 (w:A6) (d:Bp):A6:=⟨w.queue,w.staged,w.inputs,w.cells,w.sums,w.black,w.caps,w.dones++[d]⟩
def Lo (e:Int) (b:Bool) (k:Nat):List B7:=(List.range k).map fun (i:Nat)=>(⟨(i:Int)+1,e,b⟩:B7)
def Uv (c:A4) (l:List B7):A4:=⟨c.graph,c.workers,c.links,c.tokens,c.news++l⟩
def Ho (c:A4) (e:Int) (t:Ay) (w:A6):A4:=
 if t.black=false∧w.black.getD e.toNat default=false∧t.sum+w.sums.getD e.toNat default=0 then
  Uv (C0 c 0 (H8 w ⟨e,t.capped||w.caps.getD e.toNat default⟩)) (Lo e (t.capped||w.caps.getD e.toNat default) (c.workers.length-1))
 else c
def Q7 (c:A4) (e:Int):Prop:=Bg c∧(0≤e∧e≤3)∧Gp (Ag c 0) e=false∧Hv (Ag c (Ac c e).at_) e=true
instance (c:A4) (e:Int):Decidable (Q7 c e):=by unfold Q7;infer_instance
def D3 (c:A4) (e:Int):A4×Bool:=
 if Q7 c e then
  let t:=Ac c e
  let w:=Ag c t.at_
  if t.going=false then (C0 (Ff c e ⟨true,(c.workers.length:Int)-1,0,false,w.caps.getD e.toNat default⟩) t.at_ (Hf w e),true)
  else if t.at_>0 then
   if Hc (t.sum+w.sums.getD e.toNat default) then
    (C0 (Ff c e ⟨t.going,t.at_-1,t.sum+w.sums.getD e.toNat default,t.black||w.black.getD e.toNat default,t.capped||w.caps.getD e.toNat default⟩) t.at_ (Hf w e),true)
   else (c,false)
  else (Ho (Ff c e ⟨false,t.at_,t.sum,t.black,t.capped⟩) e t w,true)
 else (c,false)
theorem A0b {c:A4}{e:Int}(h:Q7 c e)(hg:(Ac c e).going=false):D3 c e=(C0 (Ff c e ⟨true,(c.workers.length:Int)-1,0,false,(Ag c (Ac c e).at_).caps.getD e.toNat default⟩) (Ac c e).at_ (Hf (Ag c (Ac c e).at_) e),true):=by
 rw [D3,if_pos h]
 simp only [hg,if_true]
theorem A8e {c:A4}{e:Int}(h:Q7 c e)(hg:(Ac c e).going=true)(ha:(Ac c e).at_>0)(hs:¬ Hc ((Ac c e).sum+(Ag c (Ac c e).at_).sums.getD e.toNat default)):D3 c e=(c,false):=by
 rw [D3,if_pos h]
 simp only [hg,Bool.true_eq_false,if_false,if_pos ha,if_neg hs]
theorem Kg {c:A4}{e:Int}(h:Q7 c e)(hg:(Ac c e).going=true)(ha:(Ac c e).at_>0)(hs:Hc ((Ac c e).sum+(Ag c (Ac c e).at_).sums.getD e.toNat default)):
  D3 c e=(C0 (Ff c e ⟨true,(Ac c e).at_-1,(Ac c e).sum+(Ag c (Ac c e).at_).sums.getD e.toNat default,(Ac c e).black||(Ag c (Ac c e).at_).black.getD e.toNat default,(Ac c e).capped||(Ag c (Ac c e).at_).caps.getD e.toNat default⟩) (Ac c e).at_ (Hf (Ag c (Ac c e).at_) e),true):=by
 rw [D3,if_pos h]
 simp only [hg,Bool.true_eq_false,if_false,if_pos ha,if_pos hs]
theorem O9 {c:A4}{e:Int}(h:¬ Q7 c e):D3 c e=(c,false):=by rw [D3,if_neg h]
theorem Cm {α:Type} [Inhabited α] {es:Nat}{e:α→List Ab}{l:List α}{j:Nat}{r:List Ab}(h:r=e (l.getD j default)):Ie (.sl l.length es (Fg (fun i=>e (l.getD i default)) j r)) (Cb es e l):=by
 refine ⟨rfl,rfl,fun i _=>?_⟩
 unfold Fg
 split
 ·rename_i e;subst e;rw [h];exact Gi.rfl' _
 ·exact Gi.rfl' _
theorem Fx {α:Type} [Inhabited α] {es:Nat}{e:α→List Ab}{l:List α}{j:Nat}{r:List Ab}{x:α}(hj:j<l.length)(h:r=e x):Ie (.sl l.length es (Fg (fun i=>e (l.getD i default)) j r)) (Cb es e (l.set j x)):=by
 refine ⟨by rw [List.length_set],rfl,fun i _=>?_⟩
 unfold Fg
 split
 ·rename_i q
  subst q
  show Gi r (e ((l.set i x).getD i default))
  rw [h,Sx.getD_set_self _ _ _ _ hj]
  exact Gi.rfl' _
 ·rename_i q
  show Gi (e (l.getD i default)) (e ((l.set j x).getD i default))
  rw [Sx.getD_set_ne _ _ _ _ _ q]
  exact Gi.rfl' _
abbrev Te (x:A4) (b:Bool):List Ab:=[Bb x.graph.nodes,vi x.graph.workers,vi x.graph.cap,Ap x.workers,Bu x.links,Be x.tokens,C3 x.news,vb b]
abbrev rc (x:A4):List Ab:=Te x (B8 x)
theorem K5 {c:A4}{e:Int}(h:Q7 c e)(hg:(Ac c e).going=true)(ha:¬ (Ac c e).at_>0):D3 c e=(Ho (Ff c e ⟨false,(Ac c e).at_,(Ac c e).sum,(Ac c e).black,(Ac c e).capped⟩) e (Ac c e) (Ag c (Ac c e).at_),true):=by
 rw [D3,if_pos h]
 simp only [hg,Bool.true_eq_false,if_false,if_neg ha]
theorem Tb (e:Int)(b:Bool)(k:Nat):(Lo e b k).length=k:=by rw [Lo,List.length_map,List.length_range]
theorem R7 (e:Int)(b:Bool)(k:Nat):Lo e b (k+1)=Lo e b k++[⟨(k:Int)+1,e,b⟩]:=by
 rw [Lo,List.range_succ,List.map_append]
 rfl
set_option maxHeartbeats 4000000 in
theorem A4g (x:A4)(e:Int)(cap ok:Bool)(h:x.w≤16000000)(h0:0<x.workers.length):
  J0 Tryz.prog (fun _=>True) 176 [] (Te x ok) [.one (vi e),.one (vb cap)] (fun _:Unit=>True) (fun _=>Te (Uv (C0 x 0 (H8 (x.workers.getD 0 default) ⟨e,cap⟩)) (Lo e cap (x.workers.length-1))) ok) (fun _=>[]):=by
 have hw:=A4.worker_le h h0
 have hnl:=A4.news_le h
 have hwl:=A4.workers_le h
 have hdl:(x.workers.getD 0 default).dones.length≤16000000:=by simp only [A6.w] at hw;omega
 refine Kl A0 false Tryz.func176 rfl Bs fun B b hH hp=>?_
 conv=>whnf
 refine R5 0 3 2 rfl rfl (fun v2=>?_)
 refine Wy 0 3 rfl rfl (fun ho_v2=>?_)
 refine Gl rfl ?_
 refine Bk A0 false 0 rfl rfl A5 rfl (Af D7) ?_
 refine Bk A0 false 1 rfl rfl A5 rfl (Af D7) ?_
 refine Bk A0 false 2 rfl rfl A5 rfl (Af D7) ?_
 refine Bk A0 false 3 rfl rfl A5 rfl (Af D7) ?_
 refine Bk A0 false 5 rfl rfl A5 rfl (Af D7) ?_
 refine Bk A0 false 6 rfl rfl A5 rfl (Af D7) ?_
 refine Bk A0 false 7 rfl rfl A5 rfl (Af D7) ?_
 refine Bk A0 false 8 rfl rfl A5 rfl (Af D7) ?_
 refine Bk A0 false 13 rfl rfl A5 rfl (Af D7) ?_
 refine Bk A0 false 14 rfl rfl A5 rfl (Af D7) ?_
 refine Cj (s':=?_) 9 rfl A5 ?_ ?_
 rotate_left
 refine go A0 false ?_
 conv=>whnf
 (repeat refine An ?_)
 exact Ax
 refine Cj (s':=?_) 10 rfl A5 ?_ ?_
 rotate_left
 refine go A0 false ?_
 conv=>whnf
 refine A8p 16 2 rfl rfl (Ae ?_)
 (repeat refine An ?_)
 exact Ax
 refine Bk A0 false 11 rfl rfl A5 rfl (Af D7) ?_
 refine Pe (α:=Value) (s':=?_) 12 rfl A5 ?_ ?_
 rotate_left
 refine go A0 false ?_
 conv=>whnf
 refine Ij A0 rfl rfl rfl rfl rfl rfl (jn:=0) rfl rfl rfl (fun v=>go A0 false ?_)
 conv=>whnf
 exact Tx v
 intro v
 refine Cj (s':=?_) 15 rfl A5 ?_ ?_
 rotate_left
 refine go A0 false ?_
 conv=>whnf
 (repeat refine An ?_)
 exact Ax
 refine Jo [16,17,18,19,20] [⟨4,11,.rd v2⟩] A5 ?_
 refine Bf (s':=?_) A0 rfl A5 F1 ?_ ?_
 rotate_left
 refine go A0 false ?_
 conv=>whnf
 (repeat refine An ?_)
 exact Ax
 refine Bf (s':=?_) A0 rfl A5 F1 ?_ ?_
 rotate_left
 refine go A0 false ?_
 conv=>whnf
 refine Bm A0 rfl rfl rfl rfl rfl rfl rfl rfl rfl rfl rfl (Er ((x.workers.getD 0 default).dones++[⟨e,cap⟩])) (Bh rfl) Ef Ad (Ae ?_)
 exact Ax
 refine Bf (s':=?_) A0 rfl A5 F1 ?_ ?_
 rotate_left
 refine go A0 false ?_
 conv=>whnf
 refine A8p 11 2 rfl rfl (Ae ?_)
 (repeat refine An ?_)
 exact Ax
 refine Bf (s':=?_) A0 rfl A5 F1 ?_ ?_
 rotate_left
 refine go A0 false ?_
 conv=>whnf
 (repeat refine An ?_)
 exact Ax
 refine Bf (s':=?_) A0 rfl A5 F1 ?_ ?_
 rotate_left
 refine go A0 false ?_
 conv=>whnf
 refine Bj (j:=0) A0 rfl rfl rfl rfl rfl rfl rfl rfl (Ap (x.workers.set 0 (H8 (x.workers.getD 0 default) ⟨e,cap⟩))) (Fj h0 rfl) (Ae ?_)
 exact Ax
 refine I7 A0 A5 F1 (GW.out (Iy ?_))
 conv=>whnf
 refine R4 0 3 2 rfl rfl rfl ?_
 refine B6 A0 false [7,8,9,10,11,12,13,14,15,16,17,18,19,20,21,22,23,24,25,26] (fun k:Nat=>[(6,.c (vi (k+1)))]) (fun k=>[⟨0,[.own 1,.c (vi x.graph.workers),.c (vi x.graph.cap),.own 2,.own 3,.own 4,.own 5,.c (vb ok)]⟩]) (fun k=>[⟨1,Bb x.graph.nodes⟩,⟨2,Ap (x.workers.set 0 (H8 (x.workers.getD 0 default) ⟨e,cap⟩))⟩,⟨3,Bu x.links⟩,⟨4,Be x.tokens⟩,⟨5,C3 (x.news++Lo e cap k)⟩])
  (fun k=>k≤(x.workers.length-1)) (fun k=>(x.workers.length-1)-k) 0 (Nat.zero_le _) ⟨by first|rfl|simp [Cr,ren2,ren1,ren0],trivial⟩ Cp ⟨by first|rfl|exact (congrArg (fun l=>Cb _ _ l) (List.append_nil _)).symm|(show (_:Ab)=_;simp)|simp,by first|rfl|exact (congrArg (fun l=>Cb _ _ l) (List.append_nil _)).symm|(show (_:Ab)=_;simp)|simp,by first|rfl|exact (congrArg (fun l=>Cb _ _ l) (List.append_nil _)).symm|(show (_:Ab)=_;simp)|simp,by first|rfl|exact (congrArg (fun l=>Cb _ _ l) (List.append_nil _)).symm|(show (_:Ab)=_;simp)|simp,by first|rfl|exact (congrArg (fun l=>Cb _ _ l) (List.append_nil _)).symm|(show (_:Ab)=_;simp)|simp,trivial⟩ Cc A5 (fun k hk=>?_)
 conv=>whnf
 refine F2 (fun hg=>?_) fun hg=>?_<;>conv=>whnf
 ·rw [List.length_set] at hg
  refine Bm A0 rfl rfl rfl rfl rfl rfl rfl rfl rfl rfl rfl (C3 (x.news++Lo e cap k++[⟨k+1,e,cap⟩])) (Bh rfl) Ef (by rw [List.length_append,Tb];omega) (Ae ?_)
  (repeat refine An ?_)
  refine At [(0,0),(1,1),(2,2),(3,3),(4,4),(5,10)] (k+1) Ad Ad ⟨by rw [Int.natCast_add];rfl,trivial⟩ ⟨rfl,rfl,rfl,rfl,by show (_:Ab)=_;rw [R7,←List.append_assoc],trivial⟩ Cp A5 Cc A5
 ·rw [List.length_set] at hg
  repeat refine B9 ?_
  obtain rfl:k=x.workers.length-1:=by omega
  exact B50 (Ez A0 () trivial rfl rfl rfl rfl C1)
end Go.Proofs.YtlbmkgkmbjadcaaGreat
