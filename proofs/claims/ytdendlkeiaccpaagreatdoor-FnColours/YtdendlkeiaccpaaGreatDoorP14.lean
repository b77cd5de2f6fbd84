/- Part 14 of the proof that each of the laws FnColours returns true for every input. No conditions. -/
import Derived.Test.YtdendlkeiaccpaaGreatDoorP9
import Derived.Test.YtdendlkeiaccpaaGreatDoorP6
import Derived.Test.YtdendlkeiaccpaaGreatDoorP5
import Derived.Test.YtdendlkeiaccpaaGreatDoorP13
import Derived.Test.YtdendlkeiaccpaaGreatDoorP7
import Derived.Test.YtdendlkeiaccpaaGreatDoorP12

set_option linter.unusedSimpArgs false
set_option linter.unusedVariables false
set_option maxRecDepth 100000
namespace Go.Proofs.YtdendlkeiaccpaaGreatDoor
open Go.Sx
theorem Pd (x:A3)(e:Int)(h:x.w≤16777216):Be Tryz.prog 54 [.agg x.c,.one (vi e)] [.one (vb (Gh x e))]:=by
 have hl:=A3.workers_le h
 refine B5 A0 false Tryz.func54 rfl Az fun W=>?_
 conv=>whnf
 refine F4 (fun h0=>?_) fun h0=>?_<;>conv=>whnf
 ·have hw:=Go.Sx.A3.worker_le h (show 0<x.workers.length by omega)
  repeat' (first|(refine J1 ?_;conv=>whnf)|(refine J2 ?_;conv=>whnf)|(refine ⟨fun h=>?_,fun h=>?_⟩<;>conv=>whnf)|(refine Ex ?_;conv=>whnf)|fail)
  refine At (R7 (x.workers.getD 0 default) e Ac) rfl (A8 ?_)
  repeat' (first|(refine J1 ?_;conv=>whnf)|(refine J2 ?_;conv=>whnf)|(refine ⟨fun h=>?_,fun h=>?_⟩<;>conv=>whnf)|(refine Ex ?_;conv=>whnf)|fail)
  exact Ap A0 rfl rfl ⟨congrArg vb (by rw [Gh,if_pos Ac]),trivial⟩
 repeat' (first|(refine J1 ?_;conv=>whnf)|(refine J2 ?_;conv=>whnf)|(refine ⟨fun h=>?_,fun h=>?_⟩<;>conv=>whnf)|(refine Ex ?_;conv=>whnf)|fail)
 exact Ap A0 rfl rfl ⟨congrArg vb (by rw [Gh,if_neg Ac]),trivial⟩
theorem We (x:A3)(e:Int)(h:x.w≤16777216):Be Tryz.prog 52 [.agg x.c,.one (vi e)] [.one (vb (Gh x e))]:=by
 have hl:=A3.workers_le h
 refine B5 A0 false Tryz.func52 rfl Az fun W=>?_
 conv=>whnf
 refine F4 (fun h0=>?_) fun h0=>?_<;>conv=>whnf
 ·have hw:=Go.Sx.A3.worker_le h (show 0<x.workers.length by omega)
  repeat' (first|(refine J1 ?_;conv=>whnf)|(refine J2 ?_;conv=>whnf)|(refine ⟨fun h=>?_,fun h=>?_⟩<;>conv=>whnf)|(refine Ex ?_;conv=>whnf)|fail)
  refine At (Wd (x.workers.getD 0 default) e Ac) rfl (A8 ?_)
  repeat' (first|(refine J1 ?_;conv=>whnf)|(refine J2 ?_;conv=>whnf)|(refine ⟨fun h=>?_,fun h=>?_⟩<;>conv=>whnf)|(refine Ex ?_;conv=>whnf)|fail)
  exact Ap A0 rfl rfl ⟨congrArg vb (by rw [Gh,if_pos Ac]),trivial⟩
 repeat' (first|(refine J1 ?_;conv=>whnf)|(refine J2 ?_;conv=>whnf)|(refine ⟨fun h=>?_,fun h=>?_⟩<;>conv=>whnf)|(refine Ex ?_;conv=>whnf)|fail)
 exact Ap A0 rfl rfl ⟨congrArg vb (by rw [Gh,if_neg Ac]),trivial⟩
theorem Pa (x:A3)(e:Int)(h:x.w≤16777216):Be Tryz.prog 20 [.agg x.c,.one (vi e)] [.one (vb (L9 x e))]:=by
 have hl:=A3.workers_le h
 refine B5 A0 false Tryz.func20 rfl Az fun W=>?_
 conv=>whnf
 refine C0 A0 false [] (fun k:Nat=>[(5,.c (vi k))]) (fun k=>[⟨0,[.c (Bn x.graph.nodes),.c (vi x.graph.workers),.c (vi x.graph.cap),.c (Al x.workers),.c (Cf x.links),.c (Bo x.tokens),.c (C5 x.news)]⟩]) (fun k=>[])
  (fun k=>k≤x.workers.length∧(x.workers.take k).all (fun w=>Ch w e)=true) (fun k=>x.workers.length-k) 0 ⟨Nat.zero_le _,by first|rfl|assumption|simp⟩ ⟨G3,trivial⟩ Cg trivial Co A7 (fun k hk=>?_)
 obtain ⟨hk,he⟩:=hk
 conv=>whnf
 refine F4 (fun h'=>?_) fun h'=>?_<;>conv=>whnf
 ·have h':k<x.workers.length:=by omega
  have hw:=Go.Sx.A3.worker_le h h'
  (repeat refine An ?_)
  refine At (Mg (x.workers.getD k default) e Ac) rfl (A8 ?_)
  refine ⟨fun hc=>?_,fun hc=>?_⟩<;>conv=>whnf
  ·exact Ap A0 rfl rfl ⟨congrArg vb (Oe h' (by simpa using hc)),trivial⟩
  (repeat refine An ?_)
  refine B8 [] (k+1) ⟨by omega,M8 he h' (by simpa using hc)⟩ Ac ⟨rfl,trivial⟩ trivial Cg A7 Co A7
 exact Ap A0 rfl rfl ⟨congrArg vb (by rw [Ed x.workers k Ac] at he;exact he),trivial⟩
theorem Ol (x:A3)(e:Int)(h:x.w≤16777216):Be Tryz.prog 19 [.agg x.c,.one (vi e)] [.one (vb (L9 x e))]:=by
 have hl:=A3.workers_le h
 refine B5 A0 false Tryz.func19 rfl Az fun W=>?_
 conv=>whnf
 refine C0 A0 false [] (fun k:Nat=>[(10,.c (vi k))]) (fun k=>[⟨0,[.c (Bn x.graph.nodes),.c (vi x.graph.workers),.c (vi x.graph.cap),.c (Al x.workers),.c (Cf x.links),.c (Bo x.tokens),.c (C5 x.news)]⟩]) (fun k=>[])
  (fun k=>k≤x.workers.length∧(x.workers.take k).all (fun w=>Ch w e)=true) (fun k=>x.workers.length-k) 0 ⟨Nat.zero_le _,by first|rfl|assumption|simp⟩ ⟨G3,trivial⟩ Cg trivial Co A7 (fun k hk=>?_)
 obtain ⟨hk,he⟩:=hk
 conv=>whnf
 refine F4 (fun h'=>?_) fun h'=>?_<;>conv=>whnf
 ·have h':k<x.workers.length:=by omega
  have hw:=Go.Sx.A3.worker_le h h'
  (repeat refine An ?_)
  refine At (Q2 (x.workers.getD k default) e Ac) rfl (A8 ?_)
  refine ⟨fun hc=>?_,fun hc=>?_⟩<;>conv=>whnf
  ·exact Ap A0 rfl rfl ⟨congrArg vb (Oe h' (by simpa using hc)),trivial⟩
  (repeat refine An ?_)
  refine B8 [] (k+1) ⟨by omega,M8 he h' (by simpa using hc)⟩ Ac ⟨rfl,trivial⟩ trivial Cg A7 Co A7
 exact Ap A0 rfl rfl ⟨congrArg vb (by rw [Ed x.workers k Ac] at he;exact he),trivial⟩
theorem A6s (x:A3)(e:Int)(h:x.w≤16777216):Be Tryz.prog 22 [.agg x.c,.one (vi e)] [.one (vb (Lf x e))]:=by
 have hl:=A3.links_le h
 refine B5 A0 false Tryz.func22 rfl Az fun W=>?_
 conv=>whnf
 refine C0 A0 false [] (fun k:Nat=>[(5,.c (vi k))]) (fun k=>[⟨0,[.c (Bn x.graph.nodes),.c (vi x.graph.workers),.c (vi x.graph.cap),.c (Al x.workers),.c (Cf x.links),.c (Bo x.tokens),.c (C5 x.news)]⟩]) (fun k=>[])
  (fun k=>k≤x.links.length∧(x.links.take k).any (fun l=>decide (((Cp l.queue e).length:Int)>0))=false) (fun k=>x.links.length-k) 0 ⟨Nat.zero_le _,by first|rfl|assumption|simp⟩ ⟨G3,trivial⟩ Cg trivial Co A7 (fun k hk=>?_)
 obtain ⟨hk,he⟩:=hk
 conv=>whnf
 refine F4 (fun h'=>?_) fun h'=>?_<;>conv=>whnf
 ·have h':k<x.links.length:=by omega
  have hw:=Go.Sx.A3.link_le h h'
  (repeat refine An ?_)
  refine At (A10 (x.links.getD k default) e Ac) rfl (A8 ?_)
  refine ⟨fun hc=>?_,fun hc=>?_⟩<;>conv=>whnf
  ·exact Ap A0 rfl rfl ⟨congrArg vb (by rw [Lf,if_pos (Is h' hc)]),trivial⟩
  (repeat refine An ?_)
  refine B8 [] (k+1) ⟨by omega,Fv he h' hc⟩ Ac ⟨rfl,trivial⟩ trivial Cg A7 Co A7
 (repeat refine An ?_)
 refine At (Pa x e h) rfl (A8 ?_)
 exact Ap A0 rfl rfl ⟨congrArg vb (by rw [Ed x.links k Ac] at he;rw [Lf,if_neg (by rw [he];decide)]),trivial⟩
theorem Qw (x:A3)(e:Int)(h:x.w≤16777216):Be Tryz.prog 21 [.agg x.c,.one (vi e)] [.one (vb (Lf x e))]:=by
 have hl:=A3.links_le h
 refine B5 A0 false Tryz.func21 rfl Az fun W=>?_
 conv=>whnf
 refine C0 A0 false [] (fun k:Nat=>[(10,.c (vi k))]) (fun k=>[⟨0,[.c (Bn x.graph.nodes),.c (vi x.graph.workers),.c (vi x.graph.cap),.c (Al x.workers),.c (Cf x.links),.c (Bo x.tokens),.c (C5 x.news)]⟩]) (fun k=>[])
  (fun k=>k≤x.links.length∧(x.links.take k).any (fun l=>decide (((Cp l.queue e).length:Int)>0))=false) (fun k=>x.links.length-k) 0 ⟨Nat.zero_le _,by first|rfl|assumption|simp⟩ ⟨G3,trivial⟩ Cg trivial Co A7 (fun k hk=>?_)
 obtain ⟨hk,he⟩:=hk
 conv=>whnf
 refine F4 (fun h'=>?_) fun h'=>?_<;>conv=>whnf
 ·have h':k<x.links.length:=by omega
  have hw:=Go.Sx.A3.link_le h h'
  (repeat refine An ?_)
  refine At (A07 (x.links.getD k default) e Ac) rfl (A8 ?_)
  refine ⟨fun hc=>?_,fun hc=>?_⟩<;>conv=>whnf
  ·exact Ap A0 rfl rfl ⟨congrArg vb (by rw [Lf,if_pos (Is h' hc)]),trivial⟩
  (repeat refine An ?_)
  refine B8 [] (k+1) ⟨by omega,Fv he h' hc⟩ Ac ⟨rfl,trivial⟩ trivial Cg A7 Co A7
 (repeat refine An ?_)
 refine At (Ol x e h) rfl (A8 ?_)
 exact Ap A0 rfl rfl ⟨congrArg vb (by rw [Ed x.links k Ac] at he;rw [Lf,if_neg (by rw [he];decide)]),trivial⟩
def A9 (c:A3) (e:Int):Cu:=c.tokens.getD e.toNat default
def Ab (c:A3) (j:Int):Aa:=c.workers.getD j.toNat default
def C9 (c:A3) (e:Int) (t:Cu):A3:=⟨c.graph,c.workers,c.links,c.tokens.set e.toNat t,c.news⟩
def B3 (c:A3) (j:Int) (w:Aa):A3:=⟨c.graph,c.workers.set j.toNat w,c.links,c.tokens,c.news⟩
def Ef (w:Aa) (e:Int):Aa:=⟨w.queue,w.staged,w.inputs,w.cells,w.sums,w.black.set e.toNat false,w.caps,w.dones⟩
def Ct (w:Aa) (d:Dn):Aa:=⟨w.queue,w.staged,w.inputs,w.cells,w.sums,w.black,w.caps,w.dones++[d]⟩
def Gd (e:Int) (b:Bool) (k:Nat):List Fe:=(List.range k).map fun (i:Nat)=>(⟨(i:Int)+1,e,b⟩:Fe)
def Gk (c:A3) (l:List Fe):A3:=⟨c.graph,c.workers,c.links,c.tokens,c.news++l⟩
def F2 (c:A3) (e:Int) (t:Cu) (w:Aa):A3:=
 if t.black=false∧w.black.getD e.toNat default=false∧t.sum+w.sums.getD e.toNat default=0 then
  Gk (B3 c 0 (Ct w ⟨e,t.capped||w.caps.getD e.toNat default⟩)) (Gd e (t.capped||w.caps.getD e.toNat default) (c.workers.length-1))
 else c
def K7 (c:A3) (e:Int):Prop:=As c∧(0≤e∧e≤3)∧Bf (Ab c 0) e=false∧Ch (Ab c (A9 c e).at_) e=true
instance (c:A3) (e:Int):Decidable (K7 c e):=by unfold K7;infer_instance
def Bc (c:A3) (e:Int):A3×Bool:=
 if K7 c e then
  let t:=A9 c e
  let w:=Ab c t.at_
  if t.going=false then (B3 (C9 c e ⟨true,(c.workers.length:Int)-1,0,false,w.caps.getD e.toNat default⟩) t.at_ (Ef w e),true)
  else if t.at_>0 then
   if Gj (t.sum+w.sums.getD e.toNat default) then
    (B3 (C9 c e ⟨t.going,t.at_-1,t.sum+w.sums.getD e.toNat default,t.black||w.black.getD e.toNat default,t.capped||w.caps.getD e.toNat default⟩) t.at_ (Ef w e),true)
   else (c,false)
  else (F2 (C9 c e ⟨false,t.at_,t.sum,t.black,t.capped⟩) e t w,true)
 else (c,false)
theorem Tm {c:A3}{e:Int}(h:K7 c e)(hg:(A9 c e).going=false):Bc c e=(B3 (C9 c e ⟨true,(c.workers.length:Int)-1,0,false,(Ab c (A9 c e).at_).caps.getD e.toNat default⟩) (A9 c e).at_ (Ef (Ab c (A9 c e).at_) e),true):=by
 rw [Bc,if_pos h]
 simp only [hg,if_true]
theorem A8s {c:A3}{e:Int}(h:K7 c e)(hg:(A9 c e).going=true)(ha:(A9 c e).at_>0)(hs:¬ Gj ((A9 c e).sum+(Ab c (A9 c e).at_).sums.getD e.toNat default)):Bc c e=(c,false):=by
 rw [Bc,if_pos h]
 simp only [hg,Bool.true_eq_false,if_false,if_pos ha,if_neg hs]
theorem Jk {c:A3}{e:Int}(h:K7 c e)(hg:(A9 c e).going=true)(ha:(A9 c e).at_>0)(hs:Gj ((A9 c e).sum+(Ab c (A9 c e).at_).sums.getD e.toNat default)):
  Bc c e=(B3 (C9 c e ⟨true,(A9 c e).at_-1,(A9 c e).sum+(Ab c (A9 c e).at_).sums.getD e.toNat default,(A9 c e).black||(Ab c (A9 c e).at_).black.getD e.toNat default,(A9 c e).capped||(Ab c (A9 c e).at_).caps.getD e.toNat default⟩) (A9 c e).at_ (Ef (Ab c (A9 c e).at_) e),true):=by
 rw [Bc,if_pos h]
 simp only [hg,Bool.true_eq_false,if_false,if_pos ha,if_pos hs]
theorem Nx {c:A3}{e:Int}(h:¬ K7 c e):Bc c e=(c,false):=by rw [Bc,if_neg h]
theorem Ck {α:Type} [Inhabited α] {es:Nat}{e:α→List Af}{l:List α}{j:Nat}{r:List Af}(h:r=e (l.getD j default)):Hk (.sl l.length es (Fh (fun i=>e (l.getD i default)) j r)) (Kq es e l):=by
 refine ⟨rfl,rfl,fun i _=>?_⟩
 unfold Fh
 split
 ·rename_i e;subst e;rw [h];exact Gi.rfl' _
 exact Gi.rfl' _
theorem Fw {α:Type} [Inhabited α] {es:Nat}{e:α→List Af}{l:List α}{j:Nat}{r:List Af}{x:α}(hj:j<l.length)(h:r=e x):Hk (.sl l.length es (Fh (fun i=>e (l.getD i default)) j r)) (Kq es e (l.set j x)):=by
 refine ⟨by rw [List.length_set],rfl,fun i _=>?_⟩
 unfold Fh
 split
 ·rename_i q
  subst q
  show Gi r (e ((l.set i x).getD i default))
  rw [h,Sx.getD_set_self _ _ _ _ hj]
  exact Gi.rfl' _
 rename_i q
 show Gi (e (l.getD i default)) (e ((l.set j x).getD i default))
 rw [Sx.getD_set_ne _ _ _ _ _ q]
 exact Gi.rfl' _
abbrev Td (x:A3) (b:Bool):List Af:=[Bn x.graph.nodes,vi x.graph.workers,vi x.graph.cap,Al x.workers,Cf x.links,Bo x.tokens,C5 x.news,vb b]
abbrev rc (x:A3):List Af:=Td x (B9 x)
theorem Jj {c:A3}{e:Int}(h:K7 c e)(hg:(A9 c e).going=true)(ha:¬ (A9 c e).at_>0):Bc c e=(F2 (C9 c e ⟨false,(A9 c e).at_,(A9 c e).sum,(A9 c e).black,(A9 c e).capped⟩) e (A9 c e) (Ab c (A9 c e).at_),true):=by
 rw [Bc,if_pos h]
 simp only [hg,Bool.true_eq_false,if_false,if_neg ha]
def Lz (l:List Bj) (x:Bj):Bool:=l.any fun y=>decide (y=x)
def Ku (l:List Bj) (x:Bj):Nat:=Fm (fun y=>!decide (Ja y x<0)) l
def Gl (l:List Bj) (x:Bj):List Bj:=if Lz l x=true then l else l.take (Ku l x)++x::l.drop (Ku l x)
def A1b (op e k:Int) (s:Int×Bool) (x:Bj):Int×Bool:=if (x.op=op∧x.epoch=e∧x.key=k)∧(s.2=false∨x.val<s.1) then (x.val,true) else s
def Kz (l:List Bj) (op e k:Int):Int×Bool:=l.foldl (A1b op e k) (0,false)
def C4 (a b:Bj):Bool:=decide (a.op=b.op∧a.epoch=b.epoch∧a.key=b.key)
def Wp (l:List Bj) (x:Bj):Prop:=(Kz l x.op x.epoch x.key).2=true∧(Kz l x.op x.epoch x.key).1≤x.val
instance (l:List Bj) (x:Bj):Decidable (Wp l x):=by unfold Wp;infer_instance
def Km (l:List Bj) (x:Bj):List Bj×Bool:=if Wp l x then (l,false) else (Gl (l.filter fun y=>!C4 x y) x,true)
def Dx (k:Int) (l:List Bj) (x:Bj):List Bj×Bool:=
 if k=5∨k=8 then Km l x else if k=6 then (if Lz l x=true then (l,false) else (Gl l x,true)) else (l,true)
theorem Ud (l:List Bj)(x:Bj)(hl:l.length≤16777216):Be Tryz.prog 179 [.one (Bm l),.agg x.c] [.one (vb (Lz l x))]:=by
 refine B5 A0 false Tryz.func179 rfl Az fun W=>?_
 conv=>whnf
 refine C0 A0 false [] (fun k:Nat=>[(5,.c (vi k))]) (fun k=>[⟨0,[.c (vi x.op),.c (vi x.epoch),.c (vi x.key),.c (vi x.val)]⟩]) (fun k=>[])
  (fun k=>k≤l.length∧(l.take k).any (fun y=>decide (y=x))=false) (fun k=>l.length-k) 0 ⟨Nat.zero_le _,by first|rfl|assumption|simp⟩ ⟨G3,trivial⟩ Cg trivial Co A7 (fun k hk=>?_)
 obtain ⟨hk,he⟩:=hk
 conv=>whnf
 refine F4 (fun h=>?_) fun h=>?_<;>conv=>whnf
 ·have h:k<l.length:=by omega
  (repeat refine An ?_)
  first|(refine Ax 4 rfl [0,1,2,3,4,5] A7 (A8 ?_))
  (repeat refine An ?_)
  refine ⟨fun hc=>?_,fun hc=>?_⟩<;>conv=>whnf
  ·have hc:decide (l.getD k default=x)=true:=by rw [←Bj.eqv];exact hc
   exact Ap A0 rfl rfl ⟨congrArg vb (show Lz l x=true from List.any_eq_true.2 ⟨_,Ay h,hc⟩),trivial⟩
  have hc:decide (l.getD k default=x)=false:=by rw [←Bj.eqv];exact hc
  (repeat refine An ?_)
  refine B8 [] (k+1) ⟨by omega,Fv he h hc⟩ Ac ⟨rfl,trivial⟩ trivial Cg A7 Co A7
 exact Ap A0 rfl rfl ⟨congrArg vb (show Lz l x=false by rw [Lz,←Ed l k Ac];exact he),trivial⟩
theorem Qt {α:Type} [Inhabited α] (p:α→Bool):∀(xs:List α) (k:Nat),k<xs.length→(∀i,i<k→p (xs.getD i default)=false)→p (xs.getD k default)=true→Fm p xs=k
 | [],_,h,_,_=>absurd h (Nat.not_lt_zero _)
 |x::r,0,_,_,hp=>by
  have:p x=true:=hp
  simp [Fm,this]
 |x::r,k+1,h,hb,hp=>by
  have h0:p x=false:=hb 0 Ac
  have:=Qt p r k (by simpa using h) (fun i hi=>hb (i+1) Ac) hp
  simp [Fm,h0,this]
theorem Z2 {α:Type} [Inhabited α] (p:α→Bool):∀(xs:List α),(∀i,i<xs.length→p (xs.getD i default)=false)→Fm p xs=xs.length
 | [],_=>rfl
 |x::r,hb=>by
  have h0:p x=false:=hb 0 Cv
  have:=Z2 p r (fun i hi=>hb (i+1) (by simpa using hi))
  simp [Fm,h0,this]
def ltX (x y:Bj):Bool:=!decide (Ja y x<0)
theorem B34 {l:List Bj}{x:Bj}{k:Nat}(h:k<l.length)(hb:∀i,i<k→ltX x (l.getD i default)=false)(hk:ltX x (l.getD k default)=true):Ku l x=k:=Qt _ l k h hb hk
theorem B0f {l:List Bj}{x:Bj}(hb:∀i,i<l.length→ltX x (l.getD i default)=false):Ku l x=l.length:=Z2 _ l hb
theorem Tk {α:Type} [Inhabited α] {es:Nat}{e:α→List Af}{xs:List α}{k:Nat}(h:k≤xs.length):Vb xs.length es (fun i=>e (xs.getD i default)) 0 (k:Int) (Kq es e (xs.take k)):=by
 have:=A1y (es:=es) (e:=e) (xs:=xs) (l:=0) (h:=(k:Int)) (Int.le_refl _) Ac Ac
 simpa using this
theorem Gt {α:Type} [Inhabited α] {es:Nat}{e:α→List Af}{xs:List α}{k:Nat}(h:k≤xs.length):Vb xs.length es (fun i=>e (xs.getD i default)) (k:Int) (xs.length:Int) (Kq es e (xs.drop k)):=by
 have:=A1y (es:=es) (e:=e) (xs:=xs) (l:=(k:Int)) (h:=(xs.length:Int)) Ac Ac Ac
 rwa [show (xs.drop (k:Int).toNat).take ((xs.length:Int)-(k:Int)).toNat=xs.drop k by rw [Int.toNat_natCast];exact List.take_of_length_le Cv] at this
theorem A8m (l:List Bj)(x:Bj)(k:Nat):Re (l.take k++[x]).length (l.drop k).length 4 (fun i=>Bj.c ((l.take k++[x]).getD i default)) (fun i=>Bj.c ((l.drop k).getD i default)) (Bm (l.take k++x::l.drop k)):=by
 rw [show l.take k++x::l.drop k=(l.take k++[x])++l.drop k by simp]
 exact Uy 4 Bj.c _ _
set_option maxHeartbeats 1000000 in
theorem Kh (l:List Bj)(x:Bj)(hl:l.length≤16000000):Be Tryz.prog 146 [.one (Bm l),.agg x.c] [.one (Bm (Gl l x))]:=by
 refine B5 A0 false Tryz.func146 rfl Az fun W=>?_
 conv=>whnf
 refine At (Ud l x Ac) rfl (A8 ?_)
 refine ⟨fun hc=>?_,fun hc=>?_⟩<;>conv=>whnf
 ·refine B6 A0 rfl rfl rfl rfl rfl rfl rfl rfl rfl rfl rfl (Bm l) (C1) (fun _=>Es l) Ac (A8 ?_)
  refine Ap A0 rfl rfl ⟨?_,trivial⟩
  rw [Gl,if_pos hc]
  rfl
 refine C0 A0 false [] (fun k:Nat=>[(5,.c (vi k))]) (fun k=>[⟨0,[.c (vi x.op),.c (vi x.epoch),.c (vi x.key),.c (vi x.val)]⟩]) (fun k=>[])
  (fun k=>k≤l.length∧∀i,i<k→ltX x (l.getD i default)=false) (fun k=>l.length-k) 0 ⟨Nat.zero_le _,by first|rfl|assumption|simp⟩ ⟨G3,trivial⟩ Cg trivial Co A7 (fun k hk=>?_)
 obtain ⟨hk,he⟩:=hk
 conv=>whnf
 first|(refine Ax 4 rfl [0,1,2,3,4,5,6,7,8,9,10,11,12] A7 (A8 ?_))|(refine Ax 6 rfl [1,2,3,5,0,4,6,7,8] A7 (A8 ?_))
 refine F4 (fun h=>?_) fun h=>?_<;>conv=>whnf
 ·have h:k<l.length:=by omega
  repeat refine Bd ?_
  refine At (Qc (l.getD k default) x) rfl (A8 ?_)
  repeat refine Bd ?_
  refine F4 (fun h2=>?_) fun h2=>?_<;>conv=>whnf
  ·(repeat refine An ?_)
   refine B8 [] (k+1) ⟨by omega,fun i hi=>(Nat.lt_succ_iff_lt_or_eq.1 hi).elim (fun h4=>he i h4) (fun h4=>by subst h4;simp only [ltX,Bool.not_eq_false',decide_eq_true_eq];exact h2)⟩ Ac ⟨rfl,trivial⟩ trivial Cg A7 Co A7
  refine Ks rfl ?_
  refine Ca A0 false 1 rfl rfl A7 rfl (A5 Bb) ?_
  refine Ca A0 false 2 rfl rfl A7 rfl (A5 Bb) ?_
  refine G0 (s':=?_) 3 rfl A7 ?_ ?_
  rotate_left
  refine A8 ?_
  refine Nl A0 rfl rfl rfl rfl rfl rfl rfl (l:=0) (h:=(k:Int)) rfl rfl ⟨by omega,by omega,by omega⟩ (Bm (l.take k)) (Tk Ac) (A8 ?_)
  exact Bh
  refine Mq [4,5,6,7,8] [⟨0,28,.emp 4⟩] A7 ?_
  refine Ji (s1:=?_) (s2:=?_) A0 [4,5,6,7,8] 4 5 [5,6,7,8] [4,6,7,8] rfl rfl A7 Dl Az Az ?_ ?_ ?_ ?_
  rotate_left 2
  refine A8 ?_
  refine B6 A0 rfl rfl rfl rfl rfl rfl rfl rfl rfl rfl rfl (Bm (l.take k)) (C1) (fun _=>Es _) (by (have:=List.length_take_le k l);omega) (A8 ?_)
  exact Bh
  refine Bk (s':=?_) A0 rfl A7 Dl ?_ ?_
  rotate_left
  refine A8 ?_
  (repeat refine An ?_)
  exact Bh
  refine Bk (s':=?_) A0 rfl A7 Dl ?_ ?_
  rotate_left
  refine A8 ?_
  (repeat refine An ?_)
  exact Bh
  refine Bk (s':=?_) A0 rfl A7 Dl ?_ ?_
  rotate_left
  refine A8 ?_
  refine B6 A0 rfl rfl rfl rfl rfl rfl rfl rfl rfl rfl rfl (Bm (l.take k++[x])) (Ad rfl) Bp (by (have:=List.length_take_le k l);omega) (A8 ?_)
  exact Bh
  refine Bk (s':=?_) A0 rfl A7 Dl ?_ ?_
  rotate_left
  refine A8 ?_
  (repeat refine An ?_)
  exact Bh
  refine Jt A0 A7 Dl (GW.out (I5 ?_))
  conv=>whnf
  rotate_left 1
  refine A8 ?_
  (repeat refine An ?_)
  exact Bh
  refine Ji (s1:=?_) (s2:=?_) A0 [4,6,7,8] 4 6 [6,7,8] [4,7,8] rfl rfl A7 Dl Az Az ?_ ?_ ?_ ?_
  rotate_left 2
  refine A8 ?_
  refine B6 A0 rfl rfl rfl rfl rfl rfl rfl rfl rfl rfl rfl (Bm (l.take k)) (C1) (fun _=>Es _) (by (have:=List.length_take_le k l);omega) (A8 ?_)
  exact Bh
  refine Bk (s':=?_) A0 rfl A7 Dl ?_ ?_
  rotate_left
  refine A8 ?_
  (repeat refine An ?_)
  exact Bh
  refine Bk (s':=?_) A0 rfl A7 Dl ?_ ?_
  rotate_left
  refine A8 ?_
  refine B6 A0 rfl rfl rfl rfl rfl rfl rfl rfl rfl rfl rfl (Bm (l.take k++[x])) (Ad rfl) Bp (by (have:=List.length_take_le k l);omega) (A8 ?_)
  exact Bh
  refine Bk (s':=?_) A0 rfl A7 Dl ?_ ?_
  rotate_left
  refine A8 ?_
  (repeat refine An ?_)
  exact Bh
  refine Jt A0 A7 Dl (GW.out (I5 ?_))
  conv=>whnf
  rotate_left 1
  refine A8 ?_
  (repeat refine An ?_)
  exact Bh
  refine Bk (s':=?_) A0 rfl A7 Dl ?_ ?_
  rotate_left
  refine A8 ?_
  refine B6 A0 rfl rfl rfl rfl rfl rfl rfl rfl rfl rfl rfl (Bm (l.take k)) (C1) (fun _=>Es _) (by (have:=List.length_take_le k l);omega) (A8 ?_)
  exact Bh
  refine Bk (s':=?_) A0 rfl A7 Dl ?_ ?_
  rotate_left
  refine A8 ?_
  refine B6 A0 rfl rfl rfl rfl rfl rfl rfl rfl rfl rfl rfl (Bm (l.take k++[x])) (Ad rfl) Bp (by (have:=List.length_take_le k l);omega) (A8 ?_)
  exact Bh
  refine Bk (s':=?_) A0 rfl A7 Dl ?_ ?_
  rotate_left
  refine A8 ?_
  (repeat refine An ?_)
  exact Bh
  refine Jt A0 A7 Dl (GW.out (I5 ?_))
  conv=>whnf
  all_goals
   refine Nl A0 rfl rfl rfl rfl rfl rfl rfl (l:=(k:Int)) (h:=(l.length:Int)) rfl rfl ⟨by omega,by omega,by omega⟩ (Bm (l.drop k)) (Gt Ac) (A8 ?_)
   refine B6 A0 rfl rfl rfl rfl rfl rfl rfl rfl rfl rfl rfl (Bm (l.take k++x::l.drop k)) (A8m l x k) (fun _=>Es _) (by (have:=List.length_take_le k l;have:=List.length_drop (i:=k) (l:=l);simp only [List.length_append,List.length_singleton];omega)) (A8 ?_)
   refine Ap A0 rfl rfl ⟨?_,trivial⟩
   rw [Gl,if_neg (by rw [hc];decide),B34 h he (by simp only [ltX,Bool.not_eq_true',decide_eq_false_iff_not];exact h2)]
   rfl
 repeat refine Bd ?_
 refine Ks rfl ?_
 refine Ca A0 false 1 rfl rfl A7 rfl (A5 Bb) ?_
 refine Ca A0 false 2 rfl rfl A7 rfl (A5 Bb) ?_
 refine G0 (s':=?_) 3 rfl A7 ?_ ?_
 rotate_left
 refine A8 ?_
 refine Nl A0 rfl rfl rfl rfl rfl rfl rfl (l:=0) (h:=(k:Int)) rfl rfl ⟨by omega,by omega,by omega⟩ (Bm (l.take k)) (Tk Ac) (A8 ?_)
 exact Bh
 refine Mq [4,5,6,7,8] [⟨0,28,.emp 4⟩] A7 ?_
 refine Ji (s1:=?_) (s2:=?_) A0 [4,5,6,7,8] 4 5 [5,6,7,8] [4,6,7,8] rfl rfl A7 Dl Az Az ?_ ?_ ?_ ?_
 rotate_left 2
 refine A8 ?_
 refine B6 A0 rfl rfl rfl rfl rfl rfl rfl rfl rfl rfl rfl (Bm (l.take k)) (C1) (fun _=>Es _) (by (have:=List.length_take_le k l);omega) (A8 ?_)
 exact Bh
 refine Bk (s':=?_) A0 rfl A7 Dl ?_ ?_
 rotate_left
 refine A8 ?_
 (repeat refine An ?_)
 exact Bh
 refine Bk (s':=?_) A0 rfl A7 Dl ?_ ?_
 rotate_left
 refine A8 ?_
 (repeat refine An ?_)
 exact Bh
 refine Bk (s':=?_) A0 rfl A7 Dl ?_ ?_
 rotate_left
 refine A8 ?_
 refine B6 A0 rfl rfl rfl rfl rfl rfl rfl rfl rfl rfl rfl (Bm (l.take k++[x])) (Ad rfl) Bp (by (have:=List.length_take_le k l);omega) (A8 ?_)
 exact Bh
 refine Bk (s':=?_) A0 rfl A7 Dl ?_ ?_
 rotate_left
 refine A8 ?_
 (repeat refine An ?_)
 exact Bh
 refine Jt A0 A7 Dl (GW.out (I5 ?_))
 conv=>whnf
 rotate_left 1
 refine A8 ?_
 (repeat refine An ?_)
 exact Bh
 refine Ji (s1:=?_) (s2:=?_) A0 [4,6,7,8] 4 6 [6,7,8] [4,7,8] rfl rfl A7 Dl Az Az ?_ ?_ ?_ ?_
 rotate_left 2
 refine A8 ?_
 refine B6 A0 rfl rfl rfl rfl rfl rfl rfl rfl rfl rfl rfl (Bm (l.take k)) (C1) (fun _=>Es _) (by (have:=List.length_take_le k l);omega) (A8 ?_)
 exact Bh
 refine Bk (s':=?_) A0 rfl A7 Dl ?_ ?_
 rotate_left
 refine A8 ?_
 (repeat refine An ?_)
 exact Bh
 refine Bk (s':=?_) A0 rfl A7 Dl ?_ ?_
 rotate_left
 refine A8 ?_
 refine B6 A0 rfl rfl rfl rfl rfl rfl rfl rfl rfl rfl rfl (Bm (l.take k++[x])) (Ad rfl) Bp (by (have:=List.length_take_le k l);omega) (A8 ?_)
 exact Bh
 refine Bk (s':=?_) A0 rfl A7 Dl ?_ ?_
 rotate_left
 refine A8 ?_
 (repeat refine An ?_)
 exact Bh
 refine Jt A0 A7 Dl (GW.out (I5 ?_))
 conv=>whnf
 rotate_left 1
 refine A8 ?_
 (repeat refine An ?_)
 exact Bh
 refine Bk (s':=?_) A0 rfl A7 Dl ?_ ?_
 rotate_left
 refine A8 ?_
 refine B6 A0 rfl rfl rfl rfl rfl rfl rfl rfl rfl rfl rfl (Bm (l.take k)) (C1) (fun _=>Es _) (by (have:=List.length_take_le k l);omega) (A8 ?_)
 exact Bh
 refine Bk (s':=?_) A0 rfl A7 Dl ?_ ?_
 rotate_left
 refine A8 ?_
 refine B6 A0 rfl rfl rfl rfl rfl rfl rfl rfl rfl rfl rfl (Bm (l.take k++[x])) (Ad rfl) Bp (by (have:=List.length_take_le k l);omega) (A8 ?_)
 exact Bh
 refine Bk (s':=?_) A0 rfl A7 Dl ?_ ?_
 rotate_left
 refine A8 ?_
 (repeat refine An ?_)
 exact Bh
 refine Jt A0 A7 Dl (GW.out (I5 ?_))
 conv=>whnf
 all_goals
  refine Nl A0 rfl rfl rfl rfl rfl rfl rfl (l:=(k:Int)) (h:=(l.length:Int)) rfl rfl ⟨by omega,by omega,by omega⟩ (Bm (l.drop k)) (Gt Ac) (A8 ?_)
  refine B6 A0 rfl rfl rfl rfl rfl rfl rfl rfl rfl rfl rfl (Bm (l.take k++x::l.drop k)) (A8m l x k) (fun _=>Es _) (by (have:=List.length_take_le k l;have:=List.length_drop (i:=k) (l:=l);simp only [List.length_append,List.length_singleton];omega)) (A8 ?_)
  refine Ap A0 rfl rfl ⟨?_,trivial⟩
  rw [Gl,if_neg (by rw [hc];decide),(show Ku l x=k by rw [B0f (fun i hi=>he i Ac)];omega)]
  rfl
end Go.Proofs.YtdendlkeiaccpaaGreatDoor
