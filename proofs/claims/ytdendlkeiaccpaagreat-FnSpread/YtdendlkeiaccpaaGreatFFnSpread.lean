/- Part 26 of the proof that the law FnSpread returns true for every input. No conditions. -/
import Derived.Test.YtdendlkeiaccpaaGreatQ25
import Derived.Test.YtdendlkeiaccpaaGreatRows
import Derived.WalkKit
import Derived.ProofKit
import Derived.OpenShut
import Derived.ShutString
import Derived.ChangeOld
import Derived.Below
import Derived.KernelRfl

set_option linter.unusedSimpArgs false
set_option linter.unusedVariables false
set_option maxRecDepth 100000
namespace Go.Proofs.YtdendlkeiaccpaaGreat
open Go.Sx
theorem law (x0:List UInt8)(_o0:x0.length≤maxLen):B3 Tryz.prog 3 [.one (B90 x0)] [.one (vb true)]:=B76 x0
end Go.Proofs.YtdendlkeiaccpaaGreat
set_option maxRecDepth 100000
namespace Go.Proofs.YtdendlkeiaccpaaGreat
open Go.ChangeShapes Go.WideShapes Go.ChangeAt Go.RowKit
open Go.Sx
theorem own:ownKnob Tryz.prog.godebug=none:=by kernel_rfl
theorem C1m:laidOutB Tryz.prog=true:=by kernel_rfl
theorem B01 {w w':World}{e:Ending}(h:Lr w w' [.one (vb true)] e):e= .returned (.bool true)∧Go.RowKit.Below w.heap.size w w':=by
 obtain ⟨hb,rs,fps,he,hl,ho,_⟩:=h
 match rs,hl with
 | [r],_=>
  have:=ho 0 _ rfl
  simp only [List.getD_cons_zero] at this
  have e1:r= .bool true:=by
   change D3 w' (vb true) r (fps 0) at this
   generalize fps 0=g at this
   cases this;rfl
  subst e1;exact ⟨he,by first|exact hb|exact hb.kit⟩
theorem C2s {f:Nat}{cs:List Ai}(h:Ij Tryz.prog f 5 cs):∃x:UInt8,True∧Wk cs ([vy x]):=by
 cases f with
 |zero=>exact h.elim
 |succ f=>
  simp only [Ij,Tryz.underlying5] at h;obtain ⟨n,h1,rfl⟩:=h;have h1:0≤n∧n≤255:=h1;have e:((UInt8.ofNat n.toNat).toNat:Int)=n:=by rw [UInt8.toNat_ofNat'];omega
  exact ⟨UInt8.ofNat n.toNat,trivial,by rw [show vy (UInt8.ofNat n.toNat)= .val (.int .u8 n) from congrArg (fun m=>Ai.val (.int .u8 m)) e];exact .refl _⟩
theorem C6d {f:Nat}{cs:List Ai}(h:Ij Tryz.prog f 22 cs):∃x:List UInt8,x.length≤maxLen∧Wk cs ([B90 x]):=by
 cases f with
 |zero=>exact h.elim
 |succ f=>
  simp only [Ij,Tryz.underlying22] at h;obtain ⟨n,row,hn,rfl,hr⟩:=h;rw [show Tryz.prog.cellsOf 5=1 by kernel_rfl]
  obtain ⟨xs,hl,ho,hw⟩:=C5p (e:=(fun b=>[vy b])) (ok:=fun y=>True) (fun i hi=>C2s (hr i hi));exact ⟨xs,Ad,hw⟩
theorem C31 (os:Os)(started:os.Started)(H:Type)(enc:TypeId×Value→H):
  ReturnsInHanded {} Tryz.checked os 3 .any (Rows.fnSpreadSpec.pre6 enc Tryz.prog Tryz.f3 Rows.fnSpreadRow.domain false) (Rows.fnSpreadSpec.post enc Tryz.prog Tryz.f3 false true false false):=by
 refine returnsInHanded_of_change (C:=Tryz.checked) own started A6 Tryz.func3
  (ChangeSpec.witness6 (enc:=enc) (C:=Tryz.checked) false ⟨#[],#[.slice none 0 0],[]⟩ 8 A6 A6 A6 A6) ?_
 intro W base args ds gs before hval0 hW hcnd _;have hval:∀(j:Nat) t v,Tryz.f3.params[j]? =some t→args[j]? =some v→Value.okWide Tryz.prog W .any base t v:=hval0;have hW':=hW;obtain ⟨p,q,hA0,hV,rfl,hfz,hnd⟩:=hW;have hA:DataW.TrodAll enc Tryz.prog W 0 (fun _=>true) true Tryz.f3.params.toList args.toList ds p:=hA0;rw [Tryz.params3] at hA hval;obtain ⟨v0,vs0,d0,ds0,p0,q0,hargs,rfl,rfl,t0,r0⟩:=trodAll_cons hA;obtain ⟨rfl,rfl,rfl⟩:=trodAll_nil r0;obtain rfl:args= #[v0]:=by cases args;simp_all
 obtain ⟨rfl,rfl⟩:=trodVars_none hV;obtain ⟨a0,len0,cap0,rfl⟩:=okWide_slice Tryz.underlying22 (hval 0 22 v0 rfl rfl);have k0:=t0;have lt0:∀x∈p0,x.block<W.heap.size:=by obtain ⟨m,hm⟩:=k0;exact DataW.trod_lt m _ _ _ hm
 obtain ⟨f0,hf0⟩:=t0;obtain ⟨xs0,rep0,sh0⟩:=C0j f0 22 _ _ 9 A6 hf0;obtain ⟨x0,o0,w0⟩:=C6d sh0
 clear hA0 hval0
 refine ((law x0 o0).2 W [_] rfl (fun i z hz=>?_)).mono fun e W' hg=>?_
 ·match i,hz with
  | 0,hz=>simp only [List.getElem?_cons_zero,Option.some.injEq] at hz;subst hz;exact (w0.repL rep0).arg1
  |i+1,hz=>simp at hz
 obtain ⟨he,bel⟩:=B01 hg;subst he;exact ⟨_,rfl,_,_,_,[],_,[],hW',trodAll_mk1 (shut_bool Tryz.underlying4 _),(trodAll_cons_mk (Go.RowKit.Below.trod C1m A6 (of_decide_eq_true A6) k0 bel lt0) trodAll_mk0),rfl,bel.frame _,fun h=>by cases h⟩
theorem C6c:Rows.fnSpreadRow.holds Tryz.pinned (OpenSpec.ofChange Rows.fnSpreadSpec):=
 OpenClaim.holds_of_wide 3 Tryz.f3 rfl rfl rfl rfl rfl rfl rfl ⟨rfl,rfl,rfl,rfl,rfl⟩ rfl rfl rfl rfl rfl A6 Tryz.func3 A6
  (of_decide_eq_true A6) (by unfold Func.isWrapper;first|(rw [if_pos (by decide+kernel)];kernel_rfl)|(rw [if_neg (by decide+kernel)];exact ⟨rfl,rfl⟩))
  (fun os started H enc _=>C31 os started H enc)
theorem proved:Rows.FnSpreadSaid:=C6c
end Go.Proofs.YtdendlkeiaccpaaGreat
