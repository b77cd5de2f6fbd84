/- Part 37 of the proof that the law FnTold returns true for every input. No conditions. -/
import Derived.Test.YtdendlkeiaccpaaGreatDoorP36
import Derived.Test.YtdendlkeiaccpaaGreatDoorTie
import Derived.Test.YtdendlkeiaccpaaGreatDoorCards
import Derived.LaidMore
import Derived.Stop.LaidErr
import Derived.Lib.LaidTab
import Derived.SevenTiedAt
import Derived.Deep.DeepHandedRow
import Derived.Lay
import Derived.Test.YtdendlkeiaccpaaGreatDoorRows
import Derived.WalkKit
import Derived.ProofKit
import Derived.OpenShut
import Derived.ShutString
import Derived.ChangeOld
import Derived.Below
import Derived.KernelRfl

set_option linter.unusedSimpArgs false
set_option linter.unusedVariables false
set_option maxRecDepth 100000
namespace Go.Proofs.YtdendlkeiaccpaaGreatDoor
open Go.Sx
theorem law (x0:List UInt8)(_o0:x0.length≤maxLen):G2 Tryz.prog Tab 4 [.one (Sp x0)] [.one (vb true)]:=B5k x0
end Go.Proofs.YtdendlkeiaccpaaGreatDoor
set_option maxRecDepth 100000
namespace Go.Proofs.YtdendlkeiaccpaaGreatDoor
open Go.ChangeShapes Go.WideShapes Go.ChangeAt Go.RowKit
open Go.Sx
theorem own:ownKnob Tryz.prog.godebug=none:=by kernel_rfl
theorem B29:laidOutB Tryz.prog=true:=by kernel_rfl
theorem A3o {w w':World}{e:Ending}(h:Kg w w' [.one (vb true)] e):e= .returned (.bool true)∧Go.RowKit.Below w.heap.size w w':=by
 obtain ⟨hb,rs,fps,he,hl,ho,_⟩:=h
 match rs,hl with
 | [r],_=>
  have:=ho 0 _ rfl
  simp only [List.getD_cons_zero] at this
  have e1:r= .bool true:=by
   change C5 w' (vb true) r (fps 0) at this
   generalize fps 0=g at this
   cases this;rfl
  subst e1
  exact ⟨he,by first|exact hb|exact hb.kit⟩
theorem B4g {f:Nat}{cs:List Ac}(h:Gs Tryz.prog f 5 cs):∃x:UInt8,True∧Wk cs ([vy x]):=by
 cases f with
 |zero=>exact h.elim
 |succ f=>
  simp only [Gs,Tryz.underlying5] at h
  obtain ⟨n,h1,rfl⟩:=h
  have h1:0≤n∧n≤255:=h1
  have e:((UInt8.ofNat n.toNat).toNat:Int)=n:=by rw [UInt8.toNat_ofNat'];omega
  exact ⟨UInt8.ofNat n.toNat,trivial,by rw [show vy (UInt8.ofNat n.toNat)= .val (.int .u8 n) from congrArg (fun m=>Ac.val (.int .u8 m)) e];exact .refl _⟩
theorem B7o {f:Nat}{cs:List Ac}(h:Gs Tryz.prog f 22 cs):∃x:List UInt8,x.length≤maxLen∧Wk cs ([Sp x]):=by
 cases f with
 |zero=>exact h.elim
 |succ f=>
  simp only [Gs,Tryz.underlying22] at h
  obtain ⟨n,row,hn,rfl,hr⟩:=h
  rw [show Tryz.prog.cellsOf 5=1 by kernel_rfl]
  obtain ⟨xs,hl,ho,hw⟩:=B68 (e:=(fun b=>[vy b])) (ok:=fun y=>True) (fun i hi=>B4g (hr i hi))
  exact ⟨xs,Ab,hw⟩
theorem A9h (os:Os)(args:Array Value):laidMetH Tryz.prog Rows.fnToldRow.laid ((World.doorLaid Tryz.prog 400 os).forCall (fun _ _=>0) ⟨#[],args,[]⟩).memory:=
 laidMetH_of_parts3 (fuel:=8) (laidMet_of_run' 8 A7 A7) A7 A7
theorem A2s {W:World}(h:laidMetH Tryz.prog Rows.fnToldRow.laid W):Tab W:=by
 rw [MakeChecks.laidMetH_plain _ _ _ A7] at h
 exact Lib.tabIs_of_head (g:=0) (t:=214) (e:=199) (n:=20) A7 A7 Tryz.underlying214 Tryz.underlying199 A7 A7 (show laidMet Tryz.prog (("internal/strconv.uint64pow10",Lib.tabData .u64 Lib.pow10Tab)::[]) W from laidMet.tail (laidMet.tail (show laidMet Tryz.prog Rows.fnToldRow.laid W from h)))
set_option maxRecDepth 100000 in
theorem B5n (os:Os)(started:os.Started)(H:Type)(enc:TypeId×Value→H):
  ReturnsInHanded {} Tryz.checked os 4 .any (fun w args=>(Rows.fnToldSpec.pre enc Tryz.prog Tryz.f4 [] false w args∧laidMetH Tryz.prog Rows.fnToldRow.laid w)∧sizedMet enc Tryz.prog Tryz.f4 (OpenSpec.ofChange Rows.fnToldSpec) false w args)
   (Rows.fnToldSpec.post enc Tryz.prog Tryz.f4 false true false false):=by
 refine returnsInHanded_of_change_and (C:=Tryz.checked) (X:=fun w _=>laidMetH Tryz.prog Rows.fnToldRow.laid w) (fun _ _ _ hh h=>h.of_heap hh) own started A7 Tryz.func4
  (ChangeSpec.witness_shaped (enc:=enc) (C:=Tryz.checked) (os:=os) (X:=fun w _=>laidMetH Tryz.prog Rows.fnToldRow.laid w) false (World.doorLaid Tryz.prog 400 os) #[.slice none 0 0] 8 rfl (World.shaped_of_RefB A7 A7) A7 A7 A7 (A9h os _)) ?_
 intro W base args ds gs before hval0 hW _ _ hL _
 have hval:∀(j:Nat) t v,Tryz.f4.params[j]? =some t→args[j]? =some v→Value.okWide Tryz.prog W .any base t v:=hval0
 have hW':=hW
 obtain ⟨p,q,hA0,hV,rfl,hfz,hnd⟩:=hW
 have hA:DataW.TrodAll enc Tryz.prog W 0 (fun _=>true) true Tryz.f4.params.toList args.toList ds p:=hA0
 rw [Tryz.params4] at hA hval
 obtain ⟨v0,vs0,d0,ds0,p0,q0,hargs,rfl,rfl,t0,r0⟩:=trodAll_cons hA
 obtain ⟨rfl,rfl,rfl⟩:=trodAll_nil r0
 obtain rfl:args= #[v0]:=by cases args;simp_all
 obtain ⟨rfl,rfl⟩:=trodVars_none hV
 obtain ⟨a0,len0,cap0,rfl⟩:=okWide_slice Tryz.underlying22 (hval 0 22 v0 rfl rfl)
 have k0:=t0
 have lt0:∀x∈p0,x.block<W.heap.size:=by obtain ⟨m,hm⟩:=k0;exact DataW.trod_lt m _ _ _ hm
 obtain ⟨f0,hf0⟩:=t0
 obtain ⟨xs0,rep0,sh0⟩:=B15 f0 22 _ _ 9 A7 hf0
 obtain ⟨x0,o0,w0⟩:=B7o sh0
 clear hA0 hval0
 refine ((law x0 o0).2 W (A2s hL) [_] rfl (fun i z hz=>?_)).mono fun e W' hg=>?_
 ·match i,hz with
  | 0,hz=>simp only [List.getElem?_cons_zero,Option.some.injEq] at hz;subst hz;exact (w0.repL rep0).arg1
  |i+1,hz=>simp at hz
 obtain ⟨he,bel⟩:=A3o hg
 subst he
 exact ⟨_,rfl,_,_,_,[],_,[],hW',trodAll_mk1 (shut_bool Tryz.underlying4 _),(trodAll_cons_mk (Below.trod B29 A7 (of_decide_eq_true A7) k0 bel lt0) trodAll_mk0),rfl,bel.frame _,fun h=>by cases h⟩
theorem B7n:Rows.fnToldRow.holds Tryz.pinned (OpenSpec.ofChange Rows.fnToldSpec):=
 OpenClaim.holds_of_wide 4 Tryz.f4 rfl rfl rfl rfl rfl rfl rfl ⟨rfl,rfl,rfl,rfl,rfl⟩ rfl rfl rfl rfl rfl A7 Tryz.func4 A7
  (of_decide_eq_true A7) (by unfold Func.isWrapper;first|(rw [if_pos (by decide+kernel)];kernel_rfl)|(rw [if_neg (by decide+kernel)];exact ⟨rfl,rfl⟩))
  (fun os started H enc _=>B5n os started H enc)
theorem proved:Rows.FnToldCardSaid:=
 Claim7.holds_tied_plain_at .later [] [.data,.data,.data] true (true, "4e6b1dea5616ecc9e44fe6aa1756b010c85b4bd060d7dbe6926ee61ef0fc3c9d") false
  B7n (fun _ h=>by cases h) A7 (fun _ h=>by cases h) fnTold_row_tie rfl ⟨rfl,rfl⟩ A7 rfl
  (fun f fn hf hfn=>by
   obtain rfl:f=4:=Option.some.inj ((show Tryz.prog.funcNamed "loop.example/g00973/laws.FnTold" =some 4 by kernel_rfl).symm.trans hf) |>.symm
   obtain rfl:fn=Tryz.f4:=(Option.some.inj (Tryz.func4.symm.trans hfn)).symm
   exact ⟨by kernel_rfl,fun j t ht=>by
    rw [Tryz.params4] at ht
    have hm:t∈[22]:=by simpa using Array.mem_of_getElem? ht
    have hall:([22].all fun u=>!Tryz.prog.wantsStandIn u)=true:=by kernel_rfl
    exact (show Tryz.prog.wantsStandIn t=false by simpa using List.all_eq_true.1 hall t hm)⟩)
  A7
end Go.Proofs.YtdendlkeiaccpaaGreatDoor
