/- Part 43 of the proof that the law FnColours returns true for every input. No conditions. -/
import Derived.Test.YtdendlkeiaccpaaGreatDoorP42
import Derived.Test.YtdendlkeiaccpaaGreatDoorTie
import Derived.Test.YtdendlkeiaccpaaGreatDoorCards
import Derived.LaidMore
import Derived.Stop.LaidErr
import Derived.Lib.LaidTab
import Derived.SevenTiedAt
import Derived.Deep.DeepHandedRow
import Derived.Lay
import Derived.Test.YtdendlkeiaccpaaGreatDoorRows
import Derived.WalkKit
import Derived.ProofKit
import Derived.OpenShut
import Derived.ShutString
import Derived.ChangeOld
import Derived.Below
import Derived.KernelRfl

set_option linter.unusedSimpArgs false
set_option linter.unusedVariables false
set_option maxRecDepth 100000
namespace Go.Proofs.YtdendlkeiaccpaaGreatDoor
open Go.Sx
theorem law (x0:List UInt8)(_o0:x0.length≤maxLen):Kk Tryz.prog Tab 3 [.one (U8 x0)] [.one (vb true)]:=A9q x0
end Go.Proofs.YtdendlkeiaccpaaGreatDoor
set_option maxRecDepth 100000
namespace Go.Proofs.YtdendlkeiaccpaaGreatDoor
open Go.ChangeShapes Go.WideShapes Go.ChangeAt Go.RowKit
open Go.Sx
theorem own:ownKnob Tryz.prog.godebug=none:=by kernel_rfl
theorem B5u:laidOutB Tryz.prog=true:=by kernel_rfl
theorem A5u {w w':World}{e:Ending}(h:Lm w w' [.one (vb true)] e):e= .returned (.bool true)∧Below w.heap.size w w':=by
 obtain ⟨hb,rs,fps,he,hl,ho,_⟩:=h
 match rs,hl with
 | [r],_=>
  have:=ho 0 _ rfl
  simp only [List.getD_cons_zero] at this
  have e1:r= .bool true:=by
   change Ci w' (vb true) r (fps 0) at this
   generalize fps 0=g at this
   cases this;rfl
  subst e1
  exact ⟨he,hb⟩
theorem B63 {f:Nat}{cs:List Af}(h:Hc Tryz.prog f 5 cs):∃x:UInt8,True∧Wk cs ([vy x]):=by
 cases f with
 |zero=>exact h.elim
 |succ f=>
  simp only [Hc,Tryz.underlying5] at h
  obtain ⟨n,h1,rfl⟩:=h
  have h1:0≤n∧n≤255:=h1
  have e:((UInt8.ofNat n.toNat).toNat:Int)=n:=by rw [UInt8.toNat_ofNat'];omega
  exact ⟨UInt8.ofNat n.toNat,trivial,by rw [show vy (UInt8.ofNat n.toNat)= .val (.int .u8 n) from congrArg (fun m=>Af.val (.int .u8 m)) e];exact .refl _⟩
theorem B94 {f:Nat}{cs:List Af}(h:Hc Tryz.prog f 22 cs):∃x:List UInt8,x.length≤maxLen∧Wk cs ([U8 x]):=by
 cases f with
 |zero=>exact h.elim
 |succ f=>
  simp only [Hc,Tryz.underlying22] at h
  obtain ⟨n,row,hn,rfl,hr⟩:=h
  rw [show Tryz.prog.cellsOf 5=1 by kernel_rfl]
  obtain ⟨xs,hl,ho,hw⟩:=B9t (e:=(fun b=>[vy b])) (ok:=fun y=>True) (fun i hi=>B63 (hr i hi))
  exact ⟨xs,Ac,hw⟩
theorem B2a (os:Os)(args:Array Value):laidMetH Tryz.prog Rows.fnColoursRow.laid ((World.doorLaid Tryz.prog 400 os).forCall (fun _ _=>0) ⟨#[],args,[]⟩).memory:=
 laidMetH_of_parts3 (fuel:=8) (laidMet_of_run' 8 A7 A7) A7 A7
theorem A4v {W:World}(h:laidMetH Tryz.prog Rows.fnColoursRow.laid W):Tab W:=by
 rw [MakeChecks.laidMetH_plain _ _ _ A7] at h
 exact Lib.tabIs_of_head (g:=0) (t:=214) (e:=199) (n:=20) A7 A7 Tryz.underlying214 Tryz.underlying199 A7 A7 (show laidMet Tryz.prog (("internal/strconv.uint64pow10",Lib.tabData .u64 Lib.pow10Tab)::[]) W from laidMet.tail (laidMet.tail (show laidMet Tryz.prog Rows.fnColoursRow.laid W from h)))
set_option maxRecDepth 100000 in
theorem B76 (os:Os)(started:os.Started)(H:Type)(enc:TypeId×Value→H):
  ReturnsInHanded {} Tryz.checked os 3 .any (fun w args=>(Rows.fnColoursSpec.pre enc Tryz.prog Tryz.f3 [] false w args∧laidMetH Tryz.prog Rows.fnColoursRow.laid w)∧sizedMet enc Tryz.prog Tryz.f3 (OpenSpec.ofChange Rows.fnColoursSpec) false w args)
   (Rows.fnColoursSpec.post enc Tryz.prog Tryz.f3 false true false false):=by
 refine returnsInHanded_of_change_and (C:=Tryz.checked) (X:=fun w _=>laidMetH Tryz.prog Rows.fnColoursRow.laid w) (fun _ _ _ hh h=>h.of_heap hh) own started A7 Tryz.func3
  (ChangeSpec.witness_shaped (enc:=enc) (C:=Tryz.checked) (os:=os) (X:=fun w _=>laidMetH Tryz.prog Rows.fnColoursRow.laid w) false (World.doorLaid Tryz.prog 400 os) #[.slice none 0 0] 8 rfl (World.shaped_of_RefB A7 A7) A7 A7 A7 (B2a os _)) ?_
 intro W base args ds gs before hval0 hW _ _ hL _
 have hval:∀(j:Nat) t v,Tryz.f3.params[j]? =some t→args[j]? =some v→Value.okWide Tryz.prog W .any base t v:=hval0
 have hW':=hW
 obtain ⟨p,q,hA0,hV,rfl,hfz,hnd⟩:=hW
 have hA:DataW.TrodAll enc Tryz.prog W 0 (fun _=>true) true Tryz.f3.params.toList args.toList ds p:=hA0
 rw [Tryz.params3] at hA hval
 obtain ⟨v0,vs0,d0,ds0,p0,q0,hargs,rfl,rfl,t0,r0⟩:=trodAll_cons hA
 obtain ⟨rfl,rfl,rfl⟩:=trodAll_nil r0
 obtain rfl:args= #[v0]:=by cases args;simp_all
 obtain ⟨rfl,rfl⟩:=trodVars_none hV
 obtain ⟨a0,len0,cap0,rfl⟩:=okWide_slice Tryz.underlying22 (hval 0 22 v0 rfl rfl)
 have k0:=t0
 have lt0:∀x∈p0,x.block<W.heap.size:=by obtain ⟨m,hm⟩:=k0;exact DataW.trod_lt m _ _ _ hm
 obtain ⟨f0,hf0⟩:=t0
 obtain ⟨xs0,rep0,sh0⟩:=B4s f0 22 _ _ 9 A7 hf0
 obtain ⟨x0,o0,w0⟩:=B94 sh0
 clear hA0 hval0
 refine ((law x0 o0).2 W (A4v hL) [_] rfl (fun i z hz=>?_)).mono fun e W' hg=>?_
 ·match i,hz with
  | 0,hz=>simp only [List.getElem?_cons_zero,Option.some.injEq] at hz;subst hz;exact (w0.repL rep0).arg1
  |i+1,hz=>simp at hz
 obtain ⟨he,bel⟩:=A5u hg
 subst he
 exact ⟨_,rfl,_,_,_,[],_,[],hW',trodAll_mk1 (shut_bool Tryz.underlying4 _),(trodAll_cons_mk (Below.trod B5u A7 (of_decide_eq_true A7) k0 bel lt0) trodAll_mk0),rfl,bel.frame _,fun h=>by cases h⟩
theorem B93:Rows.fnColoursRow.holds Tryz.pinned (OpenSpec.ofChange Rows.fnColoursSpec):=
 OpenClaim.holds_of_wide 3 Tryz.f3 rfl rfl rfl rfl rfl rfl rfl ⟨rfl,rfl,rfl,rfl,rfl⟩ rfl rfl rfl rfl rfl A7 Tryz.func3 A7
  (of_decide_eq_true A7) (by unfold Func.isWrapper;first|(rw [if_pos (by decide+kernel)];kernel_rfl)|(rw [if_neg (by decide+kernel)];exact ⟨rfl,rfl⟩))
  (fun os started H enc _=>B76 os started H enc)
theorem proved:Rows.FnColoursCardSaid:=
 Claim7.holds_tied_plain_at .later [] [.data,.data,.data] true (true, "4e6b1dea5616ecc9e44fe6aa1756b010c85b4bd060d7dbe6926ee61ef0fc3c9d") false
  B93 (fun _ h=>by cases h) A7 (fun _ h=>by cases h) fnColours_row_tie rfl ⟨rfl,rfl⟩ A7 rfl
  (fun f fn hf hfn=>by
   obtain rfl:f=3:=Option.some.inj ((show Tryz.prog.funcNamed "loop.example/g00973/laws.FnColours" =some 3 by kernel_rfl).symm.trans hf) |>.symm
   obtain rfl:fn=Tryz.f3:=(Option.some.inj (Tryz.func3.symm.trans hfn)).symm
   exact ⟨by kernel_rfl,fun j t ht=>by
    rw [Tryz.params3] at ht
    have hm:t∈[22]:=by simpa using Array.mem_of_getElem? ht
    have hall:([22].all fun u=>!Tryz.prog.wantsStandIn u)=true:=by kernel_rfl
    exact (show Tryz.prog.wantsStandIn t=false by simpa using List.all_eq_true.1 hall t hm)⟩)
  A7
end Go.Proofs.YtdendlkeiaccpaaGreatDoor
