/- Part 49 of the proof that the law FnScriptsBack returns true for every input. No conditions. -/
import Derived.Test.YtmhcebdkjgkmlaaGreatDoorFBFnScriptsBack
import Derived.Test.YtmhcebdkjgkmlaaGreatDoorFCFnScriptsBack

set_option linter.unusedSimpArgs false
set_option linter.unusedVariables false
set_option maxRecDepth 100000
namespace Go.Proofs.YtmhcebdkjgkmlaaGreatDoor
open Go.ChangeShapes Go.WideShapes Go.ChangeAt Go.RowKit
open Go.Sx
theorem D25:Rows.fnScriptsBackRow.holds Tryz.pinned (OpenSpec.ofChange Rows.fnScriptsBackSpec):=
 OpenClaim.holds_of_wide 6 Tryz.f6 rfl rfl rfl rfl rfl rfl rfl ⟨rfl,rfl,rfl,rfl,rfl⟩ rfl rfl rfl rfl rfl jkF Tryz.func6 jfs
  jkI jkW
  (fun os started H enc _=>D1a os started H enc)
theorem proved:Rows.FnScriptsBackCardSaid:=
 Claim7.holds_tied_plain_at .later [] [.data,.data,.data,.data,.sentinel,.sentinel,.listed,.data,.pinned] true (true, "fbeee67cd844c27954917abebb2d81d70c2728db5f20fc1ab81d59d4a11c8f7a") true
  D25 (fun _ h=>by cases h) jkH (fun _ h=>by cases h) fnScriptsBack_row_tie rfl ⟨rfl,rfl⟩ jkM rfl
  (fun f fn hf hfn=>by
   obtain rfl:f=6:=Bv (jkF.symm.trans hf) |>.symm
   obtain rfl:fn=Tryz.f6:=(Bv (Tryz.func6.symm.trans hfn)).symm
   exact ⟨jkL,fun j t ht=>by
    rw [Tryz.params6] at ht;have hm:t∈[33]:=by simpa using Array.mem_of_getElem? ht
    have hall:([33].all fun u=>!Tryz.prog.wantsStandIn u)=true:=by kernel_rfl
    exact (show Tryz.prog.wantsStandIn t=false by simpa using List.all_eq_true.1 hall t hm)⟩)
  jkG
end Go.Proofs.YtmhcebdkjgkmlaaGreatDoor
