/- Part 38 of the proof that the law FnConsole returns true for every input. No conditions. -/
import Derived.Test.YtmhcebdkjgkmlaaGreatDoorFBFnConsole
import Derived.Test.YtmhcebdkjgkmlaaGreatDoorFCFnConsole

set_option linter.unusedSimpArgs false
set_option linter.unusedVariables false
set_option maxRecDepth 100000
namespace Go.Proofs.YtmhcebdkjgkmlaaGreatDoor
open Go.ChangeShapes Go.WideShapes Go.ChangeAt Go.RowKit
open Go.Sx
theorem D4b:Rows.fnConsoleRow.holds Tryz.pinned (OpenSpec.ofChange Rows.fnConsoleSpec):=
 OpenClaim.holds_of_wide 7 Tryz.f7 rfl rfl rfl rfl rfl rfl rfl ⟨rfl,rfl,rfl,rfl,rfl⟩ rfl rfl rfl rfl rfl jkF Tryz.func7 jfs
  jkI jkW
  (fun os started H enc _=>D2c os started H enc)
theorem proved:Rows.FnConsoleCardSaid:=
 Claim7.holds_tied_plain_at .later [] [.data,.data,.data,.data,.sentinel,.sentinel,.listed,.data,.pinned] true (true, "fbeee67cd844c27954917abebb2d81d70c2728db5f20fc1ab81d59d4a11c8f7a") true
  D4b (fun _ h=>by cases h) jkH (fun _ h=>by cases h) fnConsole_row_tie rfl ⟨rfl,rfl⟩ jkM rfl
  (fun f fn hf hfn=>by
   obtain rfl:f=7:=E6 (jkF.symm.trans hf) |>.symm
   obtain rfl:fn=Tryz.f7:=(E6 (Tryz.func7.symm.trans hfn)).symm
   exact ⟨jkL,fun j t ht=>by
    rw [Tryz.params7] at ht;have hm:t∈[33]:=by simpa using Array.mem_of_getElem? ht
    have hall:([33].all fun u=>!Tryz.prog.wantsStandIn u)=true:=by kernel_rfl
    exact (show Tryz.prog.wantsStandIn t=false by simpa using List.all_eq_true.1 hall t hm)⟩)
  jkG
end Go.Proofs.YtmhcebdkjgkmlaaGreatDoor
