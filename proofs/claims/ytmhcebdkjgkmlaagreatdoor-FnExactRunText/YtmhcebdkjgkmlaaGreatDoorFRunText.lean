/- Part 23 of the proof that the law FnExactRunText returns true for every input. No conditions. -/
import Derived.Test.YtmhcebdkjgkmlaaGreatDoorFBRunText
import Derived.Test.YtmhcebdkjgkmlaaGreatDoorFCRunText

set_option linter.unusedSimpArgs false
set_option linter.unusedVariables false
set_option maxRecDepth 100000
namespace Go.Proofs.YtmhcebdkjgkmlaaGreatDoor
open Go.ChangeShapes Go.WideShapes Go.ChangeAt Go.RowKit
open Go.Sx
theorem C7s:Rows.fnExactRunTextRow.holds Tryz.pinned (OpenSpec.ofChange Rows.fnExactRunTextSpec):=
 OpenClaim.holds_of_wide 5 Tryz.f5 rfl rfl rfl rfl rfl rfl rfl ⟨rfl,rfl,rfl,rfl,rfl⟩ rfl rfl rfl rfl rfl jkF Tryz.func5 jfs
  jkI jkW
  (fun os started H enc _=>A7y os started H enc)
theorem proved:Rows.FnExactRunTextCardSaid:=
 Claim7.holds_tied_plain_at .later [] [.data,.data,.data,.data,.sentinel,.sentinel,.listed,.data,.pinned] true (true, "fbeee67cd844c27954917abebb2d81d70c2728db5f20fc1ab81d59d4a11c8f7a") true
  C7s (fun _ h=>by cases h) jkH (fun _ h=>by cases h) fnExactRunText_row_tie rfl ⟨rfl,rfl⟩ jkM rfl
  (fun f fn hf hfn=>by
   obtain rfl:f=5:=D3 (jkF.symm.trans hf) |>.symm
   obtain rfl:fn=Tryz.f5:=(D3 (Tryz.func5.symm.trans hfn)).symm
   exact ⟨jkL,fun j t ht=>by
    rw [Tryz.params5] at ht;have hm:t∈[9]:=by simpa using Array.mem_of_getElem? ht
    have hall:([9].all fun u=>!Tryz.prog.wantsStandIn u)=true:=by kernel_rfl
    exact (show Tryz.prog.wantsStandIn t=false by simpa using List.all_eq_true.1 hall t hm)⟩)
  jkG
end Go.Proofs.YtmhcebdkjgkmlaaGreatDoor
