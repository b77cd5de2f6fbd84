/- Part 49 of the proof that the law FnScriptsBack returns true for every input. No conditions. -/
import Derived.Test.YtmhcebdkjgkmlaaGreatDoorFAFnScriptsBack

set_option linter.unusedSimpArgs false
set_option linter.unusedVariables false
set_option maxRecDepth 100000
namespace Go.Proofs.YtmhcebdkjgkmlaaGreatDoor
open Go.ChangeShapes Go.WideShapes Go.ChangeAt Go.RowKit
open Go.Sx
theorem jkF : Tryz.prog.funcNamed "loop.example/g00973/laws.FnScriptsBack" = some 6 := by kernel_rfl
theorem jkI : Tryz.f6.isInstance Tryz.prog Rows.fnScriptsBackRow.origin Rows.fnScriptsBackRow.targs := of_decide_eq_true (by kernel_rfl)
theorem jkW : Tryz.f6.isWrapper Tryz.prog Rows.fnScriptsBackRow.wrapper Rows.fnScriptsBackRow.mainSum := (by unfold Func.isWrapper;first|(rw [Ah (by decide+kernel)];kernel_rfl)|(rw [Ab (by decide+kernel)];exact ⟨rfl,rfl⟩))
theorem jkH : Rows.fnScriptsBackRow.wfByText (OpenSpec.ofChange Rows.fnScriptsBackSpec) = true := by kernel_rfl
theorem jkM : Tryz.prog.mainIs = some (true, "fbeee67cd844c27954917abebb2d81d70c2728db5f20fc1ab81d59d4a11c8f7a".toList) := by kernel_rfl
theorem jkL : true = Tryz.prog.looks [] := by kernel_rfl
theorem jkG : false = Rows.fnScriptsBackRow.goesBy Tryz.prog := by kernel_rfl
end Go.Proofs.YtmhcebdkjgkmlaaGreatDoor
