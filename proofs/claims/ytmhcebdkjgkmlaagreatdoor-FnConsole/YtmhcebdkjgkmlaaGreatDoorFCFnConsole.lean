/- Part 38 of the proof that the law FnConsole returns true for every input. No conditions. -/
import Derived.Test.YtmhcebdkjgkmlaaGreatDoorFAFnConsole

set_option linter.unusedSimpArgs false
set_option linter.unusedVariables false
set_option maxRecDepth 100000
namespace Go.Proofs.YtmhcebdkjgkmlaaGreatDoor
open Go.ChangeShapes Go.WideShapes Go.ChangeAt Go.RowKit
open Go.Sx
theorem jkF : Tryz.prog.funcNamed "loop.example/g00973/laws.FnConsole" = some 7 := by kernel_rfl
theorem jkI : Tryz.f7.isInstance Tryz.prog Rows.fnConsoleRow.origin Rows.fnConsoleRow.targs := of_decide_eq_true (by kernel_rfl)
theorem jkW : Tryz.f7.isWrapper Tryz.prog Rows.fnConsoleRow.wrapper Rows.fnConsoleRow.mainSum := (by unfold Func.isWrapper;first|(rw [Ak (by decide+kernel)];kernel_rfl)|(rw [Ab (by decide+kernel)];exact ⟨rfl,rfl⟩))
theorem jkH : Rows.fnConsoleRow.wfByText (OpenSpec.ofChange Rows.fnConsoleSpec) = true := by kernel_rfl
theorem jkM : Tryz.prog.mainIs = some (true, "fbeee67cd844c27954917abebb2d81d70c2728db5f20fc1ab81d59d4a11c8f7a".toList) := by kernel_rfl
theorem jkL : true = Tryz.prog.looks [] := by kernel_rfl
theorem jkG : false = Rows.fnConsoleRow.goesBy Tryz.prog := by kernel_rfl
end Go.Proofs.YtmhcebdkjgkmlaaGreatDoor
