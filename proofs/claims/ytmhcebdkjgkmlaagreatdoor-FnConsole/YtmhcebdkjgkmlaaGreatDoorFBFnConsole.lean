/- Part 38 of the proof that the law FnConsole returns true for every input. No conditions. -/
import Derived.Test.YtmhcebdkjgkmlaaGreatDoorFAFnConsole

set_option linter.unusedSimpArgs false
set_option linter.unusedVariables false
set_option maxRecDepth 100000
namespace Go.Proofs.YtmhcebdkjgkmlaaGreatDoor
open Go.ChangeShapes Go.WideShapes Go.ChangeAt Go.RowKit
open Go.Sx
theorem jfA {a b : Bool} (x : a = true) (y : b = true) : (a && b) = true := by rw [x, y]; rfl
theorem jf1 : (Rows.fnConsoleRow.wf (OpenSpec.ofChange Rows.fnConsoleSpec)) = true := by kernel_rfl
theorem jf3 : (mapsRowed Tryz.prog) = true := by kernel_rfl
theorem jf4 : (Tryz.f7.params.all (Tryz.prog.readableRec ·)) = true := by kernel_rfl
theorem jf5 : (namedTie Tryz.prog Rows.fnConsoleRow.named Rows.fnConsoleSpec.vars) = true := by kernel_rfl
theorem jf6 : ((Rows.fnConsoleRow.stops == [])) = true := by kernel_rfl
theorem jf7 : ((Tryz.prog.stops == [])) = true := by kernel_rfl
theorem jf8 : ((Rows.fnConsoleRow.knobs == [])) = true := by kernel_rfl
theorem jf9 : ((Tryz.prog.stopKnobs == [])) = true := by kernel_rfl
theorem jf10 : ((Rows.fnConsoleRow.inPlace == Tryz.prog.inPlace 7)) = true := by kernel_rfl
theorem jf11 : ((Rows.fnConsoleRow.unfollowed == Tryz.prog.unfollowed 7)) = true := by kernel_rfl
theorem jf12 : ((Rows.fnConsoleRow.recurses == Tryz.prog.recurses 7)) = true := by kernel_rfl
theorem jf13 : ((Rows.fnConsoleRow.named == Tryz.prog.varsNamed 7)) = true := by kernel_rfl
theorem jf14 : ((Rows.fnConsoleRow.maps == (Tryz.f7.params.toList ++ Rows.fnConsoleSpec.plain.varTypes Tryz.prog).any (Tryz.prog.mapsRec ·))) = true := by kernel_rfl
theorem jf15 : ((Rows.fnConsoleRow.ifaces == (Tryz.f7.params.toList ++ Rows.fnConsoleSpec.plain.varTypes Tryz.prog).any (Tryz.prog.ifacesRec ·))) = true := by kernel_rfl
theorem jf16 : ((Rows.fnConsoleRow.mapsOut == Tryz.prog.mapsAmong Tryz.f7.resultTypes.toList)) = true := by kernel_rfl
theorem jf17 : ((Rows.fnConsoleRow.loops == (Tryz.f7.params.toList ++ Rows.fnConsoleSpec.plain.varTypes Tryz.prog).any (Tryz.prog.loopsFrom ·))) = true := by kernel_rfl
theorem jf18 : ((Rows.fnConsoleRow.wideKeys == (Tryz.f7.params.toList ++ Rows.fnConsoleSpec.plain.varTypes Tryz.prog ++ Tryz.f7.resultTypes.toList).any (Tryz.prog.wideKeysFrom ·))) = true := by kernel_rfl
theorem jf19 : (Rows.fnConsoleSpec.vars.all (Tryz.prog.varReadable ·)) = true := by kernel_rfl
theorem jf20 : (Tryz.f7.resultTypes.all (fun t => Tryz.prog.readableRec t && decide (t < Tryz.prog.types.size))) = true := by kernel_rfl
theorem jf21 : ((Rows.fnConsoleRow.ifacesOut == Tryz.f7.resultTypes.toList.any (Tryz.prog.ifacesRec ·))) = true := by kernel_rfl
theorem jf22 : ((Rows.fnConsoleRow.loopsOut == Tryz.f7.resultTypes.toList.any (Tryz.prog.loopsFrom ·))) = true := by kernel_rfl
theorem jf23 : ((Rows.fnConsoleRow.plainKeys == Tryz.prog.plainKeys)) = true := by kernel_rfl
theorem jf24 : (Rows.fnConsoleRow.shortTexts.isNone) = true := by kernel_rfl
theorem jf25 : (Tryz.prog.stopsHeard) = true := by kernel_rfl
theorem jf26 : (Tryz.prog.mayEnter) = true := by kernel_rfl
theorem jf27 : ((Rows.fnConsoleRow.lifted == Tryz.prog.liftsFinal)) = true := by kernel_rfl
theorem jf28 : ((Tryz.prog.make == some Rows.fnConsoleRow.make)) = true := by kernel_rfl
theorem jf29 : ((Rows.fnConsoleRow.kinds == (if Rows.fnConsoleRow.domain.isEmpty then [] else Tryz.f7.params.toList.map fun t => match Tryz.prog.underlying t with | some (.int k) => some k | _ => none))) = true := by kernel_rfl
theorem jf30 : ((Rows.fnConsoleRow.pinned == Rows.fnConsoleRow.pinnedBy)) = true := by kernel_rfl
theorem jf31 : ((Rows.fnConsoleRow.veiled == (Tryz.f7.params.toList ++ Rows.fnConsoleSpec.plain.varTypes Tryz.prog ++ Tryz.f7.resultTypes.toList).any (Tryz.prog.veiledRec ·))) = true := by kernel_rfl
theorem jf32 : (Rows.fnConsoleRow.veiledFits Tryz.prog Tryz.f7.params.toList (Tryz.f7.params.toList ++ Rows.fnConsoleSpec.plain.varTypes Tryz.prog ++ Tryz.f7.resultTypes.toList)) = true := by kernel_rfl
theorem jfs : joinedFacts Tryz.prog 7 Tryz.f7 Rows.fnConsoleSpec Rows.fnConsoleRow = true := by
 unfold joinedFacts
 exact (jfA (jfA (jfA (jfA (jfA (jfA (jfA (jfA (jfA (jfA (jfA (jfA (jfA (jfA (jfA (jfA (jfA (jfA (jfA (jfA (jfA (jfA (jfA (jfA (jfA (jfA (jfA (jfA (jfA (jfA (jfA jf1 C93) jf3) jf4) jf5) jf6) jf7) jf8) jf9) jf10) jf11) jf12) jf13) jf14) jf15) jf16) jf17) jf18) jf19) jf20) jf21) jf22) jf23) jf24) jf25) jf26) jf27) jf28) jf29) jf30) jf31) jf32)
end Go.Proofs.YtmhcebdkjgkmlaaGreatDoor
