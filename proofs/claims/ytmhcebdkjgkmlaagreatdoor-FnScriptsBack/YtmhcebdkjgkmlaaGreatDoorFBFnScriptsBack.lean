/- Part 49 of the proof that the law FnScriptsBack returns true for every input. No conditions. -/
import Derived.Test.YtmhcebdkjgkmlaaGreatDoorFAFnScriptsBack

set_option linter.unusedSimpArgs false
set_option linter.unusedVariables false
set_option maxRecDepth 100000
namespace Go.Proofs.YtmhcebdkjgkmlaaGreatDoor
open Go.ChangeShapes Go.WideShapes Go.ChangeAt Go.RowKit
open Go.Sx
theorem jfA {a b : Bool} (x : a = true) (y : b = true) : (a && b) = true := by rw [x, y]; rfl
theorem jf1 : (Rows.fnScriptsBackRow.wf (OpenSpec.ofChange Rows.fnScriptsBackSpec)) = true := by kernel_rfl
theorem jf3 : (mapsRowed Tryz.prog) = true := by kernel_rfl
theorem jf4 : (Tryz.f6.params.all (Tryz.prog.readableRec ·)) = true := by kernel_rfl
theorem jf5 : (namedTie Tryz.prog Rows.fnScriptsBackRow.named Rows.fnScriptsBackSpec.vars) = true := by kernel_rfl
theorem jf6 : ((Rows.fnScriptsBackRow.stops == [])) = true := by kernel_rfl
theorem jf7 : ((Tryz.prog.stops == [])) = true := by kernel_rfl
theorem jf8 : ((Rows.fnScriptsBackRow.knobs == [])) = true := by kernel_rfl
theorem jf9 : ((Tryz.prog.stopKnobs == [])) = true := by kernel_rfl
theorem jf10 : ((Rows.fnScriptsBackRow.inPlace == Tryz.prog.inPlace 6)) = true := by kernel_rfl
theorem jf11 : ((Rows.fnScriptsBackRow.unfollowed == Tryz.prog.unfollowed 6)) = true := by kernel_rfl
theorem jf12 : ((Rows.fnScriptsBackRow.recurses == Tryz.prog.recurses 6)) = true := by kernel_rfl
theorem jf13 : ((Rows.fnScriptsBackRow.named == Tryz.prog.varsNamed 6)) = true := by kernel_rfl
theorem jf14 : ((Rows.fnScriptsBackRow.maps == (Tryz.f6.params.toList ++ Rows.fnScriptsBackSpec.plain.varTypes Tryz.prog).any (Tryz.prog.mapsRec ·))) = true := by kernel_rfl
theorem jf15 : ((Rows.fnScriptsBackRow.ifaces == (Tryz.f6.params.toList ++ Rows.fnScriptsBackSpec.plain.varTypes Tryz.prog).any (Tryz.prog.ifacesRec ·))) = true := by kernel_rfl
theorem jf16 : ((Rows.fnScriptsBackRow.mapsOut == Tryz.prog.mapsAmong Tryz.f6.resultTypes.toList)) = true := by kernel_rfl
theorem jf17 : ((Rows.fnScriptsBackRow.loops == (Tryz.f6.params.toList ++ Rows.fnScriptsBackSpec.plain.varTypes Tryz.prog).any (Tryz.prog.loopsFrom ·))) = true := by kernel_rfl
theorem jf18 : ((Rows.fnScriptsBackRow.wideKeys == (Tryz.f6.params.toList ++ Rows.fnScriptsBackSpec.plain.varTypes Tryz.prog ++ Tryz.f6.resultTypes.toList).any (Tryz.prog.wideKeysFrom ·))) = true := by kernel_rfl
theorem jf19 : (Rows.fnScriptsBackSpec.vars.all (Tryz.prog.varReadable ·)) = true := by kernel_rfl
theorem jf20 : (Tryz.f6.resultTypes.all (fun t => Tryz.prog.readableRec t && decide (t < Tryz.prog.types.size))) = true := by kernel_rfl
theorem jf21 : ((Rows.fnScriptsBackRow.ifacesOut == Tryz.f6.resultTypes.toList.any (Tryz.prog.ifacesRec ·))) = true := by kernel_rfl
theorem jf22 : ((Rows.fnScriptsBackRow.loopsOut == Tryz.f6.resultTypes.toList.any (Tryz.prog.loopsFrom ·))) = true := by kernel_rfl
theorem jf23 : ((Rows.fnScriptsBackRow.plainKeys == Tryz.prog.plainKeys)) = true := by kernel_rfl
theorem jf24 : (Rows.fnScriptsBackRow.shortTexts.isNone) = true := by kernel_rfl
theorem jf25 : (Tryz.prog.stopsHeard) = true := by kernel_rfl
theorem jf26 : (Tryz.prog.mayEnter) = true := by kernel_rfl
theorem jf27 : ((Rows.fnScriptsBackRow.lifted == Tryz.prog.liftsFinal)) = true := by kernel_rfl
theorem jf28 : ((Tryz.prog.make == some Rows.fnScriptsBackRow.make)) = true := by kernel_rfl
theorem jf29 : ((Rows.fnScriptsBackRow.kinds == (if Rows.fnScriptsBackRow.domain.isEmpty then [] else Tryz.f6.params.toList.map fun t => match Tryz.prog.underlying t with | some (.int k) => some k | _ => none))) = true := by kernel_rfl
theorem jf30 : ((Rows.fnScriptsBackRow.pinned == Rows.fnScriptsBackRow.pinnedBy)) = true := by kernel_rfl
theorem jf31 : ((Rows.fnScriptsBackRow.veiled == (Tryz.f6.params.toList ++ Rows.fnScriptsBackSpec.plain.varTypes Tryz.prog ++ Tryz.f6.resultTypes.toList).any (Tryz.prog.veiledRec ·))) = true := by kernel_rfl
theorem jf32 : (Rows.fnScriptsBackRow.veiledFits Tryz.prog Tryz.f6.params.toList (Tryz.f6.params.toList ++ Rows.fnScriptsBackSpec.plain.varTypes Tryz.prog ++ Tryz.f6.resultTypes.toList)) = true := by kernel_rfl
theorem jfs : joinedFacts Tryz.prog 6 Tryz.f6 Rows.fnScriptsBackSpec Rows.fnScriptsBackRow = true := by
 unfold joinedFacts
 exact (jfA (jfA (jfA (jfA (jfA (jfA (jfA (jfA (jfA (jfA (jfA (jfA (jfA (jfA (jfA (jfA (jfA (jfA (jfA (jfA (jfA (jfA (jfA (jfA (jfA (jfA (jfA (jfA (jfA (jfA (jfA jf1 C8s) jf3) jf4) jf5) jf6) jf7) jf8) jf9) jf10) jf11) jf12) jf13) jf14) jf15) jf16) jf17) jf18) jf19) jf20) jf21) jf22) jf23) jf24) jf25) jf26) jf27) jf28) jf29) jf30) jf31) jf32)
end Go.Proofs.YtmhcebdkjgkmlaaGreatDoor
