/- Part 22 of the proof that the law FnExactResultText returns true for every input. No conditions. -/
import Derived.Test.YtmhcebdkjgkmlaaGreatDoorFAResultText

set_option linter.unusedSimpArgs false
set_option linter.unusedVariables false
set_option maxRecDepth 100000
namespace Go.Proofs.YtmhcebdkjgkmlaaGreatDoor
open Go.ChangeShapes Go.WideShapes Go.ChangeAt Go.RowKit
open Go.Sx
theorem jfA {a b : Bool} (x : a = true) (y : b = true) : (a && b) = true := by rw [x, y]; rfl
theorem jf1 : (Rows.fnExactResultTextRow.wf (OpenSpec.ofChange Rows.fnExactResultTextSpec)) = true := by kernel_rfl
theorem jf3 : (mapsRowed Tryz.prog) = true := by kernel_rfl
theorem jf4 : (Tryz.f4.params.all (Tryz.prog.readableRec ·)) = true := by kernel_rfl
theorem jf5 : (namedTie Tryz.prog Rows.fnExactResultTextRow.named Rows.fnExactResultTextSpec.vars) = true := by kernel_rfl
theorem jf6 : ((Rows.fnExactResultTextRow.stops == [])) = true := by kernel_rfl
theorem jf7 : ((Tryz.prog.stops == [])) = true := by kernel_rfl
theorem jf8 : ((Rows.fnExactResultTextRow.knobs == [])) = true := by kernel_rfl
theorem jf9 : ((Tryz.prog.stopKnobs == [])) = true := by kernel_rfl
theorem jf10 : ((Rows.fnExactResultTextRow.inPlace == Tryz.prog.inPlace 4)) = true := by kernel_rfl
theorem jf11 : ((Rows.fnExactResultTextRow.unfollowed == Tryz.prog.unfollowed 4)) = true := by kernel_rfl
theorem jf12 : ((Rows.fnExactResultTextRow.recurses == Tryz.prog.recurses 4)) = true := by kernel_rfl
theorem jf13 : ((Rows.fnExactResultTextRow.named == Tryz.prog.varsNamed 4)) = true := by kernel_rfl
theorem jf14 : ((Rows.fnExactResultTextRow.maps == (Tryz.f4.params.toList ++ Rows.fnExactResultTextSpec.plain.varTypes Tryz.prog).any (Tryz.prog.mapsRec ·))) = true := by kernel_rfl
theorem jf15 : ((Rows.fnExactResultTextRow.ifaces == (Tryz.f4.params.toList ++ Rows.fnExactResultTextSpec.plain.varTypes Tryz.prog).any (Tryz.prog.ifacesRec ·))) = true := by kernel_rfl
theorem jf16 : ((Rows.fnExactResultTextRow.mapsOut == Tryz.prog.mapsAmong Tryz.f4.resultTypes.toList)) = true := by kernel_rfl
theorem jf17 : ((Rows.fnExactResultTextRow.loops == (Tryz.f4.params.toList ++ Rows.fnExactResultTextSpec.plain.varTypes Tryz.prog).any (Tryz.prog.loopsFrom ·))) = true := by kernel_rfl
theorem jf18 : ((Rows.fnExactResultTextRow.wideKeys == (Tryz.f4.params.toList ++ Rows.fnExactResultTextSpec.plain.varTypes Tryz.prog ++ Tryz.f4.resultTypes.toList).any (Tryz.prog.wideKeysFrom ·))) = true := by kernel_rfl
theorem jf19 : (Rows.fnExactResultTextSpec.vars.all (Tryz.prog.varReadable ·)) = true := by kernel_rfl
theorem jf20 : (Tryz.f4.resultTypes.all (fun t => Tryz.prog.readableRec t && decide (t < Tryz.prog.types.size))) = true := by kernel_rfl
theorem jf21 : ((Rows.fnExactResultTextRow.ifacesOut == Tryz.f4.resultTypes.toList.any (Tryz.prog.ifacesRec ·))) = true := by kernel_rfl
theorem jf22 : ((Rows.fnExactResultTextRow.loopsOut == Tryz.f4.resultTypes.toList.any (Tryz.prog.loopsFrom ·))) = true := by kernel_rfl
theorem jf23 : ((Rows.fnExactResultTextRow.plainKeys == Tryz.prog.plainKeys)) = true := by kernel_rfl
theorem jf24 : (Rows.fnExactResultTextRow.shortTexts.isNone) = true := by kernel_rfl
theorem jf25 : (Tryz.prog.stopsHeard) = true := by kernel_rfl
theorem jf26 : (Tryz.prog.mayEnter) = true := by kernel_rfl
theorem jf27 : ((Rows.fnExactResultTextRow.lifted == Tryz.prog.liftsFinal)) = true := by kernel_rfl
theorem jf28 : ((Tryz.prog.make == some Rows.fnExactResultTextRow.make)) = true := by kernel_rfl
theorem jf29 : ((Rows.fnExactResultTextRow.kinds == (if Rows.fnExactResultTextRow.domain.isEmpty then [] else Tryz.f4.params.toList.map fun t => match Tryz.prog.underlying t with | some (.int k) => some k | _ => none))) = true := by kernel_rfl
theorem jf30 : ((Rows.fnExactResultTextRow.pinned == Rows.fnExactResultTextRow.pinnedBy)) = true := by kernel_rfl
theorem jf31 : ((Rows.fnExactResultTextRow.veiled == (Tryz.f4.params.toList ++ Rows.fnExactResultTextSpec.plain.varTypes Tryz.prog ++ Tryz.f4.resultTypes.toList).any (Tryz.prog.veiledRec ·))) = true := by kernel_rfl
theorem jf32 : (Rows.fnExactResultTextRow.veiledFits Tryz.prog Tryz.f4.params.toList (Tryz.f4.params.toList ++ Rows.fnExactResultTextSpec.plain.varTypes Tryz.prog ++ Tryz.f4.resultTypes.toList)) = true := by kernel_rfl
theorem jfs : joinedFacts Tryz.prog 4 Tryz.f4 Rows.fnExactResultTextSpec Rows.fnExactResultTextRow = true := by
 unfold joinedFacts
 exact (jfA (jfA (jfA (jfA (jfA (jfA (jfA (jfA (jfA (jfA (jfA (jfA (jfA (jfA (jfA (jfA (jfA (jfA (jfA (jfA (jfA (jfA (jfA (jfA (jfA (jfA (jfA (jfA (jfA (jfA (jfA jf1 Xi) jf3) jf4) jf5) jf6) jf7) jf8) jf9) jf10) jf11) jf12) jf13) jf14) jf15) jf16) jf17) jf18) jf19) jf20) jf21) jf22) jf23) jf24) jf25) jf26) jf27) jf28) jf29) jf30) jf31) jf32)
end Go.Proofs.YtmhcebdkjgkmlaaGreatDoor
