/- Part 23 of the proof that the law FnExactRunText returns true for every input. No conditions. -/
import Derived.Test.YtmhcebdkjgkmlaaGreatDoorFARunText

set_option linter.unusedSimpArgs false
set_option linter.unusedVariables false
set_option maxRecDepth 100000
namespace Go.Proofs.YtmhcebdkjgkmlaaGreatDoor
open Go.ChangeShapes Go.WideShapes Go.ChangeAt Go.RowKit
open Go.Sx
theorem jfA {a b : Bool} (x : a = true) (y : b = true) : (a && b) = true := by rw [x, y]; rfl
theorem jf1 : (Rows.fnExactRunTextRow.wf (OpenSpec.ofChange Rows.fnExactRunTextSpec)) = true := by kernel_rfl
theorem jf3 : (mapsRowed Tryz.prog) = true := by kernel_rfl
theorem jf4 : (Tryz.f5.params.all (Tryz.prog.readableRec ·)) = true := by kernel_rfl
theorem jf5 : (namedTie Tryz.prog Rows.fnExactRunTextRow.named Rows.fnExactRunTextSpec.vars) = true := by kernel_rfl
theorem jf6 : ((Rows.fnExactRunTextRow.stops == [])) = true := by kernel_rfl
theorem jf7 : ((Tryz.prog.stops == [])) = true := by kernel_rfl
theorem jf8 : ((Rows.fnExactRunTextRow.knobs == [])) = true := by kernel_rfl
theorem jf9 : ((Tryz.prog.stopKnobs == [])) = true := by kernel_rfl
theorem jf10 : ((Rows.fnExactRunTextRow.inPlace == Tryz.prog.inPlace 5)) = true := by kernel_rfl
theorem jf11 : ((Rows.fnExactRunTextRow.unfollowed == Tryz.prog.unfollowed 5)) = true := by kernel_rfl
theorem jf12 : ((Rows.fnExactRunTextRow.recurses == Tryz.prog.recurses 5)) = true := by kernel_rfl
theorem jf13 : ((Rows.fnExactRunTextRow.named == Tryz.prog.varsNamed 5)) = true := by kernel_rfl
theorem jf14 : ((Rows.fnExactRunTextRow.maps == (Tryz.f5.params.toList ++ Rows.fnExactRunTextSpec.plain.varTypes Tryz.prog).any (Tryz.prog.mapsRec ·))) = true := by kernel_rfl
theorem jf15 : ((Rows.fnExactRunTextRow.ifaces == (Tryz.f5.params.toList ++ Rows.fnExactRunTextSpec.plain.varTypes Tryz.prog).any (Tryz.prog.ifacesRec ·))) = true := by kernel_rfl
theorem jf16 : ((Rows.fnExactRunTextRow.mapsOut == Tryz.prog.mapsAmong Tryz.f5.resultTypes.toList)) = true := by kernel_rfl
theorem jf17 : ((Rows.fnExactRunTextRow.loops == (Tryz.f5.params.toList ++ Rows.fnExactRunTextSpec.plain.varTypes Tryz.prog).any (Tryz.prog.loopsFrom ·))) = true := by kernel_rfl
theorem jf18 : ((Rows.fnExactRunTextRow.wideKeys == (Tryz.f5.params.toList ++ Rows.fnExactRunTextSpec.plain.varTypes Tryz.prog ++ Tryz.f5.resultTypes.toList).any (Tryz.prog.wideKeysFrom ·))) = true := by kernel_rfl
theorem jf19 : (Rows.fnExactRunTextSpec.vars.all (Tryz.prog.varReadable ·)) = true := by kernel_rfl
theorem jf20 : (Tryz.f5.resultTypes.all (fun t => Tryz.prog.readableRec t && decide (t < Tryz.prog.types.size))) = true := by kernel_rfl
theorem jf21 : ((Rows.fnExactRunTextRow.ifacesOut == Tryz.f5.resultTypes.toList.any (Tryz.prog.ifacesRec ·))) = true := by kernel_rfl
theorem jf22 : ((Rows.fnExactRunTextRow.loopsOut == Tryz.f5.resultTypes.toList.any (Tryz.prog.loopsFrom ·))) = true := by kernel_rfl
theorem jf23 : ((Rows.fnExactRunTextRow.plainKeys == Tryz.prog.plainKeys)) = true := by kernel_rfl
theorem jf24 : (Rows.fnExactRunTextRow.shortTexts.isNone) = true := by kernel_rfl
theorem jf25 : (Tryz.prog.stopsHeard) = true := by kernel_rfl
theorem jf26 : (Tryz.prog.mayEnter) = true := by kernel_rfl
theorem jf27 : ((Rows.fnExactRunTextRow.lifted == Tryz.prog.liftsFinal)) = true := by kernel_rfl
theorem jf28 : ((Tryz.prog.make == some Rows.fnExactRunTextRow.make)) = true := by kernel_rfl
theorem jf29 : ((Rows.fnExactRunTextRow.kinds == (if Rows.fnExactRunTextRow.domain.isEmpty then [] else Tryz.f5.params.toList.map fun t => match Tryz.prog.underlying t with | some (.int k) => some k | _ => none))) = true := by kernel_rfl
theorem jf30 : ((Rows.fnExactRunTextRow.pinned == Rows.fnExactRunTextRow.pinnedBy)) = true := by kernel_rfl
theorem jf31 : ((Rows.fnExactRunTextRow.veiled == (Tryz.f5.params.toList ++ Rows.fnExactRunTextSpec.plain.varTypes Tryz.prog ++ Tryz.f5.resultTypes.toList).any (Tryz.prog.veiledRec ·))) = true := by kernel_rfl
theorem jf32 : (Rows.fnExactRunTextRow.veiledFits Tryz.prog Tryz.f5.params.toList (Tryz.f5.params.toList ++ Rows.fnExactRunTextSpec.plain.varTypes Tryz.prog ++ Tryz.f5.resultTypes.toList)) = true := by kernel_rfl
theorem jfs : joinedFacts Tryz.prog 5 Tryz.f5 Rows.fnExactRunTextSpec Rows.fnExactRunTextRow = true := by
 unfold joinedFacts
 exact (jfA (jfA (jfA (jfA (jfA (jfA (jfA (jfA (jfA (jfA (jfA (jfA (jfA (jfA (jfA (jfA (jfA (jfA (jfA (jfA (jfA (jfA (jfA (jfA (jfA (jfA (jfA (jfA (jfA (jfA (jfA jf1 Xi) jf3) jf4) jf5) jf6) jf7) jf8) jf9) jf10) jf11) jf12) jf13) jf14) jf15) jf16) jf17) jf18) jf19) jf20) jf21) jf22) jf23) jf24) jf25) jf26) jf27) jf28) jf29) jf30) jf31) jf32)
end Go.Proofs.YtmhcebdkjgkmlaaGreatDoor
