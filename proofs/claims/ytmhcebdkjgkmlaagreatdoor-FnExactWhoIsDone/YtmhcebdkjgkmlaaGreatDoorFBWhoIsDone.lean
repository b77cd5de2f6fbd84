/- Part 21 of the proof that the law FnExactWhoIsDone returns true for every input. No conditions. -/
import Derived.Test.YtmhcebdkjgkmlaaGreatDoorFAWhoIsDone

set_option linter.unusedSimpArgs false
set_option linter.unusedVariables false
set_option maxRecDepth 100000
namespace Go.Proofs.YtmhcebdkjgkmlaaGreatDoor
open Go.ChangeShapes Go.WideShapes Go.ChangeAt Go.RowKit
open Go.Sx
theorem jfA {a b : Bool} (x : a = true) (y : b = true) : (a && b) = true := by rw [x, y]; rfl
theorem jf1 : (Rows.fnExactWhoIsDoneRow.wf (OpenSpec.ofChange Rows.fnExactWhoIsDoneSpec)) = true := by kernel_rfl
theorem jf3 : (mapsRowed Tryz.prog) = true := by kernel_rfl
theorem jf4 : (Tryz.f3.params.all (Tryz.prog.readableRec ·)) = true := by kernel_rfl
theorem jf5 : (namedTie Tryz.prog Rows.fnExactWhoIsDoneRow.named Rows.fnExactWhoIsDoneSpec.vars) = true := by kernel_rfl
theorem jf6 : ((Rows.fnExactWhoIsDoneRow.stops == [])) = true := by kernel_rfl
theorem jf7 : ((Tryz.prog.stops == [])) = true := by kernel_rfl
theorem jf8 : ((Rows.fnExactWhoIsDoneRow.knobs == [])) = true := by kernel_rfl
theorem jf9 : ((Tryz.prog.stopKnobs == [])) = true := by kernel_rfl
theorem jf10 : ((Rows.fnExactWhoIsDoneRow.inPlace == Tryz.prog.inPlace 3)) = true := by kernel_rfl
theorem jf11 : ((Rows.fnExactWhoIsDoneRow.unfollowed == Tryz.prog.unfollowed 3)) = true := by kernel_rfl
theorem jf12 : ((Rows.fnExactWhoIsDoneRow.recurses == Tryz.prog.recurses 3)) = true := by kernel_rfl
theorem jf13 : ((Rows.fnExactWhoIsDoneRow.named == Tryz.prog.varsNamed 3)) = true := by kernel_rfl
theorem jf14 : ((Rows.fnExactWhoIsDoneRow.maps == (Tryz.f3.params.toList ++ Rows.fnExactWhoIsDoneSpec.plain.varTypes Tryz.prog).any (Tryz.prog.mapsRec ·))) = true := by kernel_rfl
theorem jf15 : ((Rows.fnExactWhoIsDoneRow.ifaces == (Tryz.f3.params.toList ++ Rows.fnExactWhoIsDoneSpec.plain.varTypes Tryz.prog).any (Tryz.prog.ifacesRec ·))) = true := by kernel_rfl
theorem jf16 : ((Rows.fnExactWhoIsDoneRow.mapsOut == Tryz.prog.mapsAmong Tryz.f3.resultTypes.toList)) = true := by kernel_rfl
theorem jf17 : ((Rows.fnExactWhoIsDoneRow.loops == (Tryz.f3.params.toList ++ Rows.fnExactWhoIsDoneSpec.plain.varTypes Tryz.prog).any (Tryz.prog.loopsFrom ·))) = true := by kernel_rfl
theorem jf18 : ((Rows.fnExactWhoIsDoneRow.wideKeys == (Tryz.f3.params.toList ++ Rows.fnExactWhoIsDoneSpec.plain.varTypes Tryz.prog ++ Tryz.f3.resultTypes.toList).any (Tryz.prog.wideKeysFrom ·))) = true := by kernel_rfl
theorem jf19 : (Rows.fnExactWhoIsDoneSpec.vars.all (Tryz.prog.varReadable ·)) = true := by kernel_rfl
theorem jf20 : (Tryz.f3.resultTypes.all (fun t => Tryz.prog.readableRec t && decide (t < Tryz.prog.types.size))) = true := by kernel_rfl
theorem jf21 : ((Rows.fnExactWhoIsDoneRow.ifacesOut == Tryz.f3.resultTypes.toList.any (Tryz.prog.ifacesRec ·))) = true := by kernel_rfl
theorem jf22 : ((Rows.fnExactWhoIsDoneRow.loopsOut == Tryz.f3.resultTypes.toList.any (Tryz.prog.loopsFrom ·))) = true := by kernel_rfl
theorem jf23 : ((Rows.fnExactWhoIsDoneRow.plainKeys == Tryz.prog.plainKeys)) = true := by kernel_rfl
theorem jf24 : (Rows.fnExactWhoIsDoneRow.shortTexts.isNone) = true := by kernel_rfl
theorem jf25 : (Tryz.prog.stopsHeard) = true := by kernel_rfl
theorem jf26 : (Tryz.prog.mayEnter) = true := by kernel_rfl
theorem jf27 : ((Rows.fnExactWhoIsDoneRow.lifted == Tryz.prog.liftsFinal)) = true := by kernel_rfl
theorem jf28 : ((Tryz.prog.make == some Rows.fnExactWhoIsDoneRow.make)) = true := by kernel_rfl
theorem jf29 : ((Rows.fnExactWhoIsDoneRow.kinds == (if Rows.fnExactWhoIsDoneRow.domain.isEmpty then [] else Tryz.f3.params.toList.map fun t => match Tryz.prog.underlying t with | some (.int k) => some k | _ => none))) = true := by kernel_rfl
theorem jf30 : ((Rows.fnExactWhoIsDoneRow.pinned == Rows.fnExactWhoIsDoneRow.pinnedBy)) = true := by kernel_rfl
theorem jf31 : ((Rows.fnExactWhoIsDoneRow.veiled == (Tryz.f3.params.toList ++ Rows.fnExactWhoIsDoneSpec.plain.varTypes Tryz.prog ++ Tryz.f3.resultTypes.toList).any (Tryz.prog.veiledRec ·))) = true := by kernel_rfl
theorem jf32 : (Rows.fnExactWhoIsDoneRow.veiledFits Tryz.prog Tryz.f3.params.toList (Tryz.f3.params.toList ++ Rows.fnExactWhoIsDoneSpec.plain.varTypes Tryz.prog ++ Tryz.f3.resultTypes.toList)) = true := by kernel_rfl
theorem jfs : joinedFacts Tryz.prog 3 Tryz.f3 Rows.fnExactWhoIsDoneSpec Rows.fnExactWhoIsDoneRow = true := by
 unfold joinedFacts
 exact (jfA (jfA (jfA (jfA (jfA (jfA (jfA (jfA (jfA (jfA (jfA (jfA (jfA (jfA (jfA (jfA (jfA (jfA (jfA (jfA (jfA (jfA (jfA (jfA (jfA (jfA (jfA (jfA (jfA (jfA (jfA jf1 Xi) jf3) jf4) jf5) jf6) jf7) jf8) jf9) jf10) jf11) jf12) jf13) jf14) jf15) jf16) jf17) jf18) jf19) jf20) jf21) jf22) jf23) jf24) jf25) jf26) jf27) jf28) jf29) jf30) jf31) jf32)
end Go.Proofs.YtmhcebdkjgkmlaaGreatDoor
