/-
  DERIVED. GIVEN WITH THE SEED: THE CARDS: each row of YteonkhnmlolfgaaGreatDoorRows.lean that lists a variable, with what it lists TIED to the program's text (the seventh form; the later family's looks); each row that meets fmt, with fmt's text TOLD by the authors' own Lean function (tested against real Go, not proved from fmt's source: count such statements apart). THE CARD IS WHAT COUNTS. Prove the row's statement (the work); the ties are given (YteonkhnmlolfgaaGreatDoorTie.lean); close each card by the builder's one call (the guide's Derived/Test/ToyasCard.lean, 'card_holds'). Laid BY PROGRAM, IN A SANDBOX (cutbox-door.mjs). By AI agents, Wed Nov 11 2026. No macro, syntax, notation, axiom, sorry.
-/
import Derived.Test.YteonkhnmlolfgaaGreatDoorRows
import GoSem.ClaimSeven
namespace Go.Proofs.YteonkhnmlolfgaaGreatDoor
namespace Rows

/-- THE TIED CARD OF 'laws.FnExactOutLines'. -/
def fnExactOutLinesCard : Claim7 := { stood := { row := fnExactOutLinesRow, standIns := [], harness := (true, "411cde96c76d7b6c3734a288a790ee4e47d4f8d9cdde350740ac7078c33dff22"), looks := false }, kinds := [], alts := [], laidByText := true, laidKinds := [.data, .data, .data], laidTests := true, laidLooks := .later }
def FnExactOutLinesCardSaid : Prop := Claim7.holds Tryz.pinned (.plain (OpenSpec.ofChange fnExactOutLinesSpec)) fnExactOutLinesCard

/-- THE TIED CARD OF 'laws.FnExactClusterLines'. -/
def fnExactClusterLinesCard : Claim7 := { stood := { row := fnExactClusterLinesRow, standIns := [], harness := (true, "411cde96c76d7b6c3734a288a790ee4e47d4f8d9cdde350740ac7078c33dff22"), looks := false }, kinds := [], alts := [], laidByText := true, laidKinds := [.data, .data, .data], laidTests := true, laidLooks := .later }
def FnExactClusterLinesCardSaid : Prop := Claim7.holds Tryz.pinned (.plain (OpenSpec.ofChange fnExactClusterLinesSpec)) fnExactClusterLinesCard

/-- THE SECOND FORM's CARD OF 'laws.FnExactOutLines'. -/
def fnExactOutLinesUptoCard : Claim7 := { stood := { row := fnExactOutLinesUptoRow, standIns := [], harness := (true, "411cde96c76d7b6c3734a288a790ee4e47d4f8d9cdde350740ac7078c33dff22"), looks := false }, kinds := [], alts := [], laidByText := true, laidKinds := [.data, .data, .data], laidTests := true, laidLooks := .later }
def FnExactOutLinesUptoCardSaid : Prop := Claim7.holds Tryz.pinned (.plain (OpenSpec.upto fnExactOutLinesSpec)) fnExactOutLinesUptoCard

/-- THE SECOND FORM's CARD OF 'laws.FnExactClusterLines'. -/
def fnExactClusterLinesUptoCard : Claim7 := { stood := { row := fnExactClusterLinesUptoRow, standIns := [], harness := (true, "411cde96c76d7b6c3734a288a790ee4e47d4f8d9cdde350740ac7078c33dff22"), looks := false }, kinds := [], alts := [], laidByText := true, laidKinds := [.data, .data, .data], laidTests := true, laidLooks := .later }
def FnExactClusterLinesUptoCardSaid : Prop := Claim7.holds Tryz.pinned (.plain (OpenSpec.upto fnExactClusterLinesSpec)) fnExactClusterLinesUptoCard
end Rows
end Go.Proofs.YteonkhnmlolfgaaGreatDoor
