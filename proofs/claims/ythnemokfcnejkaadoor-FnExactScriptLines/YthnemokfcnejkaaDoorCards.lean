/-
  DERIVED. GIVEN WITH THE SEED: THE CARDS: each row of YthnemokfcnejkaaDoorRows.lean that lists a variable, with what it lists TIED to the program's text (the seventh form; the later family's looks); each row that meets fmt, with fmt's text TOLD by the authors' own Lean function (tested against real Go, not proved from fmt's source: count such statements apart). THE CARD IS WHAT COUNTS. Prove the row's statement (the work); the ties are given (YthnemokfcnejkaaDoorTie.lean); close each card by the builder's one call (the guide's Derived/Test/ToyasCard.lean, 'card_holds'). Laid BY PROGRAM, IN A SANDBOX (cutbox-door.mjs). By AI agents, Wed Nov 11 2026. No macro, syntax, notation, axiom, sorry.
-/
import Derived.Test.YthnemokfcnejkaaDoorRows
import GoSem.ClaimSeven
namespace Go.Proofs.YthnemokfcnejkaaDoor
namespace Rows

/-- THE TIED CARD OF 'laws.FnExactScriptLines'. -/
def fnExactScriptLinesCard : Claim7 := { stood := { row := fnExactScriptLinesRow, standIns := [], harness := (true, "9d0fe2fdad4a2ea068de5fc6b8dc1b66f558581ece29384df73bc9f39b293cd4"), looks := false }, kinds := [], alts := [], laidByText := true, laidKinds := [.data, .data, .data], laidTests := true, laidLooks := .later }
def FnExactScriptLinesCardSaid : Prop := Claim7.holds Tryd.pinned (.plain (OpenSpec.ofChange fnExactScriptLinesSpec)) fnExactScriptLinesCard

/-- THE TIED CARD OF 'laws.FnExactLinkLine'. -/
def fnExactLinkLineCard : Claim7 := { stood := { row := fnExactLinkLineRow, standIns := [], harness := (true, "9d0fe2fdad4a2ea068de5fc6b8dc1b66f558581ece29384df73bc9f39b293cd4"), looks := false }, kinds := [], alts := [], laidByText := true, laidKinds := [.data, .data, .data], laidTests := true, laidLooks := .later }
def FnExactLinkLineCardSaid : Prop := Claim7.holds Tryd.pinned (.plain (OpenSpec.ofChange fnExactLinkLineSpec)) fnExactLinkLineCard

/-- THE SECOND FORM's CARD OF 'laws.FnExactScriptLines'. -/
def fnExactScriptLinesUptoCard : Claim7 := { stood := { row := fnExactScriptLinesUptoRow, standIns := [], harness := (true, "9d0fe2fdad4a2ea068de5fc6b8dc1b66f558581ece29384df73bc9f39b293cd4"), looks := false }, kinds := [], alts := [], laidByText := true, laidKinds := [.data, .data, .data], laidTests := true, laidLooks := .later }
def FnExactScriptLinesUptoCardSaid : Prop := Claim7.holds Tryd.pinned (.plain (OpenSpec.upto fnExactScriptLinesSpec)) fnExactScriptLinesUptoCard

/-- THE SECOND FORM's CARD OF 'laws.FnExactLinkLine'. -/
def fnExactLinkLineUptoCard : Claim7 := { stood := { row := fnExactLinkLineUptoRow, standIns := [], harness := (true, "9d0fe2fdad4a2ea068de5fc6b8dc1b66f558581ece29384df73bc9f39b293cd4"), looks := false }, kinds := [], alts := [], laidByText := true, laidKinds := [.data, .data, .data], laidTests := true, laidLooks := .later }
def FnExactLinkLineUptoCardSaid : Prop := Claim7.holds Tryd.pinned (.plain (OpenSpec.upto fnExactLinkLineSpec)) fnExactLinkLineUptoCard
end Rows
end Go.Proofs.YthnemokfcnejkaaDoor
