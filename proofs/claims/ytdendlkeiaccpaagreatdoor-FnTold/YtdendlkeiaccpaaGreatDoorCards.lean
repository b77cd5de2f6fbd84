/-
  DERIVED. GIVEN WITH THE SEED: THE CARDS: each row of YtdendlkeiaccpaaGreatDoorRows.lean that lists a variable, with what it lists TIED to the program's text (the seventh form; the later family's looks); each row that meets fmt, with fmt's text TOLD by the authors' own Lean function (tested against real Go, not proved from fmt's source: count such statements apart). THE CARD IS WHAT COUNTS. Prove the row's statement (the work); the ties are given (YtdendlkeiaccpaaGreatDoorTie.lean); close each card by the builder's one call (the guide's Derived/Test/ToyasCard.lean, 'card_holds'). Laid BY PROGRAM, IN A SANDBOX (cutbox-door.mjs). By AI agents, Wed Nov 11 2026. No macro, syntax, notation, axiom, sorry.
-/
import Derived.Test.YtdendlkeiaccpaaGreatDoorRows
import GoSem.ClaimSeven
namespace Go.Proofs.YtdendlkeiaccpaaGreatDoor
namespace Rows

/-- THE TIED CARD OF 'laws.FnColours'. -/
def fnColoursCard : Claim7 := { stood := { row := fnColoursRow, standIns := [], harness := (true, "4e6b1dea5616ecc9e44fe6aa1756b010c85b4bd060d7dbe6926ee61ef0fc3c9d"), looks := false }, kinds := [], alts := [], laidByText := true, laidKinds := [.data, .data, .data], laidTests := true, laidLooks := .later }
def FnColoursCardSaid : Prop := Claim7.holds Tryz.pinned (.plain (OpenSpec.ofChange fnColoursSpec)) fnColoursCard

/-- THE TIED CARD OF 'laws.FnTold'. -/
def fnToldCard : Claim7 := { stood := { row := fnToldRow, standIns := [], harness := (true, "4e6b1dea5616ecc9e44fe6aa1756b010c85b4bd060d7dbe6926ee61ef0fc3c9d"), looks := false }, kinds := [], alts := [], laidByText := true, laidKinds := [.data, .data, .data], laidTests := true, laidLooks := .later }
def FnToldCardSaid : Prop := Claim7.holds Tryz.pinned (.plain (OpenSpec.ofChange fnToldSpec)) fnToldCard

/-- THE SECOND FORM's CARD OF 'laws.FnColours'. -/
def fnColoursUptoCard : Claim7 := { stood := { row := fnColoursUptoRow, standIns := [], harness := (true, "4e6b1dea5616ecc9e44fe6aa1756b010c85b4bd060d7dbe6926ee61ef0fc3c9d"), looks := false }, kinds := [], alts := [], laidByText := true, laidKinds := [.data, .data, .data], laidTests := true, laidLooks := .later }
def FnColoursUptoCardSaid : Prop := Claim7.holds Tryz.pinned (.plain (OpenSpec.upto fnColoursSpec)) fnColoursUptoCard

/-- THE SECOND FORM's CARD OF 'laws.FnTold'. -/
def fnToldUptoCard : Claim7 := { stood := { row := fnToldUptoRow, standIns := [], harness := (true, "4e6b1dea5616ecc9e44fe6aa1756b010c85b4bd060d7dbe6926ee61ef0fc3c9d"), looks := false }, kinds := [], alts := [], laidByText := true, laidKinds := [.data, .data, .data], laidTests := true, laidLooks := .later }
def FnToldUptoCardSaid : Prop := Claim7.holds Tryz.pinned (.plain (OpenSpec.upto fnToldSpec)) fnToldUptoCard
end Rows
end Go.Proofs.YtdendlkeiaccpaaGreatDoor
