/-
  DERIVED. GIVEN WITH THE SEED: THE CARDS: each row of YtimlkifkiphioaaDoorRows.lean that lists a variable, with what it lists TIED to the program's text (the seventh form; the later family's looks); each row that meets fmt, with fmt's text TOLD by the authors' own Lean function (tested against real Go, not proved from fmt's source: count such statements apart). THE CARD IS WHAT COUNTS. Prove the row's statement (the work); the ties are given (YtimlkifkiphioaaDoorTie.lean); close each card by the builder's one call (the guide's Derived/Test/ToyasCard.lean, 'card_holds'). Laid BY PROGRAM, IN A SANDBOX (cutbox-door.mjs). By AI agents, Wed Nov 11 2026. No macro, syntax, notation, axiom, sorry.
-/
import Derived.Test.YtimlkifkiphioaaDoorRows
import GoSem.ClaimSeven
namespace Go.Proofs.YtimlkifkiphioaaDoor
namespace Rows

/-- THE TIED CARD OF 'laws.FnExactReadPick'. -/
def fnExactReadPickCard : Claim7 := { stood := { row := fnExactReadPickRow, standIns := [], harness := (true, "3bfa4f4d971e4bba2c2311e93c07ca2573dc56c91f054f887fd4cf43ff40476b"), looks := true }, kinds := [], alts := [], laidByText := true, laidKinds := [.data, .data, .data, .sentinel, .sentinel, .listed, .data], laidTests := true, laidLooks := .later }
def FnExactReadPickCardSaid : Prop := Claim7.holds Tryd.pinned (.plain (OpenSpec.ofChange fnExactReadPickSpec)) fnExactReadPickCard

/-- THE TIED CARD OF 'laws.FnExactReadInput'. -/
def fnExactReadInputCard : Claim7 := { stood := { row := fnExactReadInputRow, standIns := [], harness := (true, "3bfa4f4d971e4bba2c2311e93c07ca2573dc56c91f054f887fd4cf43ff40476b"), looks := true }, kinds := [], alts := [], laidByText := true, laidKinds := [.data, .data, .data, .sentinel, .sentinel, .listed, .data], laidTests := true, laidLooks := .later }
def FnExactReadInputCardSaid : Prop := Claim7.holds Tryd.pinned (.plain (OpenSpec.ofChange fnExactReadInputSpec)) fnExactReadInputCard

/-- THE TIED CARD OF 'laws.FnExactReadNode'. -/
def fnExactReadNodeCard : Claim7 := { stood := { row := fnExactReadNodeRow, standIns := [], harness := (true, "3bfa4f4d971e4bba2c2311e93c07ca2573dc56c91f054f887fd4cf43ff40476b"), looks := true }, kinds := [], alts := [], laidByText := true, laidKinds := [.data, .data, .data, .sentinel, .sentinel, .listed, .data], laidTests := true, laidLooks := .later }
def FnExactReadNodeCardSaid : Prop := Claim7.holds Tryd.pinned (.plain (OpenSpec.ofChange fnExactReadNodeSpec)) fnExactReadNodeCard

/-- THE SECOND FORM's CARD OF 'laws.FnExactReadPick'. -/
def fnExactReadPickUptoCard : Claim7 := { stood := { row := fnExactReadPickUptoRow, standIns := [], harness := (true, "3bfa4f4d971e4bba2c2311e93c07ca2573dc56c91f054f887fd4cf43ff40476b"), looks := true }, kinds := [], alts := [], laidByText := true, laidKinds := [.data, .data, .data, .sentinel, .sentinel, .listed, .data], laidTests := true, laidLooks := .later }
def FnExactReadPickUptoCardSaid : Prop := Claim7.holds Tryd.pinned (.plain (OpenSpec.upto fnExactReadPickSpec)) fnExactReadPickUptoCard

/-- THE SECOND FORM's CARD OF 'laws.FnExactReadInput'. -/
def fnExactReadInputUptoCard : Claim7 := { stood := { row := fnExactReadInputUptoRow, standIns := [], harness := (true, "3bfa4f4d971e4bba2c2311e93c07ca2573dc56c91f054f887fd4cf43ff40476b"), looks := true }, kinds := [], alts := [], laidByText := true, laidKinds := [.data, .data, .data, .sentinel, .sentinel, .listed, .data], laidTests := true, laidLooks := .later }
def FnExactReadInputUptoCardSaid : Prop := Claim7.holds Tryd.pinned (.plain (OpenSpec.upto fnExactReadInputSpec)) fnExactReadInputUptoCard

/-- THE SECOND FORM's CARD OF 'laws.FnExactReadNode'. -/
def fnExactReadNodeUptoCard : Claim7 := { stood := { row := fnExactReadNodeUptoRow, standIns := [], harness := (true, "3bfa4f4d971e4bba2c2311e93c07ca2573dc56c91f054f887fd4cf43ff40476b"), looks := true }, kinds := [], alts := [], laidByText := true, laidKinds := [.data, .data, .data, .sentinel, .sentinel, .listed, .data], laidTests := true, laidLooks := .later }
def FnExactReadNodeUptoCardSaid : Prop := Claim7.holds Tryd.pinned (.plain (OpenSpec.upto fnExactReadNodeSpec)) fnExactReadNodeUptoCard
end Rows
end Go.Proofs.YtimlkifkiphioaaDoor
