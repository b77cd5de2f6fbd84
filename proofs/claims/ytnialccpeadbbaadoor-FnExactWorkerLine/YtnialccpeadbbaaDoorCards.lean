/-
  DERIVED. GIVEN WITH THE SEED: THE CARDS: each row of YtnialccpeadbbaaDoorRows.lean that lists a variable, with what it lists TIED to the program's text (the seventh form; the later family's looks); each row that meets fmt, with fmt's text TOLD by the authors' own Lean function (tested against real Go, not proved from fmt's source: count such statements apart). THE CARD IS WHAT COUNTS. Prove the row's statement (the work); the ties are given (YtnialccpeadbbaaDoorTie.lean); close each card by the builder's one call (the guide's Derived/Test/ToyasCard.lean, 'card_holds'). Laid BY PROGRAM, IN A SANDBOX (cutbox-door.mjs). By AI agents, Wed Nov 11 2026. No macro, syntax, notation, axiom, sorry.
-/
import Derived.Test.YtnialccpeadbbaaDoorRows
import GoSem.ClaimSeven
namespace Go.Proofs.YtnialccpeadbbaaDoor
namespace Rows

/-- THE TIED CARD OF 'laws.FnExactCellLine'. -/
def fnExactCellLineCard : Claim7 := { stood := { row := fnExactCellLineRow, standIns := [], harness := (true, "04d9d630acd6b82ba20fb17952a5804f8e164289e14ac0c9be6bb697007d9281"), looks := false }, kinds := [], alts := [], laidByText := true, laidKinds := [.data, .data, .data], laidTests := true, laidLooks := .later }
def FnExactCellLineCardSaid : Prop := Claim7.holds Tryd.pinned (.plain (OpenSpec.ofChange fnExactCellLineSpec)) fnExactCellLineCard

/-- THE TIED CARD OF 'laws.FnExactTokenText'. -/
def fnExactTokenTextCard : Claim7 := { stood := { row := fnExactTokenTextRow, standIns := [], harness := (true, "04d9d630acd6b82ba20fb17952a5804f8e164289e14ac0c9be6bb697007d9281"), looks := false }, kinds := [], alts := [], laidByText := true, laidKinds := [.data, .data, .data], laidTests := true, laidLooks := .later }
def FnExactTokenTextCardSaid : Prop := Claim7.holds Tryd.pinned (.plain (OpenSpec.ofChange fnExactTokenTextSpec)) fnExactTokenTextCard

/-- THE TIED CARD OF 'laws.FnExactInputLine'. -/
def fnExactInputLineCard : Claim7 := { stood := { row := fnExactInputLineRow, standIns := [], harness := (true, "04d9d630acd6b82ba20fb17952a5804f8e164289e14ac0c9be6bb697007d9281"), looks := false }, kinds := [], alts := [], laidByText := true, laidKinds := [.data, .data, .data], laidTests := true, laidLooks := .later }
def FnExactInputLineCardSaid : Prop := Claim7.holds Tryd.pinned (.plain (OpenSpec.ofChange fnExactInputLineSpec)) fnExactInputLineCard

/-- THE TIED CARD OF 'laws.FnExactNodeLine'. -/
def fnExactNodeLineCard : Claim7 := { stood := { row := fnExactNodeLineRow, standIns := [], harness := (true, "04d9d630acd6b82ba20fb17952a5804f8e164289e14ac0c9be6bb697007d9281"), looks := false }, kinds := [], alts := [], laidByText := true, laidKinds := [.data, .data, .data], laidTests := true, laidLooks := .later }
def FnExactNodeLineCardSaid : Prop := Claim7.holds Tryd.pinned (.plain (OpenSpec.ofChange fnExactNodeLineSpec)) fnExactNodeLineCard

/-- THE TIED CARD OF 'laws.FnExactGraphLine'. -/
def fnExactGraphLineCard : Claim7 := { stood := { row := fnExactGraphLineRow, standIns := [], harness := (true, "04d9d630acd6b82ba20fb17952a5804f8e164289e14ac0c9be6bb697007d9281"), looks := false }, kinds := [], alts := [], laidByText := true, laidKinds := [.data, .data, .data], laidTests := true, laidLooks := .later }
def FnExactGraphLineCardSaid : Prop := Claim7.holds Tryd.pinned (.plain (OpenSpec.ofChange fnExactGraphLineSpec)) fnExactGraphLineCard

/-- THE TIED CARD OF 'laws.FnExactWorkerLine'. -/
def fnExactWorkerLineCard : Claim7 := { stood := { row := fnExactWorkerLineRow, standIns := [], harness := (true, "04d9d630acd6b82ba20fb17952a5804f8e164289e14ac0c9be6bb697007d9281"), looks := false }, kinds := [], alts := [], laidByText := true, laidKinds := [.data, .data, .data], laidTests := true, laidLooks := .later }
def FnExactWorkerLineCardSaid : Prop := Claim7.holds Tryd.pinned (.plain (OpenSpec.ofChange fnExactWorkerLineSpec)) fnExactWorkerLineCard

/-- THE SECOND FORM's CARD OF 'laws.FnExactCellLine'. -/
def fnExactCellLineUptoCard : Claim7 := { stood := { row := fnExactCellLineUptoRow, standIns := [], harness := (true, "04d9d630acd6b82ba20fb17952a5804f8e164289e14ac0c9be6bb697007d9281"), looks := false }, kinds := [], alts := [], laidByText := true, laidKinds := [.data, .data, .data], laidTests := true, laidLooks := .later }
def FnExactCellLineUptoCardSaid : Prop := Claim7.holds Tryd.pinned (.plain (OpenSpec.upto fnExactCellLineSpec)) fnExactCellLineUptoCard

/-- THE SECOND FORM's CARD OF 'laws.FnExactTokenText'. -/
def fnExactTokenTextUptoCard : Claim7 := { stood := { row := fnExactTokenTextUptoRow, standIns := [], harness := (true, "04d9d630acd6b82ba20fb17952a5804f8e164289e14ac0c9be6bb697007d9281"), looks := false }, kinds := [], alts := [], laidByText := true, laidKinds := [.data, .data, .data], laidTests := true, laidLooks := .later }
def FnExactTokenTextUptoCardSaid : Prop := Claim7.holds Tryd.pinned (.plain (OpenSpec.upto fnExactTokenTextSpec)) fnExactTokenTextUptoCard

/-- THE SECOND FORM's CARD OF 'laws.FnExactInputLine'. -/
def fnExactInputLineUptoCard : Claim7 := { stood := { row := fnExactInputLineUptoRow, standIns := [], harness := (true, "04d9d630acd6b82ba20fb17952a5804f8e164289e14ac0c9be6bb697007d9281"), looks := false }, kinds := [], alts := [], laidByText := true, laidKinds := [.data, .data, .data], laidTests := true, laidLooks := .later }
def FnExactInputLineUptoCardSaid : Prop := Claim7.holds Tryd.pinned (.plain (OpenSpec.upto fnExactInputLineSpec)) fnExactInputLineUptoCard

/-- THE SECOND FORM's CARD OF 'laws.FnExactNodeLine'. -/
def fnExactNodeLineUptoCard : Claim7 := { stood := { row := fnExactNodeLineUptoRow, standIns := [], harness := (true, "04d9d630acd6b82ba20fb17952a5804f8e164289e14ac0c9be6bb697007d9281"), looks := false }, kinds := [], alts := [], laidByText := true, laidKinds := [.data, .data, .data], laidTests := true, laidLooks := .later }
def FnExactNodeLineUptoCardSaid : Prop := Claim7.holds Tryd.pinned (.plain (OpenSpec.upto fnExactNodeLineSpec)) fnExactNodeLineUptoCard

/-- THE SECOND FORM's CARD OF 'laws.FnExactGraphLine'. -/
def fnExactGraphLineUptoCard : Claim7 := { stood := { row := fnExactGraphLineUptoRow, standIns := [], harness := (true, "04d9d630acd6b82ba20fb17952a5804f8e164289e14ac0c9be6bb697007d9281"), looks := false }, kinds := [], alts := [], laidByText := true, laidKinds := [.data, .data, .data], laidTests := true, laidLooks := .later }
def FnExactGraphLineUptoCardSaid : Prop := Claim7.holds Tryd.pinned (.plain (OpenSpec.upto fnExactGraphLineSpec)) fnExactGraphLineUptoCard

/-- THE SECOND FORM's CARD OF 'laws.FnExactWorkerLine'. -/
def fnExactWorkerLineUptoCard : Claim7 := { stood := { row := fnExactWorkerLineUptoRow, standIns := [], harness := (true, "04d9d630acd6b82ba20fb17952a5804f8e164289e14ac0c9be6bb697007d9281"), looks := false }, kinds := [], alts := [], laidByText := true, laidKinds := [.data, .data, .data], laidTests := true, laidLooks := .later }
def FnExactWorkerLineUptoCardSaid : Prop := Claim7.holds Tryd.pinned (.plain (OpenSpec.upto fnExactWorkerLineSpec)) fnExactWorkerLineUptoCard
end Rows
end Go.Proofs.YtnialccpeadbbaaDoor
