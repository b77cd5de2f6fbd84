/-
  DERIVED. GIVEN WITH THE SEED: THE CARDS: each row of YtmhcebdkjgkmlaaGreatDoorRows.lean that lists a variable, with what it lists TIED to the program's text (the seventh form; the later family's looks); each row that meets fmt, with fmt's text TOLD by the authors' own Lean function (tested against real Go, not proved from fmt's source: count such statements apart). THE CARD IS WHAT COUNTS. Prove the row's statement (the work); the ties are given (YtmhcebdkjgkmlaaGreatDoorTie.lean); close each card by the builder's one call (the guide's Derived/Test/ToyasCard.lean, 'card_holds'). Laid BY PROGRAM, IN A SANDBOX (cutbox-door.mjs). By AI agents, Wed Nov 11 2026. No macro, syntax, notation, axiom, sorry.
-/
import Derived.Test.YtmhcebdkjgkmlaaGreatDoorRows
import GoSem.ClaimSeven
namespace Go.Proofs.YtmhcebdkjgkmlaaGreatDoor
namespace Rows

/-- THE TIED CARD OF 'laws.FnExactWhoIsDone'. -/
def fnExactWhoIsDoneCard : Claim7 := { stood := { row := fnExactWhoIsDoneRow, standIns := [], harness := (true, "fbeee67cd844c27954917abebb2d81d70c2728db5f20fc1ab81d59d4a11c8f7a"), looks := true }, kinds := [], alts := [], laidByText := true, laidKinds := [.data, .data, .data, .data, .sentinel, .sentinel, .listed, .data, .pinned], laidTests := true, laidLooks := .later }
def FnExactWhoIsDoneCardSaid : Prop := Claim7.holds Tryz.pinned (.plain (OpenSpec.ofChange fnExactWhoIsDoneSpec)) fnExactWhoIsDoneCard

/-- THE TIED CARD OF 'laws.FnExactResultText'. -/
def fnExactResultTextCard : Claim7 := { stood := { row := fnExactResultTextRow, standIns := [], harness := (true, "fbeee67cd844c27954917abebb2d81d70c2728db5f20fc1ab81d59d4a11c8f7a"), looks := true }, kinds := [], alts := [], laidByText := true, laidKinds := [.data, .data, .data, .data, .sentinel, .sentinel, .listed, .data, .pinned], laidTests := true, laidLooks := .later }
def FnExactResultTextCardSaid : Prop := Claim7.holds Tryz.pinned (.plain (OpenSpec.ofChange fnExactResultTextSpec)) fnExactResultTextCard

/-- THE TIED CARD OF 'laws.FnExactRunText'. -/
def fnExactRunTextCard : Claim7 := { stood := { row := fnExactRunTextRow, standIns := [], harness := (true, "fbeee67cd844c27954917abebb2d81d70c2728db5f20fc1ab81d59d4a11c8f7a"), looks := true }, kinds := [], alts := [], laidByText := true, laidKinds := [.data, .data, .data, .data, .sentinel, .sentinel, .listed, .data, .pinned], laidTests := true, laidLooks := .later }
def FnExactRunTextCardSaid : Prop := Claim7.holds Tryz.pinned (.plain (OpenSpec.ofChange fnExactRunTextSpec)) fnExactRunTextCard

/-- THE TIED CARD OF 'laws.FnScriptsBack'. -/
def fnScriptsBackCard : Claim7 := { stood := { row := fnScriptsBackRow, standIns := [], harness := (true, "fbeee67cd844c27954917abebb2d81d70c2728db5f20fc1ab81d59d4a11c8f7a"), looks := true }, kinds := [], alts := [], laidByText := true, laidKinds := [.data, .data, .data, .data, .sentinel, .sentinel, .listed, .data, .pinned], laidTests := true, laidLooks := .later }
def FnScriptsBackCardSaid : Prop := Claim7.holds Tryz.pinned (.plain (OpenSpec.ofChange fnScriptsBackSpec)) fnScriptsBackCard

/-- THE TIED CARD OF 'laws.FnConsole'. -/
def fnConsoleCard : Claim7 := { stood := { row := fnConsoleRow, standIns := [], harness := (true, "fbeee67cd844c27954917abebb2d81d70c2728db5f20fc1ab81d59d4a11c8f7a"), looks := true }, kinds := [], alts := [], laidByText := true, laidKinds := [.data, .data, .data, .data, .sentinel, .sentinel, .listed, .data, .pinned], laidTests := true, laidLooks := .later }
def FnConsoleCardSaid : Prop := Claim7.holds Tryz.pinned (.plain (OpenSpec.ofChange fnConsoleSpec)) fnConsoleCard

/-- THE SECOND FORM's CARD OF 'laws.FnExactWhoIsDone'. -/
def fnExactWhoIsDoneUptoCard : Claim7 := { stood := { row := fnExactWhoIsDoneUptoRow, standIns := [], harness := (true, "fbeee67cd844c27954917abebb2d81d70c2728db5f20fc1ab81d59d4a11c8f7a"), looks := true }, kinds := [], alts := [], laidByText := true, laidKinds := [.data, .data, .data, .data, .sentinel, .sentinel, .listed, .data, .pinned], laidTests := true, laidLooks := .later }
def FnExactWhoIsDoneUptoCardSaid : Prop := Claim7.holds Tryz.pinned (.plain (OpenSpec.upto fnExactWhoIsDoneSpec)) fnExactWhoIsDoneUptoCard

/-- THE SECOND FORM's CARD OF 'laws.FnExactResultText'. -/
def fnExactResultTextUptoCard : Claim7 := { stood := { row := fnExactResultTextUptoRow, standIns := [], harness := (true, "fbeee67cd844c27954917abebb2d81d70c2728db5f20fc1ab81d59d4a11c8f7a"), looks := true }, kinds := [], alts := [], laidByText := true, laidKinds := [.data, .data, .data, .data, .sentinel, .sentinel, .listed, .data, .pinned], laidTests := true, laidLooks := .later }
def FnExactResultTextUptoCardSaid : Prop := Claim7.holds Tryz.pinned (.plain (OpenSpec.upto fnExactResultTextSpec)) fnExactResultTextUptoCard

/-- THE SECOND FORM's CARD OF 'laws.FnExactRunText'. -/
def fnExactRunTextUptoCard : Claim7 := { stood := { row := fnExactRunTextUptoRow, standIns := [], harness := (true, "fbeee67cd844c27954917abebb2d81d70c2728db5f20fc1ab81d59d4a11c8f7a"), looks := true }, kinds := [], alts := [], laidByText := true, laidKinds := [.data, .data, .data, .data, .sentinel, .sentinel, .listed, .data, .pinned], laidTests := true, laidLooks := .later }
def FnExactRunTextUptoCardSaid : Prop := Claim7.holds Tryz.pinned (.plain (OpenSpec.upto fnExactRunTextSpec)) fnExactRunTextUptoCard

/-- THE SECOND FORM's CARD OF 'laws.FnScriptsBack'. -/
def fnScriptsBackUptoCard : Claim7 := { stood := { row := fnScriptsBackUptoRow, standIns := [], harness := (true, "fbeee67cd844c27954917abebb2d81d70c2728db5f20fc1ab81d59d4a11c8f7a"), looks := true }, kinds := [], alts := [], laidByText := true, laidKinds := [.data, .data, .data, .data, .sentinel, .sentinel, .listed, .data, .pinned], laidTests := true, laidLooks := .later }
def FnScriptsBackUptoCardSaid : Prop := Claim7.holds Tryz.pinned (.plain (OpenSpec.upto fnScriptsBackSpec)) fnScriptsBackUptoCard

/-- THE SECOND FORM's CARD OF 'laws.FnConsole'. -/
def fnConsoleUptoCard : Claim7 := { stood := { row := fnConsoleUptoRow, standIns := [], harness := (true, "fbeee67cd844c27954917abebb2d81d70c2728db5f20fc1ab81d59d4a11c8f7a"), looks := true }, kinds := [], alts := [], laidByText := true, laidKinds := [.data, .data, .data, .data, .sentinel, .sentinel, .listed, .data, .pinned], laidTests := true, laidLooks := .later }
def FnConsoleUptoCardSaid : Prop := Claim7.holds Tryz.pinned (.plain (OpenSpec.upto fnConsoleSpec)) fnConsoleUptoCard
end Rows
end Go.Proofs.YtmhcebdkjgkmlaaGreatDoor
