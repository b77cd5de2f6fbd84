/-
  No cell of these rows narrows 'for every input' (looked for: loops, veiled, ifaces, maps, wideKeys, modest, calm, conditions, laid).
  DERIVED. THE GIVEN ROWS OF THIS SEAT. 11 by the template 'for every input the law returns true; each argument reads behind the call as it read before'; 0 by the template 'total and deterministic' (their statements: YtifdjnpnhgdcgaaTotals.lean).
  GIVEN WITH THE SEED: the statements are not yours to turn. If you find one false, say at which input.
  Laid BY PROGRAM, IN A SANDBOX (cutbox-rows.mjs): the forced cells as the released guide's own fill.sh prints them over the translation 6889102e621ce99f… (all of the seat's roots in one cut). By AI agents, Wed Nov 11 2026. No macro, syntax, notation, axiom, sorry.
-/
import Derived.Test.YtifdjnpnhgdcgaaChecked
import GoSem.Claim
import GoSem.ClaimJoined
import GoSem.ClaimMapViews
import Derived.JoinedTies
import Derived.KernelRfl
namespace Go.Proofs.Ytifdjnpnhgdcgaa
/- THE CELL 'sum', in the pinned program and in every row, IS THE sha256 OF THE DUMP (.gsa) THAT YtifdjnpnhgdcgaaProg.lean LOADS. Nothing in Lean hashes anything: it is a label: what it is worth is what the hold of that sum in a sandbox is worth. -/
noncomputable def Try.pinned : Pinned := { name := "ytifdjnpnhgdcgaa", sum := "6889102e621ce99fc2b431972f04bc5d9ddd5d99bd61c1aaf8d8fe81e089595f", checked := Try.checked }
namespace Rows
def none {H : Type} : Left H := { results := [], args := [] }

/-- 'laws.FnSchedules': WHATEVER THE INPUT: true; the input reads as it did. -/
def fnSchedulesSpec : ChangeSpec := { name := "fnSchedules", fn := fun _ => fun
  | [d] => { results := [.lit (.bool true)], args := [d] }
  | _ => none }
def fnSchedulesRow : OpenClaim := { program := "ytifdjnpnhgdcgaa", sum := "6889102e621ce99fc2b431972f04bc5d9ddd5d99bd61c1aaf8d8fe81e089595f", func := "loop.example/g00973/laws.FnSchedules", spec := "fnSchedules", apart := false }
def FnSchedulesSaid : Prop := fnSchedulesRow.holds Try.pinned (OpenSpec.ofChange fnSchedulesSpec)

/-- ITS FALSE NEIGHBOUR: 'it returns false'. Refute it at one input. -/
def fnSchedulesWrong : ChangeSpec := { name := "fnSchedules", fn := fun _ => fun
  | [d] => { results := [.lit (.bool false)], args := [d] }
  | _ => none }
def FnSchedulesWrongFalsely : Prop := fnSchedulesRow.holds Try.pinned (OpenSpec.ofChange fnSchedulesWrong)

/-- 'laws.FnExactGotIn': WHATEVER THE INPUT: true; the input reads as it did. -/
def fnExactGotInSpec : ChangeSpec := { name := "fnExactGotIn", fn := fun _ => fun
  | [d] => { results := [.lit (.bool true)], args := [d] }
  | _ => none }
def fnExactGotInRow : OpenClaim := { program := "ytifdjnpnhgdcgaa", sum := "6889102e621ce99fc2b431972f04bc5d9ddd5d99bd61c1aaf8d8fe81e089595f", func := "loop.example/g00973/laws.FnExactGotIn", spec := "fnExactGotIn", apart := false }
def FnExactGotInSaid : Prop := fnExactGotInRow.holds Try.pinned (OpenSpec.ofChange fnExactGotInSpec)

/-- ITS FALSE NEIGHBOUR: 'it returns false'. Refute it at one input. -/
def fnExactGotInWrong : ChangeSpec := { name := "fnExactGotIn", fn := fun _ => fun
  | [d] => { results := [.lit (.bool false)], args := [d] }
  | _ => none }
def FnExactGotInWrongFalsely : Prop := fnExactGotInRow.holds Try.pinned (OpenSpec.ofChange fnExactGotInWrong)

/-- 'laws.FnExactLinkLoad': WHATEVER THE INPUT: true; the input reads as it did. -/
def fnExactLinkLoadSpec : ChangeSpec := { name := "fnExactLinkLoad", fn := fun _ => fun
  | [d] => { results := [.lit (.bool true)], args := [d] }
  | _ => none }
def fnExactLinkLoadRow : OpenClaim := { program := "ytifdjnpnhgdcgaa", sum := "6889102e621ce99fc2b431972f04bc5d9ddd5d99bd61c1aaf8d8fe81e089595f", func := "loop.example/g00973/laws.FnExactLinkLoad", spec := "fnExactLinkLoad", apart := false }
def FnExactLinkLoadSaid : Prop := fnExactLinkLoadRow.holds Try.pinned (OpenSpec.ofChange fnExactLinkLoadSpec)

/-- ITS FALSE NEIGHBOUR: 'it returns false'. Refute it at one input. -/
def fnExactLinkLoadWrong : ChangeSpec := { name := "fnExactLinkLoad", fn := fun _ => fun
  | [d] => { results := [.lit (.bool false)], args := [d] }
  | _ => none }
def FnExactLinkLoadWrongFalsely : Prop := fnExactLinkLoadRow.holds Try.pinned (OpenSpec.ofChange fnExactLinkLoadWrong)

/-- 'laws.FnExactQueueLoad': WHATEVER THE INPUT: true; the input reads as it did. -/
def fnExactQueueLoadSpec : ChangeSpec := { name := "fnExactQueueLoad", fn := fun _ => fun
  | [d] => { results := [.lit (.bool true)], args := [d] }
  | _ => none }
def fnExactQueueLoadRow : OpenClaim := { program := "ytifdjnpnhgdcgaa", sum := "6889102e621ce99fc2b431972f04bc5d9ddd5d99bd61c1aaf8d8fe81e089595f", func := "loop.example/g00973/laws.FnExactQueueLoad", spec := "fnExactQueueLoad", apart := false }
def FnExactQueueLoadSaid : Prop := fnExactQueueLoadRow.holds Try.pinned (OpenSpec.ofChange fnExactQueueLoadSpec)

/-- ITS FALSE NEIGHBOUR: 'it returns false'. Refute it at one input. -/
def fnExactQueueLoadWrong : ChangeSpec := { name := "fnExactQueueLoad", fn := fun _ => fun
  | [d] => { results := [.lit (.bool false)], args := [d] }
  | _ => none }
def FnExactQueueLoadWrongFalsely : Prop := fnExactQueueLoadRow.holds Try.pinned (OpenSpec.ofChange fnExactQueueLoadWrong)

/-- 'laws.FnExactSentIn': WHATEVER THE INPUT: true; the input reads as it did. -/
def fnExactSentInSpec : ChangeSpec := { name := "fnExactSentIn", fn := fun _ => fun
  | [d] => { results := [.lit (.bool true)], args := [d] }
  | _ => none }
def fnExactSentInRow : OpenClaim := { program := "ytifdjnpnhgdcgaa", sum := "6889102e621ce99fc2b431972f04bc5d9ddd5d99bd61c1aaf8d8fe81e089595f", func := "loop.example/g00973/laws.FnExactSentIn", spec := "fnExactSentIn", apart := false }
def FnExactSentInSaid : Prop := fnExactSentInRow.holds Try.pinned (OpenSpec.ofChange fnExactSentInSpec)

/-- ITS FALSE NEIGHBOUR: 'it returns false'. Refute it at one input. -/
def fnExactSentInWrong : ChangeSpec := { name := "fnExactSentIn", fn := fun _ => fun
  | [d] => { results := [.lit (.bool false)], args := [d] }
  | _ => none }
def FnExactSentInWrongFalsely : Prop := fnExactSentInRow.holds Try.pinned (OpenSpec.ofChange fnExactSentInWrong)

/-- 'laws.FnExactFullLinks': WHATEVER THE INPUT: true; the input reads as it did. -/
def fnExactFullLinksSpec : ChangeSpec := { name := "fnExactFullLinks", fn := fun _ => fun
  | [d] => { results := [.lit (.bool true)], args := [d] }
  | _ => none }
def fnExactFullLinksRow : OpenClaim := { program := "ytifdjnpnhgdcgaa", sum := "6889102e621ce99fc2b431972f04bc5d9ddd5d99bd61c1aaf8d8fe81e089595f", func := "loop.example/g00973/laws.FnExactFullLinks", spec := "fnExactFullLinks", apart := false }
def FnExactFullLinksSaid : Prop := fnExactFullLinksRow.holds Try.pinned (OpenSpec.ofChange fnExactFullLinksSpec)

/-- ITS FALSE NEIGHBOUR: 'it returns false'. Refute it at one input. -/
def fnExactFullLinksWrong : ChangeSpec := { name := "fnExactFullLinks", fn := fun _ => fun
  | [d] => { results := [.lit (.bool false)], args := [d] }
  | _ => none }
def FnExactFullLinksWrongFalsely : Prop := fnExactFullLinksRow.holds Try.pinned (OpenSpec.ofChange fnExactFullLinksWrong)

/-- 'laws.FnExactLongestQueue': WHATEVER THE INPUT: true; the input reads as it did. -/
def fnExactLongestQueueSpec : ChangeSpec := { name := "fnExactLongestQueue", fn := fun _ => fun
  | [d] => { results := [.lit (.bool true)], args := [d] }
  | _ => none }
def fnExactLongestQueueRow : OpenClaim := { program := "ytifdjnpnhgdcgaa", sum := "6889102e621ce99fc2b431972f04bc5d9ddd5d99bd61c1aaf8d8fe81e089595f", func := "loop.example/g00973/laws.FnExactLongestQueue", spec := "fnExactLongestQueue", apart := false }
def FnExactLongestQueueSaid : Prop := fnExactLongestQueueRow.holds Try.pinned (OpenSpec.ofChange fnExactLongestQueueSpec)

/-- ITS FALSE NEIGHBOUR: 'it returns false'. Refute it at one input. -/
def fnExactLongestQueueWrong : ChangeSpec := { name := "fnExactLongestQueue", fn := fun _ => fun
  | [d] => { results := [.lit (.bool false)], args := [d] }
  | _ => none }
def FnExactLongestQueueWrongFalsely : Prop := fnExactLongestQueueRow.holds Try.pinned (OpenSpec.ofChange fnExactLongestQueueWrong)

/-- 'laws.FnExactCellsSpread': WHATEVER THE INPUT: true; the input reads as it did. -/
def fnExactCellsSpreadSpec : ChangeSpec := { name := "fnExactCellsSpread", fn := fun _ => fun
  | [d] => { results := [.lit (.bool true)], args := [d] }
  | _ => none }
def fnExactCellsSpreadRow : OpenClaim := { program := "ytifdjnpnhgdcgaa", sum := "6889102e621ce99fc2b431972f04bc5d9ddd5d99bd61c1aaf8d8fe81e089595f", func := "loop.example/g00973/laws.FnExactCellsSpread", spec := "fnExactCellsSpread", apart := false }
def FnExactCellsSpreadSaid : Prop := fnExactCellsSpreadRow.holds Try.pinned (OpenSpec.ofChange fnExactCellsSpreadSpec)

/-- ITS FALSE NEIGHBOUR: 'it returns false'. Refute it at one input. -/
def fnExactCellsSpreadWrong : ChangeSpec := { name := "fnExactCellsSpread", fn := fun _ => fun
  | [d] => { results := [.lit (.bool false)], args := [d] }
  | _ => none }
def FnExactCellsSpreadWrongFalsely : Prop := fnExactCellsSpreadRow.holds Try.pinned (OpenSpec.ofChange fnExactCellsSpreadWrong)

/-- 'laws.FnExactAllPassive': WHATEVER THE INPUT: true; the input reads as it did. -/
def fnExactAllPassiveSpec : ChangeSpec := { name := "fnExactAllPassive", fn := fun _ => fun
  | [d1, d2] => { results := [.lit (.bool true)], args := [d1, d2] }
  | _ => none }
def fnExactAllPassiveRow : OpenClaim := { program := "ytifdjnpnhgdcgaa", sum := "6889102e621ce99fc2b431972f04bc5d9ddd5d99bd61c1aaf8d8fe81e089595f", func := "loop.example/g00973/laws.FnExactAllPassive", spec := "fnExactAllPassive", unfollowed := true, recurses := true, apart := false }
def FnExactAllPassiveSaid : Prop := fnExactAllPassiveRow.holds Try.pinned (OpenSpec.ofChange fnExactAllPassiveSpec)

/-- ITS FALSE NEIGHBOUR: 'it returns false'. Refute it at one input. -/
def fnExactAllPassiveWrong : ChangeSpec := { name := "fnExactAllPassive", fn := fun _ => fun
  | [d1, d2] => { results := [.lit (.bool false)], args := [d1, d2] }
  | _ => none }
def FnExactAllPassiveWrongFalsely : Prop := fnExactAllPassiveRow.holds Try.pinned (OpenSpec.ofChange fnExactAllPassiveWrong)

/-- 'laws.FnExactOverAt': WHATEVER THE INPUT: true; the input reads as it did. -/
def fnExactOverAtSpec : ChangeSpec := { name := "fnExactOverAt", fn := fun _ => fun
  | [d1, d2] => { results := [.lit (.bool true)], args := [d1, d2] }
  | _ => none }
def fnExactOverAtRow : OpenClaim := { program := "ytifdjnpnhgdcgaa", sum := "6889102e621ce99fc2b431972f04bc5d9ddd5d99bd61c1aaf8d8fe81e089595f", func := "loop.example/g00973/laws.FnExactOverAt", spec := "fnExactOverAt", unfollowed := true, recurses := true, apart := false }
def FnExactOverAtSaid : Prop := fnExactOverAtRow.holds Try.pinned (OpenSpec.ofChange fnExactOverAtSpec)

/-- ITS FALSE NEIGHBOUR: 'it returns false'. Refute it at one input. -/
def fnExactOverAtWrong : ChangeSpec := { name := "fnExactOverAt", fn := fun _ => fun
  | [d1, d2] => { results := [.lit (.bool false)], args := [d1, d2] }
  | _ => none }
def FnExactOverAtWrongFalsely : Prop := fnExactOverAtRow.holds Try.pinned (OpenSpec.ofChange fnExactOverAtWrong)

/-- 'laws.FnExactWaitsFor': WHATEVER THE INPUT: true; the input reads as it did. -/
def fnExactWaitsForSpec : ChangeSpec := { name := "fnExactWaitsFor", fn := fun _ => fun
  | [d1, d2] => { results := [.lit (.bool true)], args := [d1, d2] }
  | _ => none }
def fnExactWaitsForRow : OpenClaim := { program := "ytifdjnpnhgdcgaa", sum := "6889102e621ce99fc2b431972f04bc5d9ddd5d99bd61c1aaf8d8fe81e089595f", func := "loop.example/g00973/laws.FnExactWaitsFor", spec := "fnExactWaitsFor", unfollowed := true, recurses := true, apart := false }
def FnExactWaitsForSaid : Prop := fnExactWaitsForRow.holds Try.pinned (OpenSpec.ofChange fnExactWaitsForSpec)

/-- ITS FALSE NEIGHBOUR: 'it returns false'. Refute it at one input. -/
def fnExactWaitsForWrong : ChangeSpec := { name := "fnExactWaitsFor", fn := fun _ => fun
  | [d1, d2] => { results := [.lit (.bool false)], args := [d1, d2] }
  | _ => none }
def FnExactWaitsForWrongFalsely : Prop := fnExactWaitsForRow.holds Try.pinned (OpenSpec.ofChange fnExactWaitsForWrong)

/- THE SECOND FORM. 'bulk': how many values and letters a reading holds, each counted each time it is reached (what is shared counts as often as it is met; a slice's spare places count too). A statement '..UptoSaid' is the law's where the arguments, and the package variables that the reading takes, are together of bulk at most 1048576: NARROWER than '..Said'. Prove '..Said' where nothing that the law and all that it calls make is longer than what came in: it says more and counts as full. Else prove '..UptoSaid'. A law counts once. -/
mutual
def uptoBulk {H : Type} : DataW H → Nat
  | .lit (.string bytes) => bytes.length + 1
  | .lit _ => 1
  | .nil => 1
  | .ptr d => uptoBulk d + 1
  | .slice elems spare => uptoBulkAll elems + uptoBulkAll spare + 1
  | .agg parts => uptoBulkAll parts + 1
  | .iface _ d => uptoBulk d + 1
  | .map entries => uptoBulkEntries entries + 1
  | .held _ => 1
def uptoBulkAll {H : Type} : List (DataW H) → Nat
  | [] => 0
  | d :: r => uptoBulk d + uptoBulkAll r
def uptoBulkEntries {H : Type} : List (Lit × DataW H) → Nat
  | [] => 0
  | x :: r => uptoBulkEntry x + uptoBulkEntries r
def uptoBulkEntry {H : Type} : Lit × DataW H → Nat
  | (.string bytes, d) => bytes.length + uptoBulk d + 1
  | (_, d) => uptoBulk d + 1
 end
def uptoSmall : (H : Type) → List (DataW H) → Bool := fun _ ds => decide (uptoBulkAll ds ≤ 1048576)
def OpenSpec.upto (s : _root_.Go.ChangeSpec) : _root_.Go.OpenSpec := { _root_.Go.OpenSpec.ofChange s with cond := some uptoSmall }

/-- 'laws.FnSchedules', WHERE WHAT IT READS IS OF BULK AT MOST 1048576: true; the input reads as it did. -/
def fnSchedulesUptoRow : OpenClaim := { program := "ytifdjnpnhgdcgaa", sum := "6889102e621ce99fc2b431972f04bc5d9ddd5d99bd61c1aaf8d8fe81e089595f", func := "loop.example/g00973/laws.FnSchedules", spec := "fnSchedules", apart := false, narrowed := true }
def FnSchedulesUptoSaid : Prop := fnSchedulesUptoRow.holds Try.pinned (OpenSpec.upto fnSchedulesSpec)

/-- 'laws.FnExactGotIn', WHERE WHAT IT READS IS OF BULK AT MOST 1048576: true; the input reads as it did. -/
def fnExactGotInUptoRow : OpenClaim := { program := "ytifdjnpnhgdcgaa", sum := "6889102e621ce99fc2b431972f04bc5d9ddd5d99bd61c1aaf8d8fe81e089595f", func := "loop.example/g00973/laws.FnExactGotIn", spec := "fnExactGotIn", apart := false, narrowed := true }
def FnExactGotInUptoSaid : Prop := fnExactGotInUptoRow.holds Try.pinned (OpenSpec.upto fnExactGotInSpec)

/-- 'laws.FnExactLinkLoad', WHERE WHAT IT READS IS OF BULK AT MOST 1048576: true; the input reads as it did. -/
def fnExactLinkLoadUptoRow : OpenClaim := { program := "ytifdjnpnhgdcgaa", sum := "6889102e621ce99fc2b431972f04bc5d9ddd5d99bd61c1aaf8d8fe81e089595f", func := "loop.example/g00973/laws.FnExactLinkLoad", spec := "fnExactLinkLoad", apart := false, narrowed := true }
def FnExactLinkLoadUptoSaid : Prop := fnExactLinkLoadUptoRow.holds Try.pinned (OpenSpec.upto fnExactLinkLoadSpec)

/-- 'laws.FnExactQueueLoad', WHERE WHAT IT READS IS OF BULK AT MOST 1048576: true; the input reads as it did. -/
def fnExactQueueLoadUptoRow : OpenClaim := { program := "ytifdjnpnhgdcgaa", sum := "6889102e621ce99fc2b431972f04bc5d9ddd5d99bd61c1aaf8d8fe81e089595f", func := "loop.example/g00973/laws.FnExactQueueLoad", spec := "fnExactQueueLoad", apart := false, narrowed := true }
def FnExactQueueLoadUptoSaid : Prop := fnExactQueueLoadUptoRow.holds Try.pinned (OpenSpec.upto fnExactQueueLoadSpec)

/-- 'laws.FnExactSentIn', WHERE WHAT IT READS IS OF BULK AT MOST 1048576: true; the input reads as it did. -/
def fnExactSentInUptoRow : OpenClaim := { program := "ytifdjnpnhgdcgaa", sum := "6889102e621ce99fc2b431972f04bc5d9ddd5d99bd61c1aaf8d8fe81e089595f", func := "loop.example/g00973/laws.FnExactSentIn", spec := "fnExactSentIn", apart := false, narrowed := true }
def FnExactSentInUptoSaid : Prop := fnExactSentInUptoRow.holds Try.pinned (OpenSpec.upto fnExactSentInSpec)

/-- 'laws.FnExactFullLinks', WHERE WHAT IT READS IS OF BULK AT MOST 1048576: true; the input reads as it did. -/
def fnExactFullLinksUptoRow : OpenClaim := { program := "ytifdjnpnhgdcgaa", sum := "6889102e621ce99fc2b431972f04bc5d9ddd5d99bd61c1aaf8d8fe81e089595f", func := "loop.example/g00973/laws.FnExactFullLinks", spec := "fnExactFullLinks", apart := false, narrowed := true }
def FnExactFullLinksUptoSaid : Prop := fnExactFullLinksUptoRow.holds Try.pinned (OpenSpec.upto fnExactFullLinksSpec)

/-- 'laws.FnExactLongestQueue', WHERE WHAT IT READS IS OF BULK AT MOST 1048576: true; the input reads as it did. -/
def fnExactLongestQueueUptoRow : OpenClaim := { program := "ytifdjnpnhgdcgaa", sum := "6889102e621ce99fc2b431972f04bc5d9ddd5d99bd61c1aaf8d8fe81e089595f", func := "loop.example/g00973/laws.FnExactLongestQueue", spec := "fnExactLongestQueue", apart := false, narrowed := true }
def FnExactLongestQueueUptoSaid : Prop := fnExactLongestQueueUptoRow.holds Try.pinned (OpenSpec.upto fnExactLongestQueueSpec)

/-- 'laws.FnExactCellsSpread', WHERE WHAT IT READS IS OF BULK AT MOST 1048576: true; the input reads as it did. -/
def fnExactCellsSpreadUptoRow : OpenClaim := { program := "ytifdjnpnhgdcgaa", sum := "6889102e621ce99fc2b431972f04bc5d9ddd5d99bd61c1aaf8d8fe81e089595f", func := "loop.example/g00973/laws.FnExactCellsSpread", spec := "fnExactCellsSpread", apart := false, narrowed := true }
def FnExactCellsSpreadUptoSaid : Prop := fnExactCellsSpreadUptoRow.holds Try.pinned (OpenSpec.upto fnExactCellsSpreadSpec)

/-- 'laws.FnExactAllPassive', WHERE WHAT IT READS IS OF BULK AT MOST 1048576: true; the input reads as it did. -/
def fnExactAllPassiveUptoRow : OpenClaim := { program := "ytifdjnpnhgdcgaa", sum := "6889102e621ce99fc2b431972f04bc5d9ddd5d99bd61c1aaf8d8fe81e089595f", func := "loop.example/g00973/laws.FnExactAllPassive", spec := "fnExactAllPassive", unfollowed := true, recurses := true, apart := false, narrowed := true }
def FnExactAllPassiveUptoSaid : Prop := fnExactAllPassiveUptoRow.holds Try.pinned (OpenSpec.upto fnExactAllPassiveSpec)

/-- 'laws.FnExactOverAt', WHERE WHAT IT READS IS OF BULK AT MOST 1048576: true; the input reads as it did. -/
def fnExactOverAtUptoRow : OpenClaim := { program := "ytifdjnpnhgdcgaa", sum := "6889102e621ce99fc2b431972f04bc5d9ddd5d99bd61c1aaf8d8fe81e089595f", func := "loop.example/g00973/laws.FnExactOverAt", spec := "fnExactOverAt", unfollowed := true, recurses := true, apart := false, narrowed := true }
def FnExactOverAtUptoSaid : Prop := fnExactOverAtUptoRow.holds Try.pinned (OpenSpec.upto fnExactOverAtSpec)

/-- 'laws.FnExactWaitsFor', WHERE WHAT IT READS IS OF BULK AT MOST 1048576: true; the input reads as it did. -/
def fnExactWaitsForUptoRow : OpenClaim := { program := "ytifdjnpnhgdcgaa", sum := "6889102e621ce99fc2b431972f04bc5d9ddd5d99bd61c1aaf8d8fe81e089595f", func := "loop.example/g00973/laws.FnExactWaitsFor", spec := "fnExactWaitsFor", unfollowed := true, recurses := true, apart := false, narrowed := true }
def FnExactWaitsForUptoSaid : Prop := fnExactWaitsForUptoRow.holds Try.pinned (OpenSpec.upto fnExactWaitsForSpec)

end Rows
end Go.Proofs.Ytifdjnpnhgdcgaa
