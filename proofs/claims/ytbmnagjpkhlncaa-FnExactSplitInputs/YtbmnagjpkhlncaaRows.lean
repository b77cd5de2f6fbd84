/-
  No cell of these rows narrows 'for every input' (looked for: loops, veiled, ifaces, maps, wideKeys, modest, calm, conditions, laid).
  DERIVED. THE GIVEN ROWS OF THIS SEAT. 7 by the template 'for every input the law returns true; each argument reads behind the call as it read before'; 0 by the template 'total and deterministic' (their statements: YtbmnagjpkhlncaaTotals.lean).
  GIVEN WITH THE SEED: the statements are not yours to turn. If you find one false, say at which input.
  Laid BY PROGRAM, IN A SANDBOX (cutbox-rows.mjs): the forced cells as the released guide's own fill.sh prints them over the translation 8389741b2926ed43… (all of the seat's roots in one cut). By AI agents, Wed Nov 11 2026. No macro, syntax, notation, axiom, sorry.
-/
import Derived.Test.YtbmnagjpkhlncaaChecked
import GoSem.Claim
import GoSem.ClaimJoined
import GoSem.ClaimMapViews
import Derived.JoinedTies
import Derived.KernelRfl
namespace Go.Proofs.Ytbmnagjpkhlncaa
/- THE CELL 'sum', in the pinned program and in every row, IS THE sha256 OF THE DUMP (.gsa) THAT YtbmnagjpkhlncaaProg.lean LOADS. Nothing in Lean hashes anything: it is a label: what it is worth is what the hold of that sum in a sandbox is worth. -/
noncomputable def Try.pinned : Pinned := { name := "ytbmnagjpkhlncaa", sum := "8389741b2926ed438a78c426b3277fc0ffc029f07c188ddb30bedc6ace018c5c", checked := Try.checked }
namespace Rows
def none {H : Type} : Left H := { results := [], args := [] }

/-- 'laws.FnExactLinesOf': WHATEVER THE INPUT: true; the input reads as it did. -/
def fnExactLinesOfSpec : ChangeSpec := { name := "fnExactLinesOf", fn := fun _ => fun
  | [d] => { results := [.lit (.bool true)], args := [d] }
  | _ => none }
def fnExactLinesOfRow : OpenClaim := { program := "ytbmnagjpkhlncaa", sum := "8389741b2926ed438a78c426b3277fc0ffc029f07c188ddb30bedc6ace018c5c", func := "loop.example/g00973/laws.FnExactLinesOf", spec := "fnExactLinesOf", apart := false }
def FnExactLinesOfSaid : Prop := fnExactLinesOfRow.holds Try.pinned (OpenSpec.ofChange fnExactLinesOfSpec)

/-- ITS FALSE NEIGHBOUR: 'it returns false'. Refute it at one input. -/
def fnExactLinesOfWrong : ChangeSpec := { name := "fnExactLinesOf", fn := fun _ => fun
  | [d] => { results := [.lit (.bool false)], args := [d] }
  | _ => none }
def FnExactLinesOfWrongFalsely : Prop := fnExactLinesOfRow.holds Try.pinned (OpenSpec.ofChange fnExactLinesOfWrong)

/-- 'laws.FnExactTurnsOf': WHATEVER THE INPUT: true; the input reads as it did. -/
def fnExactTurnsOfSpec : ChangeSpec := { name := "fnExactTurnsOf", fn := fun _ => fun
  | [d] => { results := [.lit (.bool true)], args := [d] }
  | _ => none }
def fnExactTurnsOfRow : OpenClaim := { program := "ytbmnagjpkhlncaa", sum := "8389741b2926ed438a78c426b3277fc0ffc029f07c188ddb30bedc6ace018c5c", func := "loop.example/g00973/laws.FnExactTurnsOf", spec := "fnExactTurnsOf", apart := false }
def FnExactTurnsOfSaid : Prop := fnExactTurnsOfRow.holds Try.pinned (OpenSpec.ofChange fnExactTurnsOfSpec)

/-- ITS FALSE NEIGHBOUR: 'it returns false'. Refute it at one input. -/
def fnExactTurnsOfWrong : ChangeSpec := { name := "fnExactTurnsOf", fn := fun _ => fun
  | [d] => { results := [.lit (.bool false)], args := [d] }
  | _ => none }
def FnExactTurnsOfWrongFalsely : Prop := fnExactTurnsOfRow.holds Try.pinned (OpenSpec.ofChange fnExactTurnsOfWrong)

/-- 'laws.FnExactWithoutWorker': WHATEVER THE INPUT: true; the input reads as it did. -/
def fnExactWithoutWorkerSpec : ChangeSpec := { name := "fnExactWithoutWorker", fn := fun _ => fun
  | [d1, d2] => { results := [.lit (.bool true)], args := [d1, d2] }
  | _ => none }
def fnExactWithoutWorkerRow : OpenClaim := { program := "ytbmnagjpkhlncaa", sum := "8389741b2926ed438a78c426b3277fc0ffc029f07c188ddb30bedc6ace018c5c", func := "loop.example/g00973/laws.FnExactWithoutWorker", spec := "fnExactWithoutWorker", apart := false }
def FnExactWithoutWorkerSaid : Prop := fnExactWithoutWorkerRow.holds Try.pinned (OpenSpec.ofChange fnExactWithoutWorkerSpec)

/-- ITS FALSE NEIGHBOUR: 'it returns false'. Refute it at one input. -/
def fnExactWithoutWorkerWrong : ChangeSpec := { name := "fnExactWithoutWorker", fn := fun _ => fun
  | [d1, d2] => { results := [.lit (.bool false)], args := [d1, d2] }
  | _ => none }
def FnExactWithoutWorkerWrongFalsely : Prop := fnExactWithoutWorkerRow.holds Try.pinned (OpenSpec.ofChange fnExactWithoutWorkerWrong)

/-- 'laws.FnExactSplitInputs': WHATEVER THE INPUT: true; the input reads as it did. -/
def fnExactSplitInputsSpec : ChangeSpec := { name := "fnExactSplitInputs", fn := fun _ => fun
  | [d1, d2] => { results := [.lit (.bool true)], args := [d1, d2] }
  | _ => none }
def fnExactSplitInputsRow : OpenClaim := { program := "ytbmnagjpkhlncaa", sum := "8389741b2926ed438a78c426b3277fc0ffc029f07c188ddb30bedc6ace018c5c", func := "loop.example/g00973/laws.FnExactSplitInputs", spec := "fnExactSplitInputs", apart := false }
def FnExactSplitInputsSaid : Prop := fnExactSplitInputsRow.holds Try.pinned (OpenSpec.ofChange fnExactSplitInputsSpec)

/-- ITS FALSE NEIGHBOUR: 'it returns false'. Refute it at one input. -/
def fnExactSplitInputsWrong : ChangeSpec := { name := "fnExactSplitInputs", fn := fun _ => fun
  | [d1, d2] => { results := [.lit (.bool false)], args := [d1, d2] }
  | _ => none }
def FnExactSplitInputsWrongFalsely : Prop := fnExactSplitInputsRow.holds Try.pinned (OpenSpec.ofChange fnExactSplitInputsWrong)

/-- 'laws.FnExactWithCap': WHATEVER THE INPUT: true; the input reads as it did. -/
def fnExactWithCapSpec : ChangeSpec := { name := "fnExactWithCap", fn := fun _ => fun
  | [d1, d2] => { results := [.lit (.bool true)], args := [d1, d2] }
  | _ => none }
def fnExactWithCapRow : OpenClaim := { program := "ytbmnagjpkhlncaa", sum := "8389741b2926ed438a78c426b3277fc0ffc029f07c188ddb30bedc6ace018c5c", func := "loop.example/g00973/laws.FnExactWithCap", spec := "fnExactWithCap", apart := false }
def FnExactWithCapSaid : Prop := fnExactWithCapRow.holds Try.pinned (OpenSpec.ofChange fnExactWithCapSpec)

/-- ITS FALSE NEIGHBOUR: 'it returns false'. Refute it at one input. -/
def fnExactWithCapWrong : ChangeSpec := { name := "fnExactWithCap", fn := fun _ => fun
  | [d1, d2] => { results := [.lit (.bool false)], args := [d1, d2] }
  | _ => none }
def FnExactWithCapWrongFalsely : Prop := fnExactWithCapRow.holds Try.pinned (OpenSpec.ofChange fnExactWithCapWrong)

/-- 'laws.FnExactWithWorkers': WHATEVER THE INPUT: true; the input reads as it did. -/
def fnExactWithWorkersSpec : ChangeSpec := { name := "fnExactWithWorkers", fn := fun _ => fun
  | [d1, d2] => { results := [.lit (.bool true)], args := [d1, d2] }
  | _ => none }
def fnExactWithWorkersRow : OpenClaim := { program := "ytbmnagjpkhlncaa", sum := "8389741b2926ed438a78c426b3277fc0ffc029f07c188ddb30bedc6ace018c5c", func := "loop.example/g00973/laws.FnExactWithWorkers", spec := "fnExactWithWorkers", apart := false }
def FnExactWithWorkersSaid : Prop := fnExactWithWorkersRow.holds Try.pinned (OpenSpec.ofChange fnExactWithWorkersSpec)

/-- ITS FALSE NEIGHBOUR: 'it returns false'. Refute it at one input. -/
def fnExactWithWorkersWrong : ChangeSpec := { name := "fnExactWithWorkers", fn := fun _ => fun
  | [d1, d2] => { results := [.lit (.bool false)], args := [d1, d2] }
  | _ => none }
def FnExactWithWorkersWrongFalsely : Prop := fnExactWithWorkersRow.holds Try.pinned (OpenSpec.ofChange fnExactWithWorkersWrong)

/-- 'laws.FnExactSameScript': WHATEVER THE INPUT: true; the input reads as it did. -/
def fnExactSameScriptSpec : ChangeSpec := { name := "fnExactSameScript", fn := fun _ => fun
  | [d1, d2] => { results := [.lit (.bool true)], args := [d1, d2] }
  | _ => none }
def fnExactSameScriptRow : OpenClaim := { program := "ytbmnagjpkhlncaa", sum := "8389741b2926ed438a78c426b3277fc0ffc029f07c188ddb30bedc6ace018c5c", func := "loop.example/g00973/laws.FnExactSameScript", spec := "fnExactSameScript", unfollowed := true, recurses := true, apart := false }
def FnExactSameScriptSaid : Prop := fnExactSameScriptRow.holds Try.pinned (OpenSpec.ofChange fnExactSameScriptSpec)

/-- ITS FALSE NEIGHBOUR: 'it returns false'. Refute it at one input. -/
def fnExactSameScriptWrong : ChangeSpec := { name := "fnExactSameScript", fn := fun _ => fun
  | [d1, d2] => { results := [.lit (.bool false)], args := [d1, d2] }
  | _ => none }
def FnExactSameScriptWrongFalsely : Prop := fnExactSameScriptRow.holds Try.pinned (OpenSpec.ofChange fnExactSameScriptWrong)

/- THE SECOND FORM. 'bulk': how many values and letters a reading holds, each counted each time it is reached (what is shared counts as often as it is met; a slice's spare places count too). A statement '..UptoSaid' is the law's where the arguments, and the package variables that the reading takes, are together of bulk at most 1048576: NARROWER than '..Said'. Prove '..Said' where nothing that the law and all that it calls make is longer than what came in: it says more and counts as full. Else prove '..UptoSaid'. A law counts once. -/
mutual
def uptoBulk {H : Type} : DataW H → Nat
  | .lit (.string bytes) => bytes.length + 1
  | .lit _ => 1
  | .nil => 1
  | .ptr d => uptoBulk d + 1
  | .slice elems spare => uptoBulkAll elems + uptoBulkAll spare + 1
  | .agg parts => uptoBulkAll parts + 1
  | .iface _ d => uptoBulk d + 1
  | .map entries => uptoBulkEntries entries + 1
  | .held _ => 1
def uptoBulkAll {H : Type} : List (DataW H) → Nat
  | [] => 0
  | d :: r => uptoBulk d + uptoBulkAll r
def uptoBulkEntries {H : Type} : List (Lit × DataW H) → Nat
  | [] => 0
  | x :: r => uptoBulkEntry x + uptoBulkEntries r
def uptoBulkEntry {H : Type} : Lit × DataW H → Nat
  | (.string bytes, d) => bytes.length + uptoBulk d + 1
  | (_, d) => uptoBulk d + 1
 end
def uptoSmall : (H : Type) → List (DataW H) → Bool := fun _ ds => decide (uptoBulkAll ds ≤ 1048576)
def OpenSpec.upto (s : _root_.Go.ChangeSpec) : _root_.Go.OpenSpec := { _root_.Go.OpenSpec.ofChange s with cond := some uptoSmall }

/-- 'laws.FnExactLinesOf', WHERE WHAT IT READS IS OF BULK AT MOST 1048576: true; the input reads as it did. -/
def fnExactLinesOfUptoRow : OpenClaim := { program := "ytbmnagjpkhlncaa", sum := "8389741b2926ed438a78c426b3277fc0ffc029f07c188ddb30bedc6ace018c5c", func := "loop.example/g00973/laws.FnExactLinesOf", spec := "fnExactLinesOf", apart := false, narrowed := true }
def FnExactLinesOfUptoSaid : Prop := fnExactLinesOfUptoRow.holds Try.pinned (OpenSpec.upto fnExactLinesOfSpec)

/-- 'laws.FnExactTurnsOf', WHERE WHAT IT READS IS OF BULK AT MOST 1048576: true; the input reads as it did. -/
def fnExactTurnsOfUptoRow : OpenClaim := { program := "ytbmnagjpkhlncaa", sum := "8389741b2926ed438a78c426b3277fc0ffc029f07c188ddb30bedc6ace018c5c", func := "loop.example/g00973/laws.FnExactTurnsOf", spec := "fnExactTurnsOf", apart := false, narrowed := true }
def FnExactTurnsOfUptoSaid : Prop := fnExactTurnsOfUptoRow.holds Try.pinned (OpenSpec.upto fnExactTurnsOfSpec)

/-- 'laws.FnExactWithoutWorker', WHERE WHAT IT READS IS OF BULK AT MOST 1048576: true; the input reads as it did. -/
def fnExactWithoutWorkerUptoRow : OpenClaim := { program := "ytbmnagjpkhlncaa", sum := "8389741b2926ed438a78c426b3277fc0ffc029f07c188ddb30bedc6ace018c5c", func := "loop.example/g00973/laws.FnExactWithoutWorker", spec := "fnExactWithoutWorker", apart := false, narrowed := true }
def FnExactWithoutWorkerUptoSaid : Prop := fnExactWithoutWorkerUptoRow.holds Try.pinned (OpenSpec.upto fnExactWithoutWorkerSpec)

/-- 'laws.FnExactSplitInputs', WHERE WHAT IT READS IS OF BULK AT MOST 1048576: true; the input reads as it did. -/
def fnExactSplitInputsUptoRow : OpenClaim := { program := "ytbmnagjpkhlncaa", sum := "8389741b2926ed438a78c426b3277fc0ffc029f07c188ddb30bedc6ace018c5c", func := "loop.example/g00973/laws.FnExactSplitInputs", spec := "fnExactSplitInputs", apart := false, narrowed := true }
def FnExactSplitInputsUptoSaid : Prop := fnExactSplitInputsUptoRow.holds Try.pinned (OpenSpec.upto fnExactSplitInputsSpec)

/-- 'laws.FnExactWithCap', WHERE WHAT IT READS IS OF BULK AT MOST 1048576: true; the input reads as it did. -/
def fnExactWithCapUptoRow : OpenClaim := { program := "ytbmnagjpkhlncaa", sum := "8389741b2926ed438a78c426b3277fc0ffc029f07c188ddb30bedc6ace018c5c", func := "loop.example/g00973/laws.FnExactWithCap", spec := "fnExactWithCap", apart := false, narrowed := true }
def FnExactWithCapUptoSaid : Prop := fnExactWithCapUptoRow.holds Try.pinned (OpenSpec.upto fnExactWithCapSpec)

/-- 'laws.FnExactWithWorkers', WHERE WHAT IT READS IS OF BULK AT MOST 1048576: true; the input reads as it did. -/
def fnExactWithWorkersUptoRow : OpenClaim := { program := "ytbmnagjpkhlncaa", sum := "8389741b2926ed438a78c426b3277fc0ffc029f07c188ddb30bedc6ace018c5c", func := "loop.example/g00973/laws.FnExactWithWorkers", spec := "fnExactWithWorkers", apart := false, narrowed := true }
def FnExactWithWorkersUptoSaid : Prop := fnExactWithWorkersUptoRow.holds Try.pinned (OpenSpec.upto fnExactWithWorkersSpec)

/-- 'laws.FnExactSameScript', WHERE WHAT IT READS IS OF BULK AT MOST 1048576: true; the input reads as it did. -/
def fnExactSameScriptUptoRow : OpenClaim := { program := "ytbmnagjpkhlncaa", sum := "8389741b2926ed438a78c426b3277fc0ffc029f07c188ddb30bedc6ace018c5c", func := "loop.example/g00973/laws.FnExactSameScript", spec := "fnExactSameScript", unfollowed := true, recurses := true, apart := false, narrowed := true }
def FnExactSameScriptUptoSaid : Prop := fnExactSameScriptUptoRow.holds Try.pinned (OpenSpec.upto fnExactSameScriptSpec)

end Rows
end Go.Proofs.Ytbmnagjpkhlncaa
