/-
  No cell of these rows narrows 'for every input' (looked for: loops, veiled, ifaces, maps, wideKeys, modest, calm, conditions, laid).
  DERIVED. THE GIVEN ROWS OF THIS SEAT. 10 by the template 'for every input the law returns true; each argument reads behind the call as it read before'; 0 by the template 'total and deterministic' (their statements: YthnemokfcnejkaaTotals.lean).
  GIVEN WITH THE SEED: the statements are not yours to turn. If you find one false, say at which input.
  Laid BY PROGRAM, IN A SANDBOX (cutbox-rows.mjs): the forced cells as the released guide's own fill.sh prints them over the translation b47aa5e9306cd207… (all of the seat's roots in one cut). By AI agents, Wed Nov 11 2026. No macro, syntax, notation, axiom, sorry.
-/
import Derived.Test.YthnemokfcnejkaaChecked
import GoSem.Claim
import GoSem.ClaimJoined
import GoSem.ClaimMapViews
import Derived.JoinedTies
import Derived.KernelRfl
namespace Go.Proofs.Ythnemokfcnejkaa
/- THE CELL 'sum', in the pinned program and in every row, IS THE sha256 OF THE DUMP (.gsa) THAT YthnemokfcnejkaaProg.lean LOADS. Nothing in Lean hashes anything: it is a label: what it is worth is what the hold of that sum in a sandbox is worth. -/
noncomputable def Try.pinned : Pinned := { name := "ythnemokfcnejkaa", sum := "b47aa5e9306cd2070c47a09c512998338fa9bf09e781f71a843f5a92381d4ec5", checked := Try.checked }
namespace Rows
def none {H : Type} : Left H := { results := [], args := [] }

/-- 'laws.FnExactNameEach': WHATEVER THE INPUT: true; the input reads as it did. -/
def fnExactNameEachSpec : ChangeSpec := { name := "fnExactNameEach", fn := fun _ => fun
  | [d1, d2] => { results := [.lit (.bool true)], args := [d1, d2] }
  | _ => none }
def fnExactNameEachRow : OpenClaim := { program := "ythnemokfcnejkaa", sum := "b47aa5e9306cd2070c47a09c512998338fa9bf09e781f71a843f5a92381d4ec5", func := "loop.example/g00973/laws.FnExactNameEach", spec := "fnExactNameEach", apart := false }
def FnExactNameEachSaid : Prop := fnExactNameEachRow.holds Try.pinned (OpenSpec.ofChange fnExactNameEachSpec)

/-- ITS FALSE NEIGHBOUR: 'it returns false'. Refute it at one input. -/
def fnExactNameEachWrong : ChangeSpec := { name := "fnExactNameEach", fn := fun _ => fun
  | [d1, d2] => { results := [.lit (.bool false)], args := [d1, d2] }
  | _ => none }
def FnExactNameEachWrongFalsely : Prop := fnExactNameEachRow.holds Try.pinned (OpenSpec.ofChange fnExactNameEachWrong)

/-- 'laws.FnUnfair': WHATEVER THE INPUT: true; the input reads as it did. -/
def fnUnfairSpec : ChangeSpec := { name := "fnUnfair", fn := fun _ => fun
  | [d] => { results := [.lit (.bool true)], args := [d] }
  | _ => none }
def fnUnfairRow : OpenClaim := { program := "ythnemokfcnejkaa", sum := "b47aa5e9306cd2070c47a09c512998338fa9bf09e781f71a843f5a92381d4ec5", func := "loop.example/g00973/laws.FnUnfair", spec := "fnUnfair", apart := false }
def FnUnfairSaid : Prop := fnUnfairRow.holds Try.pinned (OpenSpec.ofChange fnUnfairSpec)

/-- ITS FALSE NEIGHBOUR: 'it returns false'. Refute it at one input. -/
def fnUnfairWrong : ChangeSpec := { name := "fnUnfair", fn := fun _ => fun
  | [d] => { results := [.lit (.bool false)], args := [d] }
  | _ => none }
def FnUnfairWrongFalsely : Prop := fnUnfairRow.holds Try.pinned (OpenSpec.ofChange fnUnfairWrong)

/-- 'laws.FnExactIsFair': WHATEVER THE INPUT: true; the input reads as it did. -/
def fnExactIsFairSpec : ChangeSpec := { name := "fnExactIsFair", fn := fun _ => fun
  | [d1, d2, d3] => { results := [.lit (.bool true)], args := [d1, d2, d3] }
  | _ => none }
def fnExactIsFairRow : OpenClaim := { program := "ythnemokfcnejkaa", sum := "b47aa5e9306cd2070c47a09c512998338fa9bf09e781f71a843f5a92381d4ec5", func := "loop.example/g00973/laws.FnExactIsFair", spec := "fnExactIsFair", apart := false }
def FnExactIsFairSaid : Prop := fnExactIsFairRow.holds Try.pinned (OpenSpec.ofChange fnExactIsFairSpec)

/-- ITS FALSE NEIGHBOUR: 'it returns false'. Refute it at one input. -/
def fnExactIsFairWrong : ChangeSpec := { name := "fnExactIsFair", fn := fun _ => fun
  | [d1, d2, d3] => { results := [.lit (.bool false)], args := [d1, d2, d3] }
  | _ => none }
def FnExactIsFairWrongFalsely : Prop := fnExactIsFairRow.holds Try.pinned (OpenSpec.ofChange fnExactIsFairWrong)

/-- 'laws.FnTight': WHATEVER THE INPUT: true; the input reads as it did. -/
def fnTightSpec : ChangeSpec := { name := "fnTight", fn := fun _ => fun
  | [d] => { results := [.lit (.bool true)], args := [d] }
  | _ => none }
def fnTightRow : OpenClaim := { program := "ythnemokfcnejkaa", sum := "b47aa5e9306cd2070c47a09c512998338fa9bf09e781f71a843f5a92381d4ec5", func := "loop.example/g00973/laws.FnTight", spec := "fnTight", unfollowed := true, recurses := true, apart := false }
def FnTightSaid : Prop := fnTightRow.holds Try.pinned (OpenSpec.ofChange fnTightSpec)

/-- ITS FALSE NEIGHBOUR: 'it returns false'. Refute it at one input. -/
def fnTightWrong : ChangeSpec := { name := "fnTight", fn := fun _ => fun
  | [d] => { results := [.lit (.bool false)], args := [d] }
  | _ => none }
def FnTightWrongFalsely : Prop := fnTightRow.holds Try.pinned (OpenSpec.ofChange fnTightWrong)

/-- 'laws.FnExactBlackIn': WHATEVER THE INPUT: true; the input reads as it did. -/
def fnExactBlackInSpec : ChangeSpec := { name := "fnExactBlackIn", fn := fun _ => fun
  | [d1, d2] => { results := [.lit (.bool true)], args := [d1, d2] }
  | _ => none }
def fnExactBlackInRow : OpenClaim := { program := "ythnemokfcnejkaa", sum := "b47aa5e9306cd2070c47a09c512998338fa9bf09e781f71a843f5a92381d4ec5", func := "loop.example/g00973/laws.FnExactBlackIn", spec := "fnExactBlackIn", unfollowed := true, recurses := true, apart := false }
def FnExactBlackInSaid : Prop := fnExactBlackInRow.holds Try.pinned (OpenSpec.ofChange fnExactBlackInSpec)

/-- ITS FALSE NEIGHBOUR: 'it returns false'. Refute it at one input. -/
def fnExactBlackInWrong : ChangeSpec := { name := "fnExactBlackIn", fn := fun _ => fun
  | [d1, d2] => { results := [.lit (.bool false)], args := [d1, d2] }
  | _ => none }
def FnExactBlackInWrongFalsely : Prop := fnExactBlackInRow.holds Try.pinned (OpenSpec.ofChange fnExactBlackInWrong)

/-- 'laws.FnExactCapsIn': WHATEVER THE INPUT: true; the input reads as it did. -/
def fnExactCapsInSpec : ChangeSpec := { name := "fnExactCapsIn", fn := fun _ => fun
  | [d1, d2] => { results := [.lit (.bool true)], args := [d1, d2] }
  | _ => none }
def fnExactCapsInRow : OpenClaim := { program := "ythnemokfcnejkaa", sum := "b47aa5e9306cd2070c47a09c512998338fa9bf09e781f71a843f5a92381d4ec5", func := "loop.example/g00973/laws.FnExactCapsIn", spec := "fnExactCapsIn", unfollowed := true, recurses := true, apart := false }
def FnExactCapsInSaid : Prop := fnExactCapsInRow.holds Try.pinned (OpenSpec.ofChange fnExactCapsInSpec)

/-- ITS FALSE NEIGHBOUR: 'it returns false'. Refute it at one input. -/
def fnExactCapsInWrong : ChangeSpec := { name := "fnExactCapsIn", fn := fun _ => fun
  | [d1, d2] => { results := [.lit (.bool false)], args := [d1, d2] }
  | _ => none }
def FnExactCapsInWrongFalsely : Prop := fnExactCapsInRow.holds Try.pinned (OpenSpec.ofChange fnExactCapsInWrong)

/-- 'laws.FnExactHungryIn': WHATEVER THE INPUT: true; the input reads as it did. -/
def fnExactHungryInSpec : ChangeSpec := { name := "fnExactHungryIn", fn := fun _ => fun
  | [d] => { results := [.lit (.bool true)], args := [d] }
  | _ => none }
def fnExactHungryInRow : OpenClaim := { program := "ythnemokfcnejkaa", sum := "b47aa5e9306cd2070c47a09c512998338fa9bf09e781f71a843f5a92381d4ec5", func := "loop.example/g00973/laws.FnExactHungryIn", spec := "fnExactHungryIn", unfollowed := true, recurses := true, apart := false }
def FnExactHungryInSaid : Prop := fnExactHungryInRow.holds Try.pinned (OpenSpec.ofChange fnExactHungryInSpec)

/-- ITS FALSE NEIGHBOUR: 'it returns false'. Refute it at one input. -/
def fnExactHungryInWrong : ChangeSpec := { name := "fnExactHungryIn", fn := fun _ => fun
  | [d] => { results := [.lit (.bool false)], args := [d] }
  | _ => none }
def FnExactHungryInWrongFalsely : Prop := fnExactHungryInRow.holds Try.pinned (OpenSpec.ofChange fnExactHungryInWrong)

/-- 'laws.FnExactOwnCells': WHATEVER THE INPUT: true; the input reads as it did. -/
def fnExactOwnCellsSpec : ChangeSpec := { name := "fnExactOwnCells", fn := fun _ => fun
  | [d1, d2] => { results := [.lit (.bool true)], args := [d1, d2] }
  | _ => none }
def fnExactOwnCellsRow : OpenClaim := { program := "ythnemokfcnejkaa", sum := "b47aa5e9306cd2070c47a09c512998338fa9bf09e781f71a843f5a92381d4ec5", func := "loop.example/g00973/laws.FnExactOwnCells", spec := "fnExactOwnCells", apart := false }
def FnExactOwnCellsSaid : Prop := fnExactOwnCellsRow.holds Try.pinned (OpenSpec.ofChange fnExactOwnCellsSpec)

/-- ITS FALSE NEIGHBOUR: 'it returns false'. Refute it at one input. -/
def fnExactOwnCellsWrong : ChangeSpec := { name := "fnExactOwnCells", fn := fun _ => fun
  | [d1, d2] => { results := [.lit (.bool false)], args := [d1, d2] }
  | _ => none }
def FnExactOwnCellsWrongFalsely : Prop := fnExactOwnCellsRow.holds Try.pinned (OpenSpec.ofChange fnExactOwnCellsWrong)

/-- 'laws.FnExactRoundRobin': WHATEVER THE INPUT: true; the input reads as it did. -/
def fnExactRoundRobinSpec : ChangeSpec := { name := "fnExactRoundRobin", fn := fun _ => fun
  | [d1, d2] => { results := [.lit (.bool true)], args := [d1, d2] }
  | _ => none }
def fnExactRoundRobinRow : OpenClaim := { program := "ythnemokfcnejkaa", sum := "b47aa5e9306cd2070c47a09c512998338fa9bf09e781f71a843f5a92381d4ec5", func := "loop.example/g00973/laws.FnExactRoundRobin", spec := "fnExactRoundRobin", apart := false }
def FnExactRoundRobinSaid : Prop := fnExactRoundRobinRow.holds Try.pinned (OpenSpec.ofChange fnExactRoundRobinSpec)

/-- ITS FALSE NEIGHBOUR: 'it returns false'. Refute it at one input. -/
def fnExactRoundRobinWrong : ChangeSpec := { name := "fnExactRoundRobin", fn := fun _ => fun
  | [d1, d2] => { results := [.lit (.bool false)], args := [d1, d2] }
  | _ => none }
def FnExactRoundRobinWrongFalsely : Prop := fnExactRoundRobinRow.holds Try.pinned (OpenSpec.ofChange fnExactRoundRobinWrong)

/-- 'laws.FnExactPicksFrom': WHATEVER THE INPUT: true; the input reads as it did. -/
def fnExactPicksFromSpec : ChangeSpec := { name := "fnExactPicksFrom", fn := fun _ => fun
  | [d1, d2] => { results := [.lit (.bool true)], args := [d1, d2] }
  | _ => none }
def fnExactPicksFromRow : OpenClaim := { program := "ythnemokfcnejkaa", sum := "b47aa5e9306cd2070c47a09c512998338fa9bf09e781f71a843f5a92381d4ec5", func := "loop.example/g00973/laws.FnExactPicksFrom", spec := "fnExactPicksFrom", apart := false }
def FnExactPicksFromSaid : Prop := fnExactPicksFromRow.holds Try.pinned (OpenSpec.ofChange fnExactPicksFromSpec)

/-- ITS FALSE NEIGHBOUR: 'it returns false'. Refute it at one input. -/
def fnExactPicksFromWrong : ChangeSpec := { name := "fnExactPicksFrom", fn := fun _ => fun
  | [d1, d2] => { results := [.lit (.bool false)], args := [d1, d2] }
  | _ => none }
def FnExactPicksFromWrongFalsely : Prop := fnExactPicksFromRow.holds Try.pinned (OpenSpec.ofChange fnExactPicksFromWrong)

/- THE SECOND FORM. 'bulk': how many values and letters a reading holds, each counted each time it is reached (what is shared counts as often as it is met; a slice's spare places count too). A statement '..UptoSaid' is the law's where the arguments, and the package variables that the reading takes, are together of bulk at most 1048576: NARROWER than '..Said'. Prove '..Said' where nothing that the law and all that it calls make is longer than what came in: it says more and counts as full. Else prove '..UptoSaid'. A law counts once. -/
mutual
def uptoBulk {H : Type} : DataW H → Nat
  | .lit (.string bytes) => bytes.length + 1
  | .lit _ => 1
  | .nil => 1
  | .ptr d => uptoBulk d + 1
  | .slice elems spare => uptoBulkAll elems + uptoBulkAll spare + 1
  | .agg parts => uptoBulkAll parts + 1
  | .iface _ d => uptoBulk d + 1
  | .map entries => uptoBulkEntries entries + 1
  | .held _ => 1
def uptoBulkAll {H : Type} : List (DataW H) → Nat
  | [] => 0
  | d :: r => uptoBulk d + uptoBulkAll r
def uptoBulkEntries {H : Type} : List (Lit × DataW H) → Nat
  | [] => 0
  | x :: r => uptoBulkEntry x + uptoBulkEntries r
def uptoBulkEntry {H : Type} : Lit × DataW H → Nat
  | (.string bytes, d) => bytes.length + uptoBulk d + 1
  | (_, d) => uptoBulk d + 1
 end
def uptoSmall : (H : Type) → List (DataW H) → Bool := fun _ ds => decide (uptoBulkAll ds ≤ 1048576)
def OpenSpec.upto (s : _root_.Go.ChangeSpec) : _root_.Go.OpenSpec := { _root_.Go.OpenSpec.ofChange s with cond := some uptoSmall }

/-- 'laws.FnExactNameEach', WHERE WHAT IT READS IS OF BULK AT MOST 1048576: true; the input reads as it did. -/
def fnExactNameEachUptoRow : OpenClaim := { program := "ythnemokfcnejkaa", sum := "b47aa5e9306cd2070c47a09c512998338fa9bf09e781f71a843f5a92381d4ec5", func := "loop.example/g00973/laws.FnExactNameEach", spec := "fnExactNameEach", apart := false, narrowed := true }
def FnExactNameEachUptoSaid : Prop := fnExactNameEachUptoRow.holds Try.pinned (OpenSpec.upto fnExactNameEachSpec)

/-- 'laws.FnUnfair', WHERE WHAT IT READS IS OF BULK AT MOST 1048576: true; the input reads as it did. -/
def fnUnfairUptoRow : OpenClaim := { program := "ythnemokfcnejkaa", sum := "b47aa5e9306cd2070c47a09c512998338fa9bf09e781f71a843f5a92381d4ec5", func := "loop.example/g00973/laws.FnUnfair", spec := "fnUnfair", apart := false, narrowed := true }
def FnUnfairUptoSaid : Prop := fnUnfairUptoRow.holds Try.pinned (OpenSpec.upto fnUnfairSpec)

/-- 'laws.FnExactIsFair', WHERE WHAT IT READS IS OF BULK AT MOST 1048576: true; the input reads as it did. -/
def fnExactIsFairUptoRow : OpenClaim := { program := "ythnemokfcnejkaa", sum := "b47aa5e9306cd2070c47a09c512998338fa9bf09e781f71a843f5a92381d4ec5", func := "loop.example/g00973/laws.FnExactIsFair", spec := "fnExactIsFair", apart := false, narrowed := true }
def FnExactIsFairUptoSaid : Prop := fnExactIsFairUptoRow.holds Try.pinned (OpenSpec.upto fnExactIsFairSpec)

/-- 'laws.FnTight', WHERE WHAT IT READS IS OF BULK AT MOST 1048576: true; the input reads as it did. -/
def fnTightUptoRow : OpenClaim := { program := "ythnemokfcnejkaa", sum := "b47aa5e9306cd2070c47a09c512998338fa9bf09e781f71a843f5a92381d4ec5", func := "loop.example/g00973/laws.FnTight", spec := "fnTight", unfollowed := true, recurses := true, apart := false, narrowed := true }
def FnTightUptoSaid : Prop := fnTightUptoRow.holds Try.pinned (OpenSpec.upto fnTightSpec)

/-- 'laws.FnExactBlackIn', WHERE WHAT IT READS IS OF BULK AT MOST 1048576: true; the input reads as it did. -/
def fnExactBlackInUptoRow : OpenClaim := { program := "ythnemokfcnejkaa", sum := "b47aa5e9306cd2070c47a09c512998338fa9bf09e781f71a843f5a92381d4ec5", func := "loop.example/g00973/laws.FnExactBlackIn", spec := "fnExactBlackIn", unfollowed := true, recurses := true, apart := false, narrowed := true }
def FnExactBlackInUptoSaid : Prop := fnExactBlackInUptoRow.holds Try.pinned (OpenSpec.upto fnExactBlackInSpec)

/-- 'laws.FnExactCapsIn', WHERE WHAT IT READS IS OF BULK AT MOST 1048576: true; the input reads as it did. -/
def fnExactCapsInUptoRow : OpenClaim := { program := "ythnemokfcnejkaa", sum := "b47aa5e9306cd2070c47a09c512998338fa9bf09e781f71a843f5a92381d4ec5", func := "loop.example/g00973/laws.FnExactCapsIn", spec := "fnExactCapsIn", unfollowed := true, recurses := true, apart := false, narrowed := true }
def FnExactCapsInUptoSaid : Prop := fnExactCapsInUptoRow.holds Try.pinned (OpenSpec.upto fnExactCapsInSpec)

/-- 'laws.FnExactHungryIn', WHERE WHAT IT READS IS OF BULK AT MOST 1048576: true; the input reads as it did. -/
def fnExactHungryInUptoRow : OpenClaim := { program := "ythnemokfcnejkaa", sum := "b47aa5e9306cd2070c47a09c512998338fa9bf09e781f71a843f5a92381d4ec5", func := "loop.example/g00973/laws.FnExactHungryIn", spec := "fnExactHungryIn", unfollowed := true, recurses := true, apart := false, narrowed := true }
def FnExactHungryInUptoSaid : Prop := fnExactHungryInUptoRow.holds Try.pinned (OpenSpec.upto fnExactHungryInSpec)

/-- 'laws.FnExactOwnCells', WHERE WHAT IT READS IS OF BULK AT MOST 1048576: true; the input reads as it did. -/
def fnExactOwnCellsUptoRow : OpenClaim := { program := "ythnemokfcnejkaa", sum := "b47aa5e9306cd2070c47a09c512998338fa9bf09e781f71a843f5a92381d4ec5", func := "loop.example/g00973/laws.FnExactOwnCells", spec := "fnExactOwnCells", apart := false, narrowed := true }
def FnExactOwnCellsUptoSaid : Prop := fnExactOwnCellsUptoRow.holds Try.pinned (OpenSpec.upto fnExactOwnCellsSpec)

/-- 'laws.FnExactRoundRobin', WHERE WHAT IT READS IS OF BULK AT MOST 1048576: true; the input reads as it did. -/
def fnExactRoundRobinUptoRow : OpenClaim := { program := "ythnemokfcnejkaa", sum := "b47aa5e9306cd2070c47a09c512998338fa9bf09e781f71a843f5a92381d4ec5", func := "loop.example/g00973/laws.FnExactRoundRobin", spec := "fnExactRoundRobin", apart := false, narrowed := true }
def FnExactRoundRobinUptoSaid : Prop := fnExactRoundRobinUptoRow.holds Try.pinned (OpenSpec.upto fnExactRoundRobinSpec)

/-- 'laws.FnExactPicksFrom', WHERE WHAT IT READS IS OF BULK AT MOST 1048576: true; the input reads as it did. -/
def fnExactPicksFromUptoRow : OpenClaim := { program := "ythnemokfcnejkaa", sum := "b47aa5e9306cd2070c47a09c512998338fa9bf09e781f71a843f5a92381d4ec5", func := "loop.example/g00973/laws.FnExactPicksFrom", spec := "fnExactPicksFrom", apart := false, narrowed := true }
def FnExactPicksFromUptoSaid : Prop := fnExactPicksFromUptoRow.holds Try.pinned (OpenSpec.upto fnExactPicksFromSpec)

end Rows
end Go.Proofs.Ythnemokfcnejkaa
