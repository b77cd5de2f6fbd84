/- Texts for the law FnLinesBack: WNumI. No conditions. -/
import Derived.Test.YtcpjpkcahnldfaaGreatDoorWNums

set_option maxRecDepth 100000
namespace Go.Proofs.YtcpjpkcahnldfaaGreatDoor
open Go.Sx
theorem dec_noI {n : Int} (h : 0 ≤ n) : noB (dec n) := by
  obtain ⟨m, rfl⟩ : ∃ m : Nat, n = m := ⟨n.toNat, by omega⟩
  exact dec_no m
theorem rdB_decI {n : Int} (h : 0 ≤ n ∧ n ≤ 1000000000) : rdB (dec n) = true := by
  obtain ⟨m, rfl⟩ : ∃ m : Nat, n = m := ⟨n.toNat, by omega⟩
  exact (rdB_dec m (by omega)).1

end Go.Proofs.YtcpjpkcahnldfaaGreatDoor
