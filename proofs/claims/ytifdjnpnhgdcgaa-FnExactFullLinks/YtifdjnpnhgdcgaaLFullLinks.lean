/- Texts for the law FnExactFullLinks: LFullLinks. No conditions. -/
import Derived.Test.YtifdjnpnhgdcgaaWLoads

set_option maxRecDepth 100000
namespace Go.Proofs.Ytifdjnpnhgdcgaa
open Go.Sx
theorem law (x0 : GCluster) (o0 : x0.ok) : Meets Try.prog 8 [.agg x0.c] [.one (vb true)] := by
  refine enterW tbl_ok false Try.func8 rfl (by decide) fun W => ?_
  conv => whnf
  try (refine drawO rfl (by kernel_rfl) (go tbl_ok false ?_); conv => whnf)
  refine callR (szCluster x0 (1048576) o0 (by omega) (by omega)) rfl (go tbl_ok false ?_)
  conv => whnf
  try (refine drawO rfl (by kernel_rfl) (go tbl_ok false ?_); conv => whnf)
  refine ⟨fun h => ?_, fun h => ?_⟩ <;> simp only [decide_eq_true_eq, decide_eq_false_iff_not] at h <;> conv => whnf
  · exact retW tbl_ok rfl rfl ⟨rfl, trivial⟩
  have g0 := szR_ge h
  rw [szR_pos g0]
  have h0 : x0.w ≤ 1048576 := by omega
  refine callR (toCluster x0 h0) rfl (go tbl_ok false ?_)
  conv => whnf
  try (refine drawO rfl (by kernel_rfl) (go tbl_ok false ?_); conv => whnf)
  refine callR (specFullLinks x0 h0) rfl (go tbl_ok false ?_)
  conv => whnf
  try (refine drawO rfl (by kernel_rfl) (go tbl_ok false ?_); conv => whnf)
  refine callR (toCluster x0 h0) rfl (go tbl_ok false ?_)
  conv => whnf
  try (refine drawO rfl (by kernel_rfl) (go tbl_ok false ?_); conv => whnf)
  refine callR (implFullLinks x0 h0) rfl (go tbl_ok false ?_)
  conv => whnf
  try (refine drawO rfl (by kernel_rfl) (go tbl_ok false ?_); conv => whnf)
  repeat (first | (refine ⟨fun h => nomatch (Eq.trans (Eq.symm h) (by first | with_reducible rfl | assumption) : true = false), fun _ => ?_⟩; conv => whnf) | (refine ⟨fun h => absurd h (by first | (simp only [decide_eq_true_eq]; omega) | simp), fun _ => ?_⟩; conv => whnf) | (refine ⟨fun _ => ?_, fun h => nomatch (Eq.trans (Eq.symm h) (by first | with_reducible rfl | assumption) : false = true)⟩; conv => whnf))
  try (refine drawO rfl (by kernel_rfl) (go tbl_ok false ?_); conv => whnf)
  refine callR (toCluster x0 h0) rfl (go tbl_ok false ?_)
  conv => whnf
  try (refine drawO rfl (by kernel_rfl) (go tbl_ok false ?_); conv => whnf)
  refine callR (eqCluster x0 h0) rfl (go tbl_ok false ?_)
  conv => whnf
  try (refine drawO rfl (by kernel_rfl) (go tbl_ok false ?_); conv => whnf)
  repeat (first | (refine ⟨fun h => nomatch (Eq.trans (Eq.symm h) (by first | with_reducible rfl | assumption) : true = false), fun _ => ?_⟩; conv => whnf) | (refine ⟨fun h => absurd h (by first | (simp only [decide_eq_true_eq]; omega) | simp), fun _ => ?_⟩; conv => whnf) | (refine ⟨fun _ => ?_, fun h => nomatch (Eq.trans (Eq.symm h) (by first | with_reducible rfl | assumption) : false = true)⟩; conv => whnf))
  try (refine drawO rfl (by kernel_rfl) (go tbl_ok false ?_); conv => whnf)
  exact retW tbl_ok rfl rfl ⟨rfl, trivial⟩

end Go.Proofs.Ytifdjnpnhgdcgaa
