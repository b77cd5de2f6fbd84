/- Texts for the law FnExactRoundTold: LRoundTold. No conditions. -/
import Derived.Test.YtlbmkgkmbjadcaaGreatWRT

set_option maxRecDepth 100000
namespace Go.Proofs.YtlbmkgkmbjadcaaGreat
open Go.Sx
theorem law (x0 : GCluster) (x1 : Int) (o0 : x0.ok) (_o1 : inR .i64 x1) : Meets Tryz.prog 5 [.agg x0.c, .one (vi x1)] [.one (vb true)] := by
  refine enterW tbl_ok false Tryz.func5 rfl (by decide) fun W => ?_
  conv => whnf
  try (first | (refine drawI 10 rfl [0, 1, 2, 3, 4] (by kernel_rfl) (go tbl_ok false ?_); conv => whnf))
  refine callR (szCluster x0 (1048576) o0 (by omega) (by omega)) rfl (go tbl_ok false ?_)
  conv => whnf
  try (first | (refine drawI 10 rfl [0, 1, 2, 3, 4] (by kernel_rfl) (go tbl_ok false ?_); conv => whnf))
  refine ⟨fun h => ?_, fun h => ?_⟩ <;> simp only [decide_eq_true_eq, decide_eq_false_iff_not] at h <;> conv => whnf
  · exact retW tbl_ok rfl rfl ⟨rfl, trivial⟩
  have g0 := szR_ge h
  rw [szR_pos g0]
  have h0 : x0.w ≤ 1048576 := by omega
  try (first | (refine drawI 10 rfl [0, 1, 2, 3, 4] (by kernel_rfl) (go tbl_ok false ?_); conv => whnf))
  refine callR (toCluster x0 h0) rfl (go tbl_ok false ?_)
  conv => whnf
  try (first | (refine drawI 10 rfl [0, 1, 2, 3, 4] (by kernel_rfl) (go tbl_ok false ?_); conv => whnf))
  refine callR (specRoundTold x0 x1 (by omega)) rfl (go tbl_ok false ?_)
  conv => whnf
  try (first | (refine drawI 10 rfl [0, 1, 2, 3, 4] (by kernel_rfl) (go tbl_ok false ?_); conv => whnf))
  refine callR (toCluster x0 h0) rfl (go tbl_ok false ?_)
  conv => whnf
  try (first | (refine drawI 10 rfl [0, 1, 2, 3, 4] (by kernel_rfl) (go tbl_ok false ?_); conv => whnf))
  try (first | (refine drawI 10 rfl [0, 1, 2, 3, 4] (by kernel_rfl) (go tbl_ok false ?_); conv => whnf))
  refine callR (implRoundTold x0 x1 (by omega) (fun l hl => got_of o0 l hl)) rfl (go tbl_ok false ?_)
  conv => whnf
  try (first | (refine drawI 10 rfl [0, 1, 2, 3, 4] (by kernel_rfl) (go tbl_ok false ?_); conv => whnf))
  repeat (first | (refine ite_f (by first | with_reducible rfl | assumption) ?_; conv => whnf) | (refine ⟨fun h => absurd h (by first | (simp only [decide_eq_true_eq]; omega) | simp), fun _ => ?_⟩; conv => whnf) | (refine ite_t (by first | with_reducible rfl | assumption) ?_; conv => whnf))
  try (first | (refine drawI 10 rfl [0, 1, 2, 3, 4] (by kernel_rfl) (go tbl_ok false ?_); conv => whnf))
  refine callR (toCluster x0 h0) rfl (go tbl_ok false ?_)
  conv => whnf
  try (first | (refine drawI 10 rfl [0, 1, 2, 3, 4] (by kernel_rfl) (go tbl_ok false ?_); conv => whnf))
  refine callR (eqCluster x0 h0) rfl (go tbl_ok false ?_)
  conv => whnf
  try (first | (refine drawI 10 rfl [0, 1, 2, 3, 4] (by kernel_rfl) (go tbl_ok false ?_); conv => whnf))
  repeat (first | (refine ite_f (by first | with_reducible rfl | assumption) ?_; conv => whnf) | (refine ⟨fun h => absurd h (by first | (simp only [decide_eq_true_eq]; omega) | simp), fun _ => ?_⟩; conv => whnf) | (refine ite_t (by first | with_reducible rfl | assumption) ?_; conv => whnf))
  try (first | (refine drawI 10 rfl [0, 1, 2, 3, 4] (by kernel_rfl) (go tbl_ok false ?_); conv => whnf))
  exact retW tbl_ok rfl rfl ⟨rfl, trivial⟩

end Go.Proofs.YtlbmkgkmbjadcaaGreat
