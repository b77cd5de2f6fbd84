/- Texts for the law FnExactWorkerLine: LWorkerLine. No conditions. -/
import Derived.Test.YtnialccpeadbbaaDoorWWork

set_option maxRecDepth 100000
namespace Go.Proofs.YtnialccpeadbbaaDoor
open Go.Sx
theorem law (x0 : GCluster) (x1 : Int) (o0 : x0.ok) (_o1 : inR .i64 x1) : MeetsT Tryd.prog Tab 8 [.agg x0.c, .one (vi x1)] [.one (vb true)] := by
  refine enterT tbl_ok false Tryd.func8 rfl (by decide) fun W hW => ?_
  conv => whnf
  try (first | (refine drawI 10 rfl [0, 1, 2, 3, 4] (by kernel_rfl) (go tbl_ok false ?_); conv => whnf))
  refine callR (szCluster x0 (1048576) o0 (by omega) (by omega)) rfl (go tbl_ok false ?_)
  conv => whnf
  try (first | (refine drawI 10 rfl [0, 1, 2, 3, 4] (by kernel_rfl) (go tbl_ok false ?_); conv => whnf))
  refine ⟨fun h => ?_, fun h => ?_⟩ <;> simp only [decide_eq_true_eq, decide_eq_false_iff_not] at h <;> conv => whnf
  · exact retW tbl_ok rfl rfl ⟨rfl, trivial⟩
  have g0 := szR_ge h
  rw [szR_pos g0]
  have h0 : x0.w ≤ 1048576 := by omega
  try (first | (refine drawI 10 rfl [0, 1, 2, 3, 4] (by kernel_rfl) (go tbl_ok false ?_); conv => whnf))
  refine callR (toCluster x0 h0) rfl (go tbl_ok false ?_)
  conv => whnf
  try (first | (refine drawI 10 rfl [0, 1, 2, 3, 4] (by kernel_rfl) (go tbl_ok false ?_); conv => whnf))
  refine callR (specWorkerLine x0 x1 h0 o0) rfl (go tbl_ok false ?_)
  conv => whnf
  try (first | (refine drawI 10 rfl [0, 1, 2, 3, 4] (by kernel_rfl) (go tbl_ok false ?_); conv => whnf))
  refine callR (toCluster x0 h0) rfl (go tbl_ok false ?_)
  conv => whnf
  try (first | (refine drawI 10 rfl [0, 1, 2, 3, 4] (by kernel_rfl) (go tbl_ok false ?_); conv => whnf))
  try (first | (refine drawI 10 rfl [0, 1, 2, 3, 4] (by kernel_rfl) (go tbl_ok false ?_); conv => whnf))
  refine callRT (implWorkerLine x0 x1 h0 o0) tabStays hW rfl (go tbl_ok false ?_)
  conv => whnf
  try (first | (refine drawI 10 rfl [0, 1, 2, 3, 4] (by kernel_rfl) (go tbl_ok false ?_); conv => whnf))
  repeat (first | (refine ite_f (by first | with_reducible rfl | assumption) ?_; conv => whnf) | (refine ⟨fun h => absurd h (by first | (simp only [decide_eq_true_eq]; omega) | simp [ba_self]), fun _ => ?_⟩; conv => whnf) | (refine ite_t (by first | with_reducible rfl | assumption) ?_; conv => whnf))
  try (first | (refine drawI 10 rfl [0, 1, 2, 3, 4] (by kernel_rfl) (go tbl_ok false ?_); conv => whnf))
  refine callR (toCluster x0 h0) rfl (go tbl_ok false ?_)
  conv => whnf
  try (first | (refine drawI 10 rfl [0, 1, 2, 3, 4] (by kernel_rfl) (go tbl_ok false ?_); conv => whnf))
  refine callR (eqCluster x0 h0) rfl (go tbl_ok false ?_)
  conv => whnf
  try (first | (refine drawI 10 rfl [0, 1, 2, 3, 4] (by kernel_rfl) (go tbl_ok false ?_); conv => whnf))
  repeat (first | (refine ite_f (by first | with_reducible rfl | assumption) ?_; conv => whnf) | (refine ⟨fun h => absurd h (by first | (simp only [decide_eq_true_eq]; omega) | simp [ba_self]), fun _ => ?_⟩; conv => whnf) | (refine ite_t (by first | with_reducible rfl | assumption) ?_; conv => whnf))
  try (first | (refine drawI 10 rfl [0, 1, 2, 3, 4] (by kernel_rfl) (go tbl_ok false ?_); conv => whnf))
  exact retW tbl_ok rfl rfl ⟨rfl, trivial⟩

end Go.Proofs.YtnialccpeadbbaaDoor
