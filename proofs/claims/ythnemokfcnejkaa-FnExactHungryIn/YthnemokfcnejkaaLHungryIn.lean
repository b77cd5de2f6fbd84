/- Texts for the law FnExactHungryIn: LHungryIn. No conditions. -/
import Derived.Test.YthnemokfcnejkaaWFlags

set_option maxRecDepth 100000
namespace Go.Proofs.Ythnemokfcnejkaa
open Go.Sx
theorem law (x0 : GCluster) (o0 : x0.ok) : Meets Try.prog 9 [.agg x0.c] [.one (vb true)] := by
  refine enterW tbl_ok false Try.func9 rfl (by decide) fun W => ?_
  conv => whnf
  try (first | (refine drawI 10 rfl [0, 1, 2, 3, 4] (by kernel_rfl) (go tbl_ok false ?_); conv => whnf))
  refine callR (szCluster x0 (1048576) o0 (by omega) (by omega)) rfl (go tbl_ok false ?_)
  conv => whnf
  try (first | (refine drawI 10 rfl [0, 1, 2, 3, 4] (by kernel_rfl) (go tbl_ok false ?_); conv => whnf))
  refine ⟨fun h => ?_, fun h => ?_⟩ <;> simp only [decide_eq_true_eq, decide_eq_false_iff_not] at h <;> conv => whnf
  · exact retW tbl_ok rfl rfl ⟨rfl, trivial⟩
  have g0 := szR_ge h
  rw [szR_pos g0]
  have h0 : x0.w ≤ 1048576 := by omega
  have hm0 := GCluster.cntV_le x0
  have hn0 := GCluster.workers_le h0
  have hW := GCluster.workers_le h0
  have hL := thatW_len (idleP x0) x0.workers.length
  have hb0 : (thatW (idleP x0) x0.workers.length).length ≤ 1048576 := by omega
  have hr0 := iSum_le (thatW (idleP x0) x0.workers.length)
  try (first | (refine drawI 10 rfl [0, 1, 2, 3, 4] (by kernel_rfl) (go tbl_ok false ?_); conv => whnf))
  refine callR (toCluster x0 h0) rfl (go tbl_ok false ?_)
  conv => whnf
  try (first | (refine drawI 10 rfl [0, 1, 2, 3, 4] (by kernel_rfl) (go tbl_ok false ?_); conv => whnf))
  refine callR (specHungryIn x0 h0) rfl (go tbl_ok false ?_)
  conv => whnf
  try (first | (refine drawI 10 rfl [0, 1, 2, 3, 4] (by kernel_rfl) (go tbl_ok false ?_); conv => whnf))
  refine callW (toCluster x0 h0) rfl (go tbl_ok false ?_)
  conv => whnf
  try (first | (refine drawI 10 rfl [0, 1, 2, 3, 4] (by kernel_rfl) (go tbl_ok false ?_); conv => whnf))
  try (first | (refine drawI 10 rfl [0, 1, 2, 3, 4] (by kernel_rfl) (go tbl_ok false ?_); conv => whnf))
  refine callW (implHungryIn x0 h0) rfl (go tbl_ok false ?_)
  conv => whnf
  try (first | (refine drawI 10 rfl [0, 1, 2, 3, 4] (by kernel_rfl) (go tbl_ok false ?_); conv => whnf))
  refine callR (eqIntS (thatW (idleP x0) x0.workers.length) hb0) rfl (go tbl_ok false ?_)
  conv => whnf
  try (first | (refine drawI 10 rfl [0, 1, 2, 3, 4] (by kernel_rfl) (go tbl_ok false ?_); conv => whnf))
  repeat (first | (refine ite_f (by first | with_reducible rfl | assumption) ?_; conv => whnf) | (refine ⟨fun h => absurd h (by first | (simp only [decide_eq_true_eq]; omega) | simp), fun _ => ?_⟩; conv => whnf) | (refine ite_t (by first | with_reducible rfl | assumption) ?_; conv => whnf))
  try (first | (refine drawI 10 rfl [0, 1, 2, 3, 4] (by kernel_rfl) (go tbl_ok false ?_); conv => whnf))
  refine callR (toCluster x0 h0) rfl (go tbl_ok false ?_)
  conv => whnf
  try (first | (refine drawI 10 rfl [0, 1, 2, 3, 4] (by kernel_rfl) (go tbl_ok false ?_); conv => whnf))
  refine callR (eqCluster x0 h0) rfl (go tbl_ok false ?_)
  conv => whnf
  try (first | (refine drawI 10 rfl [0, 1, 2, 3, 4] (by kernel_rfl) (go tbl_ok false ?_); conv => whnf))
  repeat (first | (refine ite_f (by first | with_reducible rfl | assumption) ?_; conv => whnf) | (refine ⟨fun h => absurd h (by first | (simp only [decide_eq_true_eq]; omega) | simp), fun _ => ?_⟩; conv => whnf) | (refine ite_t (by first | with_reducible rfl | assumption) ?_; conv => whnf))
  try (first | (refine drawI 10 rfl [0, 1, 2, 3, 4] (by kernel_rfl) (go tbl_ok false ?_); conv => whnf))
  refine callU (markCluster x0 (1) (by omega) (by omega) (by omega)) (by exact ⟨rfl, rfl, rfl, rfl, rfl, rfl, rfl, trivial⟩) (by exact ⟨trivial, trivial, trivial, trivial, trivial, trivial, trivial, trivial⟩) rfl rfl rfl (go tbl_ok false ?_)
  conv => whnf
  try (first | (refine drawI 10 rfl [0, 1, 2, 3, 4] (by kernel_rfl) (go tbl_ok false ?_); conv => whnf))
  repeat (first | (refine ite_f (by first | with_reducible rfl | assumption) ?_; conv => whnf) | (refine ⟨fun h => absurd h (by first | (simp only [decide_eq_true_eq]; omega) | simp), fun _ => ?_⟩; conv => whnf) | (refine ite_t (by first | with_reducible rfl | assumption) ?_; conv => whnf))
  try (first | (refine drawI 10 rfl [0, 1, 2, 3, 4] (by kernel_rfl) (go tbl_ok false ?_); conv => whnf))
  refine callR (eqIntS (thatW (idleP x0) x0.workers.length) hb0) rfl (go tbl_ok false ?_)
  conv => whnf
  try (first | (refine drawI 10 rfl [0, 1, 2, 3, 4] (by kernel_rfl) (go tbl_ok false ?_); conv => whnf))
  repeat (first | (refine ite_f (by first | with_reducible rfl | assumption) ?_; conv => whnf) | (refine ⟨fun h => absurd h (by first | (simp only [decide_eq_true_eq]; omega) | simp), fun _ => ?_⟩; conv => whnf) | (refine ite_t (by first | with_reducible rfl | assumption) ?_; conv => whnf))
  try (first | (refine drawI 10 rfl [0, 1, 2, 3, 4] (by kernel_rfl) (go tbl_ok false ?_); conv => whnf))
  refine callU (markIntS (thatW (idleP x0) x0.workers.length) (1) (by omega) (by omega)) rfl trivial rfl rfl rfl (go tbl_ok false ?_)
  conv => whnf
  try (first | (refine drawI 10 rfl [0, 1, 2, 3, 4] (by kernel_rfl) (go tbl_ok false ?_); conv => whnf))
  refine callR (heldIntS (thatW (idleP x0) x0.workers.length) (1) (by omega) (by omega)) rfl (go tbl_ok false ?_)
  conv => whnf
  try (first | (refine drawI 10 rfl [0, 1, 2, 3, 4] (by kernel_rfl) (go tbl_ok false ?_); conv => whnf))
  repeat (first | (refine ite_f (by first | with_reducible rfl | assumption) ?_; conv => whnf) | (refine ⟨fun h => absurd h (by first | (simp only [decide_eq_true_eq]; omega) | simp), fun _ => ?_⟩; conv => whnf) | (refine ite_t (by first | with_reducible rfl | assumption) ?_; conv => whnf))
  try (first | (refine drawI 10 rfl [0, 1, 2, 3, 4] (by kernel_rfl) (go tbl_ok false ?_); conv => whnf))
  repeat (first | (refine ite_f (by first | with_reducible rfl | assumption) ?_; conv => whnf) | (refine ⟨fun h => absurd h (by first | (simp only [decide_eq_true_eq]; omega) | simp), fun _ => ?_⟩; conv => whnf) | (refine ite_t (by first | with_reducible rfl | assumption) ?_; conv => whnf))
  try (first | (refine drawI 10 rfl [0, 1, 2, 3, 4] (by kernel_rfl) (go tbl_ok false ?_); conv => whnf))
  try (first | (refine drawI 10 rfl [0, 1, 2, 3, 4] (by kernel_rfl) (go tbl_ok false ?_); conv => whnf))
  refine callR (toCluster x0 h0) rfl (go tbl_ok false ?_)
  conv => whnf
  try (first | (refine drawI 10 rfl [0, 1, 2, 3, 4] (by kernel_rfl) (go tbl_ok false ?_); conv => whnf))
  refine callR (implHungryIn x0 h0) rfl (go tbl_ok false ?_)
  conv => whnf
  try (first | (refine drawI 10 rfl [0, 1, 2, 3, 4] (by kernel_rfl) (go tbl_ok false ?_); conv => whnf))
  refine callR (eqIntS (thatW (idleP x0) x0.workers.length) hb0) rfl (go tbl_ok false ?_)
  conv => whnf
  try (first | (refine drawI 10 rfl [0, 1, 2, 3, 4] (by kernel_rfl) (go tbl_ok false ?_); conv => whnf))
  repeat (first | (refine ite_f (by first | with_reducible rfl | assumption) ?_; conv => whnf) | (refine ⟨fun h => absurd h (by first | (simp only [decide_eq_true_eq]; omega) | simp), fun _ => ?_⟩; conv => whnf) | (refine ite_t (by first | with_reducible rfl | assumption) ?_; conv => whnf))
  try (first | (refine drawI 10 rfl [0, 1, 2, 3, 4] (by kernel_rfl) (go tbl_ok false ?_); conv => whnf))
  refine callR (heldIntS (thatW (idleP x0) x0.workers.length) (1) (by omega) (by omega)) rfl (go tbl_ok false ?_)
  conv => whnf
  try (first | (refine drawI 10 rfl [0, 1, 2, 3, 4] (by kernel_rfl) (go tbl_ok false ?_); conv => whnf))
  repeat (first | (refine ite_f (by first | with_reducible rfl | assumption) ?_; conv => whnf) | (refine ⟨fun h => absurd h (by first | (simp only [decide_eq_true_eq]; omega) | simp), fun _ => ?_⟩; conv => whnf) | (refine ite_t (by first | with_reducible rfl | assumption) ?_; conv => whnf))
  try (first | (refine drawI 10 rfl [0, 1, 2, 3, 4] (by kernel_rfl) (go tbl_ok false ?_); conv => whnf))
  repeat (first | (refine ite_f (by first | with_reducible rfl | assumption) ?_; conv => whnf) | (refine ⟨fun h => absurd h (by first | (simp only [decide_eq_true_eq]; omega) | simp), fun _ => ?_⟩; conv => whnf) | (refine ite_t (by first | with_reducible rfl | assumption) ?_; conv => whnf))
  try (first | (refine drawI 10 rfl [0, 1, 2, 3, 4] (by kernel_rfl) (go tbl_ok false ?_); conv => whnf))
  exact retW tbl_ok rfl rfl ⟨rfl, trivial⟩

end Go.Proofs.Ythnemokfcnejkaa
