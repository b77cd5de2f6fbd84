/- Texts for the law FnExactPicksFrom: LPicksFrom. No conditions. -/
import Derived.Test.YthnemokfcnejkaaWRounds

set_option maxRecDepth 100000
namespace Go.Proofs.Ythnemokfcnejkaa
open Go.Sx
theorem law (x0 : GCluster) (x1 : List Int) (o0 : x0.ok) (o1 : (x1.length ≤ maxLen ∧ ∀ y ∈ x1, inR .i64 y)) : Meets Try.prog 12 [.agg x0.c, .one (sInt x1)] [.one (vb true)] := by
  refine enterW tbl_ok false Try.func12 rfl (by decide) fun W => ?_
  conv => whnf
  try (first | (refine drawI 13 rfl [0, 1, 2, 3, 4] (by kernel_rfl) (go tbl_ok false ?_); conv => whnf))
  refine ⟨fun h => ?_, fun h => ?_⟩ <;> simp only [decide_eq_true_eq, decide_eq_false_iff_not] at h <;> conv => whnf
  · exact retW tbl_ok rfl rfl ⟨rfl, trivial⟩
  have h1 : x1.length ≤ 1048576 := by omega
  refine callR (szCluster x0 (1048576) o0 (by omega) (by omega)) rfl (go tbl_ok false ?_)
  conv => whnf
  try (first | (refine drawI 13 rfl [0, 1, 2, 3, 4] (by kernel_rfl) (go tbl_ok false ?_); conv => whnf))
  refine ⟨fun h => ?_, fun h => ?_⟩ <;> simp only [decide_eq_true_eq, decide_eq_false_iff_not] at h <;> conv => whnf
  · exact retW tbl_ok rfl rfl ⟨rfl, trivial⟩
  have g0 := szR_ge h
  rw [szR_pos g0]
  have h0 : x0.w ≤ 1048576 := by omega
  have hm0 := GCluster.cntV_le x0
  have hn0 := GCluster.workers_le h0
  have hm1 := iSum_le x1
  have hb0 : (pf (pN x0) x1).length ≤ 1048576 := by rw [pf_len]; exact h1
  have hr0 := GPick.sum_le (pf (pN x0) x1)
  try (first | (refine drawI 13 rfl [0, 1, 2, 3, 4] (by kernel_rfl) (go tbl_ok false ?_); conv => whnf))
  refine callR (toCluster x0 h0) rfl (go tbl_ok false ?_)
  conv => whnf
  try (first | (refine drawI 13 rfl [0, 1, 2, 3, 4] (by kernel_rfl) (go tbl_ok false ?_); conv => whnf))
  refine callR (toIntS x1 h1) rfl (go tbl_ok false ?_)
  conv => whnf
  try (first | (refine drawI 13 rfl [0, 1, 2, 3, 4] (by kernel_rfl) (go tbl_ok false ?_); conv => whnf))
  refine callR (specPicksFrom x0 x1 h1) rfl (go tbl_ok false ?_)
  conv => whnf
  try (first | (refine drawI 13 rfl [0, 1, 2, 3, 4] (by kernel_rfl) (go tbl_ok false ?_); conv => whnf))
  refine callW (toCluster x0 h0) rfl (go tbl_ok false ?_)
  conv => whnf
  try (first | (refine drawI 13 rfl [0, 1, 2, 3, 4] (by kernel_rfl) (go tbl_ok false ?_); conv => whnf))
  refine callW (toIntS x1 h1) rfl (go tbl_ok false ?_)
  conv => whnf
  try (first | (refine drawI 13 rfl [0, 1, 2, 3, 4] (by kernel_rfl) (go tbl_ok false ?_); conv => whnf))
  try (first | (refine drawI 13 rfl [0, 1, 2, 3, 4] (by kernel_rfl) (go tbl_ok false ?_); conv => whnf))
  refine callW (implPicksFrom x0 x1 h1) rfl (go tbl_ok false ?_)
  conv => whnf
  try (first | (refine drawI 13 rfl [0, 1, 2, 3, 4] (by kernel_rfl) (go tbl_ok false ?_); conv => whnf))
  refine callR (eqPickS (pf (pN x0) x1) hb0) rfl (go tbl_ok false ?_)
  conv => whnf
  try (first | (refine drawI 13 rfl [0, 1, 2, 3, 4] (by kernel_rfl) (go tbl_ok false ?_); conv => whnf))
  repeat (first | (refine ite_f (by first | with_reducible rfl | assumption) ?_; conv => whnf) | (refine ⟨fun h => absurd h (by first | (simp only [decide_eq_true_eq]; omega) | simp), fun _ => ?_⟩; conv => whnf) | (refine ite_t (by first | with_reducible rfl | assumption) ?_; conv => whnf))
  try (first | (refine drawI 13 rfl [0, 1, 2, 3, 4] (by kernel_rfl) (go tbl_ok false ?_); conv => whnf))
  refine callR (toCluster x0 h0) rfl (go tbl_ok false ?_)
  conv => whnf
  try (first | (refine drawI 13 rfl [0, 1, 2, 3, 4] (by kernel_rfl) (go tbl_ok false ?_); conv => whnf))
  refine callR (eqCluster x0 h0) rfl (go tbl_ok false ?_)
  conv => whnf
  try (first | (refine drawI 13 rfl [0, 1, 2, 3, 4] (by kernel_rfl) (go tbl_ok false ?_); conv => whnf))
  repeat (first | (refine ite_f (by first | with_reducible rfl | assumption) ?_; conv => whnf) | (refine ⟨fun h => absurd h (by first | (simp only [decide_eq_true_eq]; omega) | simp), fun _ => ?_⟩; conv => whnf) | (refine ite_t (by first | with_reducible rfl | assumption) ?_; conv => whnf))
  try (first | (refine drawI 13 rfl [0, 1, 2, 3, 4] (by kernel_rfl) (go tbl_ok false ?_); conv => whnf))
  refine callR (toIntS x1 h1) rfl (go tbl_ok false ?_)
  conv => whnf
  try (first | (refine drawI 13 rfl [0, 1, 2, 3, 4] (by kernel_rfl) (go tbl_ok false ?_); conv => whnf))
  refine callR (eqIntS x1 h1) rfl (go tbl_ok false ?_)
  conv => whnf
  try (first | (refine drawI 13 rfl [0, 1, 2, 3, 4] (by kernel_rfl) (go tbl_ok false ?_); conv => whnf))
  repeat (first | (refine ite_f (by first | with_reducible rfl | assumption) ?_; conv => whnf) | (refine ⟨fun h => absurd h (by first | (simp only [decide_eq_true_eq]; omega) | simp), fun _ => ?_⟩; conv => whnf) | (refine ite_t (by first | with_reducible rfl | assumption) ?_; conv => whnf))
  try (first | (refine drawI 13 rfl [0, 1, 2, 3, 4] (by kernel_rfl) (go tbl_ok false ?_); conv => whnf))
  refine callU (markCluster x0 (1) (by omega) (by omega) (by omega)) (by exact ⟨rfl, rfl, rfl, rfl, rfl, rfl, rfl, trivial⟩) (by exact ⟨trivial, trivial, trivial, trivial, trivial, trivial, trivial, trivial⟩) rfl rfl rfl (go tbl_ok false ?_)
  conv => whnf
  try (first | (refine drawI 13 rfl [0, 1, 2, 3, 4] (by kernel_rfl) (go tbl_ok false ?_); conv => whnf))
  refine callU (markIntS x1 (1 + ((x0).cntV : Nat)) (by omega) (by omega)) rfl trivial rfl rfl rfl (go tbl_ok false ?_)
  conv => whnf
  try (first | (refine drawI 13 rfl [0, 1, 2, 3, 4] (by kernel_rfl) (go tbl_ok false ?_); conv => whnf))
  repeat (first | (refine ite_f (by first | with_reducible rfl | assumption) ?_; conv => whnf) | (refine ⟨fun h => absurd h (by first | (simp only [decide_eq_true_eq]; omega) | simp), fun _ => ?_⟩; conv => whnf) | (refine ite_t (by first | with_reducible rfl | assumption) ?_; conv => whnf))
  try (first | (refine drawI 13 rfl [0, 1, 2, 3, 4] (by kernel_rfl) (go tbl_ok false ?_); conv => whnf))
  refine callR (eqPickS (pf (pN x0) x1) hb0) rfl (go tbl_ok false ?_)
  conv => whnf
  try (first | (refine drawI 13 rfl [0, 1, 2, 3, 4] (by kernel_rfl) (go tbl_ok false ?_); conv => whnf))
  repeat (first | (refine ite_f (by first | with_reducible rfl | assumption) ?_; conv => whnf) | (refine ⟨fun h => absurd h (by first | (simp only [decide_eq_true_eq]; omega) | simp), fun _ => ?_⟩; conv => whnf) | (refine ite_t (by first | with_reducible rfl | assumption) ?_; conv => whnf))
  try (first | (refine drawI 13 rfl [0, 1, 2, 3, 4] (by kernel_rfl) (go tbl_ok false ?_); conv => whnf))
  refine callU (markPickS (pf (pN x0) x1) (1) (by omega) (by omega)) rfl trivial rfl rfl rfl (go tbl_ok false ?_)
  conv => whnf
  try (first | (refine drawI 13 rfl [0, 1, 2, 3, 4] (by kernel_rfl) (go tbl_ok false ?_); conv => whnf))
  refine callR (heldPickS (pf (pN x0) x1) (1) (by omega) (by omega)) rfl (go tbl_ok false ?_)
  conv => whnf
  try (first | (refine drawI 13 rfl [0, 1, 2, 3, 4] (by kernel_rfl) (go tbl_ok false ?_); conv => whnf))
  repeat (first | (refine ite_f (by first | with_reducible rfl | assumption) ?_; conv => whnf) | (refine ⟨fun h => absurd h (by first | (simp only [decide_eq_true_eq]; omega) | simp), fun _ => ?_⟩; conv => whnf) | (refine ite_t (by first | with_reducible rfl | assumption) ?_; conv => whnf))
  try (first | (refine drawI 13 rfl [0, 1, 2, 3, 4] (by kernel_rfl) (go tbl_ok false ?_); conv => whnf))
  repeat (first | (refine ite_f (by first | with_reducible rfl | assumption) ?_; conv => whnf) | (refine ⟨fun h => absurd h (by first | (simp only [decide_eq_true_eq]; omega) | simp), fun _ => ?_⟩; conv => whnf) | (refine ite_t (by first | with_reducible rfl | assumption) ?_; conv => whnf))
  try (first | (refine drawI 13 rfl [0, 1, 2, 3, 4] (by kernel_rfl) (go tbl_ok false ?_); conv => whnf))
  try (first | (refine drawI 13 rfl [0, 1, 2, 3, 4] (by kernel_rfl) (go tbl_ok false ?_); conv => whnf))
  refine callR (toCluster x0 h0) rfl (go tbl_ok false ?_)
  conv => whnf
  try (first | (refine drawI 13 rfl [0, 1, 2, 3, 4] (by kernel_rfl) (go tbl_ok false ?_); conv => whnf))
  refine callR (toIntS x1 h1) rfl (go tbl_ok false ?_)
  conv => whnf
  try (first | (refine drawI 13 rfl [0, 1, 2, 3, 4] (by kernel_rfl) (go tbl_ok false ?_); conv => whnf))
  refine callR (implPicksFrom x0 x1 h1) rfl (go tbl_ok false ?_)
  conv => whnf
  try (first | (refine drawI 13 rfl [0, 1, 2, 3, 4] (by kernel_rfl) (go tbl_ok false ?_); conv => whnf))
  refine callR (eqPickS (pf (pN x0) x1) hb0) rfl (go tbl_ok false ?_)
  conv => whnf
  try (first | (refine drawI 13 rfl [0, 1, 2, 3, 4] (by kernel_rfl) (go tbl_ok false ?_); conv => whnf))
  repeat (first | (refine ite_f (by first | with_reducible rfl | assumption) ?_; conv => whnf) | (refine ⟨fun h => absurd h (by first | (simp only [decide_eq_true_eq]; omega) | simp), fun _ => ?_⟩; conv => whnf) | (refine ite_t (by first | with_reducible rfl | assumption) ?_; conv => whnf))
  try (first | (refine drawI 13 rfl [0, 1, 2, 3, 4] (by kernel_rfl) (go tbl_ok false ?_); conv => whnf))
  refine callR (heldPickS (pf (pN x0) x1) (1) (by omega) (by omega)) rfl (go tbl_ok false ?_)
  conv => whnf
  try (first | (refine drawI 13 rfl [0, 1, 2, 3, 4] (by kernel_rfl) (go tbl_ok false ?_); conv => whnf))
  repeat (first | (refine ite_f (by first | with_reducible rfl | assumption) ?_; conv => whnf) | (refine ⟨fun h => absurd h (by first | (simp only [decide_eq_true_eq]; omega) | simp), fun _ => ?_⟩; conv => whnf) | (refine ite_t (by first | with_reducible rfl | assumption) ?_; conv => whnf))
  try (first | (refine drawI 13 rfl [0, 1, 2, 3, 4] (by kernel_rfl) (go tbl_ok false ?_); conv => whnf))
  repeat (first | (refine ite_f (by first | with_reducible rfl | assumption) ?_; conv => whnf) | (refine ⟨fun h => absurd h (by first | (simp only [decide_eq_true_eq]; omega) | simp), fun _ => ?_⟩; conv => whnf) | (refine ite_t (by first | with_reducible rfl | assumption) ?_; conv => whnf))
  try (first | (refine drawI 13 rfl [0, 1, 2, 3, 4] (by kernel_rfl) (go tbl_ok false ?_); conv => whnf))
  exact retW tbl_ok rfl rfl ⟨rfl, trivial⟩

end Go.Proofs.Ythnemokfcnejkaa
