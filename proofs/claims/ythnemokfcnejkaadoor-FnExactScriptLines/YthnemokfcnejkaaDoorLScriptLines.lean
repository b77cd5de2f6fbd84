/- Texts for the law FnExactScriptLines: LScriptLines. No conditions. -/
import Derived.Test.YthnemokfcnejkaaDoorWScript
import Derived.Test.YthnemokfcnejkaaDoorWStr

set_option maxRecDepth 100000
namespace Go.Proofs.YthnemokfcnejkaaDoor
open Go.Sx
theorem law (x0 : GScript) (o0 : x0.ok) : MeetsT Tryd.prog Tab 3 [.agg x0.c] [.one (vb true)] := by
  refine enterT tbl_ok false Tryd.func3 rfl (by decide) fun W hW => ?_
  conv => whnf
  try (first | (refine drawI 10 rfl [0, 1, 2, 3, 4] (by kernel_rfl) (go tbl_ok false ?_); conv => whnf))
  refine callR (szScript x0 (1048576) o0 (by omega) (by omega)) rfl (go tbl_ok false ?_)
  conv => whnf
  try (first | (refine drawI 10 rfl [0, 1, 2, 3, 4] (by kernel_rfl) (go tbl_ok false ?_); conv => whnf))
  refine ⟨fun h => ?_, fun h => ?_⟩ <;> simp only [decide_eq_true_eq, decide_eq_false_iff_not] at h <;> conv => whnf
  · exact retW tbl_ok rfl rfl ⟨rfl, trivial⟩
  have g0 := szR_ge h
  rw [szR_pos g0]
  have h0 : x0.w ≤ 1048576 := by omega
  have hm0 := GScript.cntV_le x0
  have hb0 := scriptLines_len x0 h0
  have hr0 := sSum_le (scriptLines x0)
  try (first | (refine drawI 10 rfl [0, 1, 2, 3, 4] (by kernel_rfl) (go tbl_ok false ?_); conv => whnf))
  refine callR (toScript x0 h0) rfl (go tbl_ok false ?_)
  conv => whnf
  try (first | (refine drawI 10 rfl [0, 1, 2, 3, 4] (by kernel_rfl) (go tbl_ok false ?_); conv => whnf))
  refine callR (specScriptLines x0 o0 h0) rfl (go tbl_ok false ?_)
  conv => whnf
  try (first | (refine drawI 10 rfl [0, 1, 2, 3, 4] (by kernel_rfl) (go tbl_ok false ?_); conv => whnf))
  refine callW (toScript x0 h0) rfl (go tbl_ok false ?_)
  conv => whnf
  try (first | (refine drawI 10 rfl [0, 1, 2, 3, 4] (by kernel_rfl) (go tbl_ok false ?_); conv => whnf))
  try (first | (refine drawI 10 rfl [0, 1, 2, 3, 4] (by kernel_rfl) (go tbl_ok false ?_); conv => whnf))
  refine callWT (implScriptLines x0 o0 h0) tabStays hW rfl (go tbl_ok false ?_)
  conv => whnf
  try (first | (refine drawI 10 rfl [0, 1, 2, 3, 4] (by kernel_rfl) (go tbl_ok false ?_); conv => whnf))
  refine callR (eqStringSB (scriptLines x0) (Nat.le_trans hb0 (by decide))) rfl (go tbl_ok false ?_)
  conv => whnf
  try (first | (refine drawI 10 rfl [0, 1, 2, 3, 4] (by kernel_rfl) (go tbl_ok false ?_); conv => whnf))
  repeat (first | (refine ite_f (by first | with_reducible rfl | assumption) ?_; conv => whnf) | (refine ⟨fun h => absurd h (by first | (simp only [decide_eq_true_eq]; omega) | simp [ba_self]), fun _ => ?_⟩; conv => whnf) | (refine ite_t (by first | with_reducible rfl | assumption) ?_; conv => whnf))
  try (first | (refine drawI 10 rfl [0, 1, 2, 3, 4] (by kernel_rfl) (go tbl_ok false ?_); conv => whnf))
  refine callR (toScript x0 h0) rfl (go tbl_ok false ?_)
  conv => whnf
  try (first | (refine drawI 10 rfl [0, 1, 2, 3, 4] (by kernel_rfl) (go tbl_ok false ?_); conv => whnf))
  refine callR (eqScript x0 h0) rfl (go tbl_ok false ?_)
  conv => whnf
  try (first | (refine drawI 10 rfl [0, 1, 2, 3, 4] (by kernel_rfl) (go tbl_ok false ?_); conv => whnf))
  repeat (first | (refine ite_f (by first | with_reducible rfl | assumption) ?_; conv => whnf) | (refine ⟨fun h => absurd h (by first | (simp only [decide_eq_true_eq]; omega) | simp [ba_self]), fun _ => ?_⟩; conv => whnf) | (refine ite_t (by first | with_reducible rfl | assumption) ?_; conv => whnf))
  try (first | (refine drawI 10 rfl [0, 1, 2, 3, 4] (by kernel_rfl) (go tbl_ok false ?_); conv => whnf))
  refine callU (markScript x0 (1) (by omega) (by omega)) (by exact ⟨rfl, rfl, rfl, rfl, rfl, rfl, trivial⟩) (by exact ⟨trivial, trivial, trivial, trivial, trivial, trivial, trivial⟩) rfl rfl rfl (go tbl_ok false ?_)
  conv => whnf
  try (first | (refine drawI 10 rfl [0, 1, 2, 3, 4] (by kernel_rfl) (go tbl_ok false ?_); conv => whnf))
  repeat (first | (refine ite_f (by first | with_reducible rfl | assumption) ?_; conv => whnf) | (refine ⟨fun h => absurd h (by first | (simp only [decide_eq_true_eq]; omega) | simp [ba_self]), fun _ => ?_⟩; conv => whnf) | (refine ite_t (by first | with_reducible rfl | assumption) ?_; conv => whnf))
  try (first | (refine drawI 10 rfl [0, 1, 2, 3, 4] (by kernel_rfl) (go tbl_ok false ?_); conv => whnf))
  refine callR (eqStringSB (scriptLines x0) (Nat.le_trans hb0 (by decide))) rfl (go tbl_ok false ?_)
  conv => whnf
  try (first | (refine drawI 10 rfl [0, 1, 2, 3, 4] (by kernel_rfl) (go tbl_ok false ?_); conv => whnf))
  repeat (first | (refine ite_f (by first | with_reducible rfl | assumption) ?_; conv => whnf) | (refine ⟨fun h => absurd h (by first | (simp only [decide_eq_true_eq]; omega) | simp [ba_self]), fun _ => ?_⟩; conv => whnf) | (refine ite_t (by first | with_reducible rfl | assumption) ?_; conv => whnf))
  try (first | (refine drawI 10 rfl [0, 1, 2, 3, 4] (by kernel_rfl) (go tbl_ok false ?_); conv => whnf))
  refine callU (markStringS (scriptLines x0) (1) (by omega) (by omega)) rfl trivial rfl rfl rfl (go tbl_ok false ?_)
  conv => whnf
  try (first | (refine drawI 10 rfl [0, 1, 2, 3, 4] (by kernel_rfl) (go tbl_ok false ?_); conv => whnf))
  refine callR (heldStringS (scriptLines x0) (1) (by omega) (by omega)) rfl (go tbl_ok false ?_)
  conv => whnf
  try (first | (refine drawI 10 rfl [0, 1, 2, 3, 4] (by kernel_rfl) (go tbl_ok false ?_); conv => whnf))
  repeat (first | (refine ite_f (by first | with_reducible rfl | assumption) ?_; conv => whnf) | (refine ⟨fun h => absurd h (by first | (simp only [decide_eq_true_eq]; omega) | simp [ba_self]), fun _ => ?_⟩; conv => whnf) | (refine ite_t (by first | with_reducible rfl | assumption) ?_; conv => whnf))
  try (first | (refine drawI 10 rfl [0, 1, 2, 3, 4] (by kernel_rfl) (go tbl_ok false ?_); conv => whnf))
  repeat (first | (refine ite_f (by first | with_reducible rfl | assumption) ?_; conv => whnf) | (refine ⟨fun h => absurd h (by first | (simp only [decide_eq_true_eq]; omega) | simp [ba_self]), fun _ => ?_⟩; conv => whnf) | (refine ite_t (by first | with_reducible rfl | assumption) ?_; conv => whnf))
  try (first | (refine drawI 10 rfl [0, 1, 2, 3, 4] (by kernel_rfl) (go tbl_ok false ?_); conv => whnf))
  try (first | (refine drawI 10 rfl [0, 1, 2, 3, 4] (by kernel_rfl) (go tbl_ok false ?_); conv => whnf))
  refine callR (toScript x0 h0) rfl (go tbl_ok false ?_)
  conv => whnf
  try (first | (refine drawI 10 rfl [0, 1, 2, 3, 4] (by kernel_rfl) (go tbl_ok false ?_); conv => whnf))
  refine callRT (implScriptLines x0 o0 h0) tabStays hW rfl (go tbl_ok false ?_)
  conv => whnf
  try (first | (refine drawI 10 rfl [0, 1, 2, 3, 4] (by kernel_rfl) (go tbl_ok false ?_); conv => whnf))
  refine callR (eqStringSB (scriptLines x0) (Nat.le_trans hb0 (by decide))) rfl (go tbl_ok false ?_)
  conv => whnf
  try (first | (refine drawI 10 rfl [0, 1, 2, 3, 4] (by kernel_rfl) (go tbl_ok false ?_); conv => whnf))
  repeat (first | (refine ite_f (by first | with_reducible rfl | assumption) ?_; conv => whnf) | (refine ⟨fun h => absurd h (by first | (simp only [decide_eq_true_eq]; omega) | simp [ba_self]), fun _ => ?_⟩; conv => whnf) | (refine ite_t (by first | with_reducible rfl | assumption) ?_; conv => whnf))
  try (first | (refine drawI 10 rfl [0, 1, 2, 3, 4] (by kernel_rfl) (go tbl_ok false ?_); conv => whnf))
  refine callR (heldStringS (scriptLines x0) (1) (by omega) (by omega)) rfl (go tbl_ok false ?_)
  conv => whnf
  try (first | (refine drawI 10 rfl [0, 1, 2, 3, 4] (by kernel_rfl) (go tbl_ok false ?_); conv => whnf))
  repeat (first | (refine ite_f (by first | with_reducible rfl | assumption) ?_; conv => whnf) | (refine ⟨fun h => absurd h (by first | (simp only [decide_eq_true_eq]; omega) | simp [ba_self]), fun _ => ?_⟩; conv => whnf) | (refine ite_t (by first | with_reducible rfl | assumption) ?_; conv => whnf))
  try (first | (refine drawI 10 rfl [0, 1, 2, 3, 4] (by kernel_rfl) (go tbl_ok false ?_); conv => whnf))
  repeat (first | (refine ite_f (by first | with_reducible rfl | assumption) ?_; conv => whnf) | (refine ⟨fun h => absurd h (by first | (simp only [decide_eq_true_eq]; omega) | simp [ba_self]), fun _ => ?_⟩; conv => whnf) | (refine ite_t (by first | with_reducible rfl | assumption) ?_; conv => whnf))
  try (first | (refine drawI 10 rfl [0, 1, 2, 3, 4] (by kernel_rfl) (go tbl_ok false ?_); conv => whnf))
  exact retW tbl_ok rfl rfl ⟨rfl, trivial⟩

end Go.Proofs.YthnemokfcnejkaaDoor
