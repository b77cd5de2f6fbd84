/- Texts for the law FnExactWithCap: LWithCap. No conditions. -/
import Derived.Test.YtbmnagjpkhlncaaW2

set_option maxRecDepth 100000
namespace Go.Proofs.Ytbmnagjpkhlncaa
open Go.Sx
theorem law (x0 : GGraph) (x1 : Int) (o0 : x0.ok) (_o1 : inR .i64 x1) : Meets Try.prog 7 [.agg x0.c, .one (vi x1)] [.one (vb true)] := by
  refine enterW tbl_ok false Try.func7 rfl (by decide) fun W => ?_
  conv => whnf
  try (refine drawO rfl (by kernel_rfl) (go tbl_ok false ?_); conv => whnf)
  refine callR (szGraph x0 (1048576) o0 (by omega) (by omega)) rfl (go tbl_ok false ?_)
  conv => whnf
  try (refine drawO rfl (by kernel_rfl) (go tbl_ok false ?_); conv => whnf)
  refine ⟨fun h => ?_, fun h => ?_⟩ <;> simp only [decide_eq_true_eq, decide_eq_false_iff_not] at h <;> conv => whnf
  · exact retW tbl_ok rfl rfl ⟨rfl, trivial⟩
  have g0 := szR_ge h
  rw [szR_pos g0]
  have h0 : x0.w ≤ 1048576 := by omega
  have hm0 := GGraph.cntV_le x0
  have hb0 : GGraph.w { x0 with cap := x1 } ≤ 1048576 := h0
  have hc0 : GGraph.cntV { x0 with cap := x1 } = x0.cntV := rfl
  have hr0 := GGraph.cntV_le (({ x0 with cap := x1 } : GGraph))
  refine callR (toGraph x0 h0) rfl (go tbl_ok false ?_)
  conv => whnf
  try (refine drawO rfl (by kernel_rfl) (go tbl_ok false ?_); conv => whnf)
  refine callR (specWithCap x0 x1 h0) rfl (go tbl_ok false ?_)
  conv => whnf
  try (refine drawO rfl (by kernel_rfl) (go tbl_ok false ?_); conv => whnf)
  refine callW (toGraph x0 h0) rfl (go tbl_ok false ?_)
  conv => whnf
  try (refine drawO rfl (by kernel_rfl) (go tbl_ok false ?_); conv => whnf)
  refine callW (implWithCap x0 x1 h0) rfl (go tbl_ok false ?_)
  conv => whnf
  try (refine drawO rfl (by kernel_rfl) (go tbl_ok false ?_); conv => whnf)
  refine callR (eqGraph (({ x0 with cap := x1 } : GGraph)) hb0) rfl (go tbl_ok false ?_)
  conv => whnf
  try (refine drawO rfl (by kernel_rfl) (go tbl_ok false ?_); conv => whnf)
  repeat (first | (refine ⟨fun h => nomatch (Eq.trans (Eq.symm h) (by first | with_reducible rfl | assumption) : true = false), fun _ => ?_⟩; conv => whnf) | (refine ⟨fun h => absurd h (by first | (simp only [decide_eq_true_eq]; omega) | simp), fun _ => ?_⟩; conv => whnf) | (refine ⟨fun _ => ?_, fun h => nomatch (Eq.trans (Eq.symm h) (by first | with_reducible rfl | assumption) : false = true)⟩; conv => whnf))
  try (refine drawO rfl (by kernel_rfl) (go tbl_ok false ?_); conv => whnf)
  refine callR (toGraph x0 h0) rfl (go tbl_ok false ?_)
  conv => whnf
  try (refine drawO rfl (by kernel_rfl) (go tbl_ok false ?_); conv => whnf)
  refine callR (eqGraph x0 h0) rfl (go tbl_ok false ?_)
  conv => whnf
  try (refine drawO rfl (by kernel_rfl) (go tbl_ok false ?_); conv => whnf)
  repeat (first | (refine ⟨fun h => nomatch (Eq.trans (Eq.symm h) (by first | with_reducible rfl | assumption) : true = false), fun _ => ?_⟩; conv => whnf) | (refine ⟨fun h => absurd h (by first | (simp only [decide_eq_true_eq]; omega) | simp), fun _ => ?_⟩; conv => whnf) | (refine ⟨fun _ => ?_, fun h => nomatch (Eq.trans (Eq.symm h) (by first | with_reducible rfl | assumption) : false = true)⟩; conv => whnf))
  try (refine drawO rfl (by kernel_rfl) (go tbl_ok false ?_); conv => whnf)
  refine callU (markGraph x0 (1) (by omega) (by omega)) (by exact ⟨rfl, rfl, rfl, trivial⟩) (by exact ⟨trivial, trivial, trivial, trivial⟩) rfl rfl rfl (go tbl_ok false ?_)
  conv => whnf
  try (refine drawO rfl (by kernel_rfl) (go tbl_ok false ?_); conv => whnf)
  repeat (first | (refine ⟨fun h => nomatch (Eq.trans (Eq.symm h) (by first | with_reducible rfl | assumption) : true = false), fun _ => ?_⟩; conv => whnf) | (refine ⟨fun h => absurd h (by first | (simp only [decide_eq_true_eq]; omega) | simp), fun _ => ?_⟩; conv => whnf) | (refine ⟨fun _ => ?_, fun h => nomatch (Eq.trans (Eq.symm h) (by first | with_reducible rfl | assumption) : false = true)⟩; conv => whnf))
  try (refine drawO rfl (by kernel_rfl) (go tbl_ok false ?_); conv => whnf)
  refine callR (eqGraph (({ x0 with cap := x1 } : GGraph)) hb0) rfl (go tbl_ok false ?_)
  conv => whnf
  try (refine drawO rfl (by kernel_rfl) (go tbl_ok false ?_); conv => whnf)
  repeat (first | (refine ⟨fun h => nomatch (Eq.trans (Eq.symm h) (by first | with_reducible rfl | assumption) : true = false), fun _ => ?_⟩; conv => whnf) | (refine ⟨fun h => absurd h (by first | (simp only [decide_eq_true_eq]; omega) | simp), fun _ => ?_⟩; conv => whnf) | (refine ⟨fun _ => ?_, fun h => nomatch (Eq.trans (Eq.symm h) (by first | with_reducible rfl | assumption) : false = true)⟩; conv => whnf))
  try (refine drawO rfl (by kernel_rfl) (go tbl_ok false ?_); conv => whnf)
  refine callU (markGraph (({ x0 with cap := x1 } : GGraph)) (1) (by omega) (by omega)) (by exact ⟨rfl, rfl, rfl, trivial⟩) (by exact ⟨trivial, trivial, trivial, trivial⟩) rfl rfl rfl (go tbl_ok false ?_)
  conv => whnf
  try (refine drawO rfl (by kernel_rfl) (go tbl_ok false ?_); conv => whnf)
  refine callR (heldGraph (({ x0 with cap := x1 } : GGraph)) (1) (by omega) (by omega)) rfl (go tbl_ok false ?_)
  conv => whnf
  try (refine drawO rfl (by kernel_rfl) (go tbl_ok false ?_); conv => whnf)
  repeat (first | (refine ⟨fun h => nomatch (Eq.trans (Eq.symm h) (by first | with_reducible rfl | assumption) : true = false), fun _ => ?_⟩; conv => whnf) | (refine ⟨fun h => absurd h (by first | (simp only [decide_eq_true_eq]; omega) | simp), fun _ => ?_⟩; conv => whnf) | (refine ⟨fun _ => ?_, fun h => nomatch (Eq.trans (Eq.symm h) (by first | with_reducible rfl | assumption) : false = true)⟩; conv => whnf))
  try (refine drawO rfl (by kernel_rfl) (go tbl_ok false ?_); conv => whnf)
  repeat (first | (refine ⟨fun h => nomatch (Eq.trans (Eq.symm h) (by first | with_reducible rfl | assumption) : true = false), fun _ => ?_⟩; conv => whnf) | (refine ⟨fun h => absurd h (by first | (simp only [decide_eq_true_eq]; omega) | simp), fun _ => ?_⟩; conv => whnf) | (refine ⟨fun _ => ?_, fun h => nomatch (Eq.trans (Eq.symm h) (by first | with_reducible rfl | assumption) : false = true)⟩; conv => whnf))
  try (refine drawO rfl (by kernel_rfl) (go tbl_ok false ?_); conv => whnf)
  refine callR (toGraph x0 h0) rfl (go tbl_ok false ?_)
  conv => whnf
  try (refine drawO rfl (by kernel_rfl) (go tbl_ok false ?_); conv => whnf)
  refine callR (implWithCap x0 x1 h0) rfl (go tbl_ok false ?_)
  conv => whnf
  try (refine drawO rfl (by kernel_rfl) (go tbl_ok false ?_); conv => whnf)
  refine callR (eqGraph (({ x0 with cap := x1 } : GGraph)) hb0) rfl (go tbl_ok false ?_)
  conv => whnf
  try (refine drawO rfl (by kernel_rfl) (go tbl_ok false ?_); conv => whnf)
  repeat (first | (refine ⟨fun h => nomatch (Eq.trans (Eq.symm h) (by first | with_reducible rfl | assumption) : true = false), fun _ => ?_⟩; conv => whnf) | (refine ⟨fun h => absurd h (by first | (simp only [decide_eq_true_eq]; omega) | simp), fun _ => ?_⟩; conv => whnf) | (refine ⟨fun _ => ?_, fun h => nomatch (Eq.trans (Eq.symm h) (by first | with_reducible rfl | assumption) : false = true)⟩; conv => whnf))
  try (refine drawO rfl (by kernel_rfl) (go tbl_ok false ?_); conv => whnf)
  refine callR (heldGraph (({ x0 with cap := x1 } : GGraph)) (1) (by omega) (by omega)) rfl (go tbl_ok false ?_)
  conv => whnf
  try (refine drawO rfl (by kernel_rfl) (go tbl_ok false ?_); conv => whnf)
  repeat (first | (refine ⟨fun h => nomatch (Eq.trans (Eq.symm h) (by first | with_reducible rfl | assumption) : true = false), fun _ => ?_⟩; conv => whnf) | (refine ⟨fun h => absurd h (by first | (simp only [decide_eq_true_eq]; omega) | simp), fun _ => ?_⟩; conv => whnf) | (refine ⟨fun _ => ?_, fun h => nomatch (Eq.trans (Eq.symm h) (by first | with_reducible rfl | assumption) : false = true)⟩; conv => whnf))
  try (refine drawO rfl (by kernel_rfl) (go tbl_ok false ?_); conv => whnf)
  repeat (first | (refine ⟨fun h => nomatch (Eq.trans (Eq.symm h) (by first | with_reducible rfl | assumption) : true = false), fun _ => ?_⟩; conv => whnf) | (refine ⟨fun h => absurd h (by first | (simp only [decide_eq_true_eq]; omega) | simp), fun _ => ?_⟩; conv => whnf) | (refine ⟨fun _ => ?_, fun h => nomatch (Eq.trans (Eq.symm h) (by first | with_reducible rfl | assumption) : false = true)⟩; conv => whnf))
  try (refine drawO rfl (by kernel_rfl) (go tbl_ok false ?_); conv => whnf)
  exact retW tbl_ok rfl rfl ⟨rfl, trivial⟩

end Go.Proofs.Ytbmnagjpkhlncaa
