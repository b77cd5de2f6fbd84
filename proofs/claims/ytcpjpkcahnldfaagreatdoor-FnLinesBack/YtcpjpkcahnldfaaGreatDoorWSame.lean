/- Texts for the law FnLinesBack: WSame. No conditions. -/
import Derived.Test.YtcpjpkcahnldfaaGreatDoorEng4
import Derived.Test.YtcpjpkcahnldfaaGreatDoorH2

set_option maxRecDepth 100000
namespace Go.Proofs.YtcpjpkcahnldfaaGreatDoor
open Go.Sx
theorem lawBig (a : Option Addr) (n cp : Nat) : Meets Tryz.prog 10 [.one (.val (.slice a n cp))] [.one (vb (decide ((n : Int) > 1048576)))] := by
  refine enterW tbl_ok false Tryz.func10 rfl (by decide) fun W => ?_
  conv => whnf
  exact retW tbl_ok rfl rfl ⟨by rfl, trivial⟩
theorem sameInts (a b : List Int) (ha : a.length ≤ 1048576) (hb : b.length ≤ 1048576) : Meets Tryz.prog 73 [.one (sInt a), .one (sInt b)] [.one (vb (decide (a = b)))] := by
  refine enterW tbl_ok false Tryz.func73 rfl (by decide) fun W => ?_
  conv => whnf
  refine ⟨fun hn => have hn := bne_iff_ne.1 hn; ?_, fun hn => have hn := bne_eq_false_iff_eq.1 hn; ?_⟩ <;> conv => whnf
  · exact retW tbl_ok rfl rfl ⟨congrArg vb (decide_eq_false fun e => hn (by rw [e])), trivial⟩
  refine loopW tbl_ok false [] (fun k : Nat => [(5, .c (vi k))]) (fun k => []) (fun k => [])
    (fun k => k ≤ a.length ∧ a.take k = b.take k) (fun k => a.length - k) 0 ⟨Nat.zero_le _, by first | rfl | assumption | simp⟩ ⟨by first | rfl | simp [nth, ren2, ren1, ren0], trivial⟩ trivial trivial trivial (by kernel_rfl) (fun k hk => ?_)
  obtain ⟨hk, he⟩ := hk
  conv => whnf
  refine ⟨fun h => have h := of_decide_eq_true h; ?_, fun h => have h := of_decide_eq_false h; ?_⟩ <;> conv => whnf
  · have h : k < a.length := by omega
    have hs := take_eq_succ a b k he h (by omega)
    (repeat (refine ⟨by first | omega | (show _ ∧ _; omega) | ((repeat (first | rw [ByteArray.size_append] | rw [bsz] | rw [List.size_toArray] | rw [List.length_cons] | rw [List.length_nil])) <;> omega) | ((repeat rw [Int.toNat_natCast]) <;> first | omega | (show _ ∧ _; omega)) | (simp only [ByteArray.size_append, bsz, List.size_toArray, List.length_cons, List.length_nil]; omega) | (simp only [Int.toNat_natCast]; first | omega | (show _ ∧ _; omega)) | decide, ?_⟩; conv => whnf))
    first | (refine drawI 6 rfl [0, 1, 2, 3, 4, 5, 6, 7, 8] (by kernel_rfl) (go tbl_ok false ?_); conv => whnf)
    (repeat (refine ⟨by first | omega | (show _ ∧ _; omega) | ((repeat (first | rw [ByteArray.size_append] | rw [bsz] | rw [List.size_toArray] | rw [List.length_cons] | rw [List.length_nil])) <;> omega) | ((repeat rw [Int.toNat_natCast]) <;> first | omega | (show _ ∧ _; omega)) | (simp only [ByteArray.size_append, bsz, List.size_toArray, List.length_cons, List.length_nil]; omega) | (simp only [Int.toNat_natCast]; first | omega | (show _ ∧ _; omega)) | decide, ?_⟩; conv => whnf))
    refine ⟨fun hc => ?_, fun hc => ?_⟩ <;> conv => whnf
    · have hc : (!decide (a.getD k default = b.getD k default)) = true := by rw [← int_eqv]; exact hc
      exact retW tbl_ok rfl rfl ⟨congrArg vb (decide_eq_false fun e => by subst e; simp at hc), trivial⟩
    · have hc : (!decide (a.getD k default = b.getD k default)) = false := by rw [← int_eqv]; exact hc
      (repeat (refine ⟨by first | omega | (show _ ∧ _; omega) | ((repeat (first | rw [ByteArray.size_append] | rw [bsz] | rw [List.size_toArray] | rw [List.length_cons] | rw [List.length_nil])) <;> omega) | ((repeat rw [Int.toNat_natCast]) <;> first | omega | (show _ ∧ _; omega)) | (simp only [ByteArray.size_append, bsz, List.size_toArray, List.length_cons, List.length_nil]; omega) | (simp only [Int.toNat_natCast]; first | omega | (show _ ∧ _; omega)) | decide, ?_⟩; conv => whnf))
      refine loopE [] (k + 1) ⟨by omega, hs.2 (by simpa using hc)⟩ (by omega) ⟨rfl, trivial⟩ trivial trivial (by kernel_rfl) trivial (by kernel_rfl)
  · exact retW tbl_ok rfl rfl ⟨congrArg vb (decide_eq_true (by rw [← take_all a k (by omega), he, take_all b k (by omega)])), trivial⟩

theorem sameNode (a b : GNode) (ha : a.outs.length ≤ 1048576) (hb : b.outs.length ≤ 1048576) : Meets Tryz.prog 28 [.agg a.c, .agg b.c] [.one (vb (decide (a = b)))] := by
  obtain ⟨k, x, y, l⟩ := a
  obtain ⟨k2, x2, y2, l2⟩ := b
  refine enterW tbl_ok false Tryz.func28 rfl (by decide) fun W => ?_
  conv => whnf
  repeat' (first | (refine ite_f (by first | with_reducible rfl | assumption) ?_; conv => whnf) | (refine ite_t (by first | with_reducible rfl | assumption) ?_; conv => whnf) | (refine ⟨fun h => ?_, fun h => ?_⟩ <;> conv => whnf) | (refine callR (sameInts l l2 ha hb) rfl (go tbl_ok false ?_); conv => whnf) | (refine ⟨by first | omega | (show _ ∧ _; omega) | ((repeat (first | rw [ByteArray.size_append] | rw [bsz] | rw [List.size_toArray] | rw [List.length_cons] | rw [List.length_nil])) <;> omega) | ((repeat rw [Int.toNat_natCast]) <;> first | omega | (show _ ∧ _; omega)) | (simp only [ByteArray.size_append, bsz, List.size_toArray, List.length_cons, List.length_nil]; omega) | (simp only [Int.toNat_natCast]; first | omega | (show _ ∧ _; omega)) | decide | (simp only [beq_iff_eq, beq_eq_false_iff_ne, bne_iff_ne, bne_eq_false_iff_eq, Bool.not_eq_true', Bool.not_eq_false', Go.Sx.within_iff, Go.Sx.within_f, decide_eq_true_eq, decide_eq_false_iff_not, ne_eq, Int.not_lt, Int.not_le, ge_iff_le, gt_iff_lt, Int.toNat_zero, Int.toNat_one, Int.toNat_natCast] at * <;> first | omega | (show _ ∧ _; omega)), ?_⟩; conv => whnf) | fail)
  all_goals (refine retW tbl_ok rfl rfl ⟨congrArg vb ?_, trivial⟩; simp_all [GNode.mk.injEq])

end Go.Proofs.YtcpjpkcahnldfaaGreatDoor
