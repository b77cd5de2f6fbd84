/- Texts for the law FnSchedules: WSch. No conditions. -/
import Derived.Test.YtcpjpkcahnldfaaWDr2
import Derived.Test.YtcpjpkcahnldfaaWFair
import Derived.Test.YtcpjpkcahnldfaaWWo

set_option maxRecDepth 100000
namespace Go.Proofs.Ytcpjpkcahnldfaa
open Go.Sx
theorem lawBig (a : Option Addr) (n cp : Nat) : Meets Try.prog 4 [.one (.val (.slice a n cp))] [.one (vb (decide ((n : Int) > 1048576)))] := by
  refine enterW tbl_ok false Try.func4 rfl (by decide) fun W => ?_
  conv => whnf
  exact retW tbl_ok rfl rfl ⟨by rfl, trivial⟩
theorem samePicks (a b : List GPick) (ha : a.length ≤ 1048576) (hb : b.length ≤ 1048576) : Meets Try.prog 8 [.one (sGPick a), .one (sGPick b)] [.one (vb (decide (a = b)))] := by
  refine enterW tbl_ok false Try.func8 rfl (by decide) fun W => ?_
  conv => whnf
  refine ⟨fun hn => have hn := bne_iff_ne.1 hn; ?_, fun hn => have hn := bne_eq_false_iff_eq.1 hn; ?_⟩ <;> conv => whnf
  · exact retW tbl_ok rfl rfl ⟨congrArg vb (decide_eq_false fun e => hn (by rw [e])), trivial⟩
  refine loopW tbl_ok false [] (fun k : Nat => [(5, .c (vi k))]) (fun k => []) (fun k => [])
    (fun k => k ≤ a.length ∧ a.take k = b.take k) (fun k => a.length - k) 0 ⟨Nat.zero_le _, by first | rfl | assumption | simp⟩ ⟨by first | rfl | simp [nth, ren2, ren1, ren0], trivial⟩ trivial trivial trivial (by kernel_rfl) (fun k hk => ?_)
  obtain ⟨hk, he⟩ := hk
  conv => whnf
  refine ⟨fun h => have h := of_decide_eq_true h; ?_, fun h => have h := of_decide_eq_false h; ?_⟩ <;> conv => whnf
  · have h : k < a.length := by omega
    have hs := take_eq_succ a b k he h (by omega)
    (repeat (refine ⟨by first | omega | (simp only [ByteArray.size_append, bsz, List.size_toArray, List.length_cons, List.length_nil]; omega) | (show _ ∧ _; omega) | (simp only [Int.toNat_natCast]; first | omega | (show _ ∧ _; omega)) | decide, ?_⟩; conv => whnf))
    first | (refine drawI 6 rfl [0, 1, 2, 3, 4, 5, 6, 7, 8] (by kernel_rfl) (go tbl_ok false ?_); conv => whnf)
    (repeat (refine ⟨by first | omega | (simp only [ByteArray.size_append, bsz, List.size_toArray, List.length_cons, List.length_nil]; omega) | (show _ ∧ _; omega) | (simp only [Int.toNat_natCast]; first | omega | (show _ ∧ _; omega)) | decide, ?_⟩; conv => whnf))
    refine ⟨fun hc => ?_, fun hc => ?_⟩ <;> conv => whnf
    · have hc : (!decide (a.getD k default = b.getD k default)) = true := by rw [← GPick.eqv]; exact hc
      exact retW tbl_ok rfl rfl ⟨congrArg vb (decide_eq_false fun e => by subst e; simp at hc), trivial⟩
    · have hc : (!decide (a.getD k default = b.getD k default)) = false := by rw [← GPick.eqv]; exact hc
      (repeat (refine ⟨by first | omega | (simp only [ByteArray.size_append, bsz, List.size_toArray, List.length_cons, List.length_nil]; omega) | (show _ ∧ _; omega) | (simp only [Int.toNat_natCast]; first | omega | (show _ ∧ _; omega)) | decide, ?_⟩; conv => whnf))
      refine loopE [] (k + 1) ⟨by omega, hs.2 (by simpa using hc)⟩ (by omega) ⟨rfl, trivial⟩ trivial trivial (by kernel_rfl) trivial (by kernel_rfl)
  · exact retW tbl_ok rfl rfl ⟨congrArg vb (decide_eq_true (by rw [← take_all a k (by omega), he, take_all b k (by omega)])), trivial⟩

theorem allP_ge (n : Nat) : 4 ≤ (allP n).length := by simp only [allP, List.length_append, pE_len]; omega
theorem rr_length (n k : Nat) : (rr n k).length = (allP n).length * k := by
  induction k with
  | zero => rfl
  | succ k ih => rw [rr_succ, List.length_append, ih, Nat.mul_succ]
theorem rr_get (n : Nat) : ∀ (k j : Nat), j < (allP n).length * k → (rr n k)[j]? = (allP n)[j % (allP n).length]?
  | 0, j, h => by simp at h
  | k + 1, j, h => by
    rw [rr_succ]
    by_cases hj : j < (allP n).length * k
    · rw [List.getElem?_append_left (by rw [rr_length]; exact hj)]
      exact rr_get n k j hj
    · rw [List.getElem?_append_right (by rw [rr_length]; omega), rr_length]
      rw [Nat.mul_succ] at h
      have e : j = (allP n).length * k + (j - (allP n).length * k) := by omega
      have : j % (allP n).length = j - (allP n).length * k := by
        rw [e, Nat.mul_add_mod, Nat.mod_eq_of_lt (by omega)]
        omega
      rw [this]
theorem rr_window (n k i : Nat) (h : i + (allP n).length ≤ (allP n).length * k) : nameEach n (((rr n k).drop i).take (allP n).length) = true := by
  have h4 := allP_ge n
  refine List.all_eq_true.2 fun p hp => ?_
  obtain ⟨m, hm, rfl⟩ := List.getElem_of_mem hp
  refine List.any_eq_true.2 ⟨(allP n)[m], ?_, by simp⟩
  -- the place of p in the window
  let N := (allP n).length
  have hN : N = (allP n).length := rfl
  let q := (m + N - i % N) % N
  have hq : q < N := Nat.mod_lt _ (by omega)
  have hi : i % N < N := Nat.mod_lt _ (by omega)
  have hmod : (i + q) % N = m := by
    have e1 : (i + q) % N = (i % N + q) % N := by rw [Nat.mod_add_mod]
    rw [e1]
    show (i % N + (m + N - i % N) % N) % N = m
    rw [Nat.add_mod_mod, show i % N + (m + N - i % N) = m + N by omega, Nat.add_mod_right, Nat.mod_eq_of_lt hm]
  have hg : (rr n k)[i + q]? = some (allP n)[m] := by
    rw [rr_get n k (i + q) (by omega), ← hN, hmod]
    exact List.getElem?_eq_getElem hm
  refine List.mem_of_getElem? (i := q) ?_
  rw [List.getElem?_take, if_pos (by omega), List.getElem?_drop]
  exact hg
theorem rr_fair (n k : Nat) : isFair n (rr n k) ((allP n).length : Int) = true := by
  have h4 := allP_ge n
  rw [isFair, if_neg (by omega), Int.toNat_natCast]
  refine List.all_eq_true.2 fun i hi => rr_window n k i ?_
  have := List.mem_range.1 hi
  rw [rr_length] at this
  omega
theorem rr_one (n : Nat) : nameEach n (rr n 1) = true := by
  have h := rr_window n 1 0 (by omega)
  rwa [List.drop_zero, List.take_of_length_le (by rw [rr_length]; omega)] at h
theorem name_nil (n : Nat) : nameEach n [] = false := by
  have h4 := allP_ge n
  rw [nameEach, List.all_eq_false]
  exact ⟨(allP n)[0], List.getElem_mem _, by simp [hasP]⟩
theorem without_le (xs : List GPick) (w : Int) : (without xs w).length ≤ xs.length := List.length_filter_le _ _

end Go.Proofs.Ytcpjpkcahnldfaa
