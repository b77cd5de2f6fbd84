/- Texts for the law FnExactTurnsOf: L1. No conditions. -/
import Derived.Test.YtbmnagjpkhlncaaH1

set_option maxRecDepth 100000
namespace Go.Proofs.Ytbmnagjpkhlncaa
open Go.Sx
def more (a b : Int) : Int := if b > a then b else a
def turns (xs : List GRecord) : Int := xs.foldl (fun n r => more n r.stamp.turn) 0
theorem turns_step (xs : List GRecord) (k : Nat) (h : k < xs.length) : turns (xs.take (k + 1)) = more (turns (xs.take k)) (xs.getD k default).stamp.turn := by
  unfold turns
  rw [List.take_add_one, List.getElem?_eq_getElem h, List.foldl_append]
  simp [List.getD, h]
theorem l02More (a b : Int) : Meets Try.prog 47 [.one (vi a), .one (vi b)] [.one (vi (more a b))] := by
  refine enterW tbl_ok false Try.func47 rfl (by decide) fun W => ?_
  conv => whnf
  refine ⟨fun h => ?_, fun h => ?_⟩ <;> simp only [decide_eq_true_eq, decide_eq_false_iff_not] at h <;> conv => whnf
  · exact retW tbl_ok rfl rfl ⟨by conv => whnf
                                  rw [more, if_pos h], trivial⟩
  · exact retW tbl_ok rfl rfl ⟨by conv => whnf
                                  rw [more, if_neg h], trivial⟩
theorem specTurnsOf (xs : List GRecord) (hx : xs.length ≤ 1048576) : Meets Try.prog 16 [.one (sGRecord xs)] [.one (vi (turns xs))] := by
  refine enterW tbl_ok false Try.func16 rfl (by decide) fun W => ?_
  conv => whnf
  refine loopW tbl_ok false [] (fun k : Nat => [(3, .c (vi (turns (xs.take k)))), (4, .c (vi k))]) (fun _ => []) (fun _ => [])
    (fun k => k ≤ xs.length) (fun k => xs.length - k) 0 (Nat.zero_le _) ⟨rfl, rfl, trivial⟩ trivial trivial trivial (by kernel_rfl) (fun k hk => ?_)
  conv => whnf
  refine ⟨fun h => ?_, fun h => ?_⟩ <;> simp only [decide_eq_true_eq, decide_eq_false_iff_not] at h <;> conv => whnf
  · have h : k < xs.length := by omega
    refine ⟨by omega, ?_⟩
    conv => whnf
    refine callR (l02More _ _) rfl (go tbl_ok false ?_)
    conv => whnf
    refine ⟨by simp only [inR]; omega, ?_⟩
    conv => whnf
    refine loopE [] (k + 1) (by omega) (by omega) ⟨?_, rfl, trivial⟩ trivial trivial (by kernel_rfl) trivial (by kernel_rfl)
    conv => whnf
    rw [turns_step xs k h]
    rfl
  · exact retW tbl_ok rfl rfl ⟨by conv => whnf
                                  rw [List.take_of_length_le (by omega)], trivial⟩
theorem implTurnsOf (xs : List GRecord) (hx : xs.length ≤ 1048576) : Meets Try.prog 18 [.one (sGRecord xs)] [.one (vi (turns xs))] := by
  refine enterW tbl_ok false Try.func18 rfl (by decide) fun W => ?_
  conv => whnf
  refine loopW tbl_ok false [] (fun k : Nat => [(3, .c (vi (turns (xs.take k)))), (8, .c (vi k))]) (fun _ => []) (fun _ => [])
    (fun k => k ≤ xs.length) (fun k => xs.length - k) 0 (Nat.zero_le _) ⟨rfl, rfl, trivial⟩ trivial trivial trivial (by kernel_rfl) (fun k hk => ?_)
  conv => whnf
  refine ⟨fun h => ?_, fun h => ?_⟩ <;> simp only [decide_eq_true_eq, decide_eq_false_iff_not] at h <;> conv => whnf
  · have h : k < xs.length := by omega
    refine ⟨by omega, ?_⟩
    conv => whnf
    refine ⟨by simp only [inR]; omega, ?_⟩
    conv => whnf
    refine loopE [] (k + 1) (by omega) (by omega) ⟨?_, rfl, trivial⟩ trivial trivial (by kernel_rfl) trivial (by kernel_rfl)
    conv => whnf
    rw [turns_step xs k h]
    refine congrArg (fun n => AV.c (vi n)) ?_
    simp only [Int.toNat_natCast, more]
  · exact retW tbl_ok rfl rfl ⟨by conv => whnf
                                  rw [List.take_of_length_le (by omega)], trivial⟩

theorem law (xs : List GRecord) (ho : xs.length ≤ maxLen) : Meets Try.prog 4 [.one (sGRecord xs)] [.one (vb true)] := by
  refine enterW tbl_ok false Try.func4 rfl (by decide) fun W => ?_
  conv => whnf
  refine callR (szRecordS xs 1048576 ho (by omega) (by omega)) rfl (go tbl_ok false ?_)
  conv => whnf
  refine ⟨fun h => ?_, fun h => ?_⟩ <;> simp only [decide_eq_true_eq, decide_eq_false_iff_not] at h <;> conv => whnf
  · exact retW tbl_ok rfl rfl ⟨rfl, trivial⟩
  have hx : xs.length ≤ 1048576 := by have := szR_ge h; omega
  refine callR (toRecordS xs hx) rfl (go tbl_ok false ?_)
  conv => whnf
  refine callR (specTurnsOf xs hx) rfl (go tbl_ok false ?_)
  conv => whnf
  refine callR (toRecordS xs hx) rfl (go tbl_ok false ?_)
  conv => whnf
  refine callR (implTurnsOf xs hx) rfl (go tbl_ok false ?_)
  conv => whnf
  refine ⟨fun h => ?_, fun _ => ?_⟩ <;> conv => whnf
  · simp at h
  refine callR (toRecordS xs hx) rfl (go tbl_ok false ?_)
  conv => whnf
  refine callR (eqRecordS xs hx) rfl (go tbl_ok false ?_)
  conv => whnf
  refine ⟨fun h => ?_, fun _ => ?_⟩ <;> conv => whnf
  · simp at h
  exact retW tbl_ok rfl rfl ⟨rfl, trivial⟩
end Go.Proofs.Ytbmnagjpkhlncaa
