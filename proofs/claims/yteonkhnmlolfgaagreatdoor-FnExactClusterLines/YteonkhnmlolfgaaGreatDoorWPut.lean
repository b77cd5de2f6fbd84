/- Texts for the law FnExactClusterLines: WPut. No conditions. -/
import Derived.Test.YteonkhnmlolfgaaGreatDoorWIns
import Derived.Test.YteonkhnmlolfgaaGreatDoorWMem
import Derived.Test.YteonkhnmlolfgaaGreatDoorWCopies

set_option maxRecDepth 100000
namespace Go.Proofs.YteonkhnmlolfgaaGreatDoor
open Go.Sx
set_option maxHeartbeats 1000000 in
theorem implPutCell (l : List GCell) (x : GCell) (hl : l.length ≤ 16000000) : Meets Tryz.prog 90 [.one (sGCell l), .agg x.c] [.one (sGCell (putCell l x))] := by
  refine enterW tbl_ok false Tryz.func90 rfl (by decide) fun W => ?_
  conv => whnf
  refine callW (implCopyCells l (by omega)) rfl (go tbl_ok false ?_)
  conv => whnf
  refine callR (implHasCell l x (by omega)) rfl (go tbl_ok false ?_)
  conv => whnf
  refine ⟨fun hc => ?_, fun hc => ?_⟩ <;> conv => whnf
  · refine retW tbl_ok rfl rfl ⟨?_, trivial⟩
    rw [putCell, if_pos hc]
    rfl
  · refine loopW tbl_ok false [] (fun k : Nat => [(6, .c (vi k))]) (fun k => [⟨0, [.c (vi x.op), .c (vi x.epoch), .c (vi x.key), .c (vi x.val)]⟩]) (fun k => [⟨1, sGCell l⟩])
      (fun k => k ≤ l.length ∧ ∀ i, i < k → ltX x (l.getD i default) = false) (fun k => l.length - k) 0 ⟨Nat.zero_le _, by first | rfl | assumption | simp⟩ ⟨by first | rfl | simp [nth, ren2, ren1, ren0], trivial⟩ (by repeat' (first | exact trivial | exact rfl | refine ⟨?_, ?_⟩)) ⟨by first | rfl | exact (congrArg (fun l => slC _ _ l) (List.append_nil _)).symm | (show (_ : Cell) = _; simp) | simp, trivial⟩ (by first | exact trivial | exact ⟨rfl, trivial⟩ | repeat' (first | exact trivial | exact rfl | refine ⟨?_, ?_⟩)) (by kernel_rfl) (fun k hk => ?_)
    obtain ⟨hk, he⟩ := hk
    conv => whnf
    first | (refine drawI 5 rfl [0, 1, 2, 3, 4, 5, 6, 7, 8, 9, 10, 11, 12] (by kernel_rfl) (go tbl_ok false ?_); conv => whnf)
    refine ⟨fun h => have h := of_decide_eq_true h; ?_, fun h => have h := of_decide_eq_false h; ?_⟩ <;> conv => whnf
    · have h : k < l.length := by omega
      repeat (first | (refine skf ?_; conv => whnf) | (refine skt ?_; conv => whnf) | (refine need1 ?_; conv => whnf))
      refine callR (implCellOrder (l.getD k default) x) rfl (go tbl_ok false ?_)
      conv => whnf
      repeat (first | (refine skf ?_; conv => whnf) | (refine skt ?_; conv => whnf) | (refine need1 ?_; conv => whnf))
      refine ⟨fun h2 => have h2 := of_decide_eq_true h2; ?_, fun h2 => have h2 := of_decide_eq_false h2; ?_⟩ <;> conv => whnf
      · (repeat (refine need1 ?_; conv => whnf))
        refine loopE [(0, 0), (1, 1)] (k + 1) ⟨by omega, fun i hi => (Nat.lt_succ_iff_lt_or_eq.1 hi).elim (fun h4 => he i h4) (fun h4 => by subst h4; simp only [ltX, Bool.not_eq_false', decide_eq_true_eq]; exact h2)⟩ (by omega) ⟨rfl, trivial⟩ ⟨rfl, trivial⟩ (by repeat' (first | exact trivial | exact rfl | refine ⟨?_, ?_⟩)) (by kernel_rfl) (by first | exact trivial | exact ⟨rfl, trivial⟩ | repeat' (first | exact trivial | exact rfl | refine ⟨?_, ?_⟩)) (by kernel_rfl)
      · refine castC 2 (sGCell [x]) rfl (cast_rows rfl (by repeat' (first | exact trivial | exact rfl | refine ⟨?_, ?_⟩))) ?_
        refine callC [.own 1, .c (vi k), .own 2] (implInsert l k x (by omega) (by omega)) (fun _ _ => trivial) (fun _ h => by cases h) (by repeat' (first | exact trivial | exact outC_val _ _ | exact rfl | exact .inr ⟨rfl, rfl, _, _, rfl⟩ | refine ⟨?_, ?_⟩)) rfl rfl (fun i _ => go tbl_ok false ?_)
        conv => whnf
        refine retW tbl_ok rfl rfl ⟨?_, trivial⟩
        rw [putCell, if_neg (by rw [hc]; decide), (show putAt l x = k from putAt_eq h he (by simp only [ltX, Bool.not_eq_true', decide_eq_false_iff_not]; exact h2))]
        rfl
    · repeat (first | (refine skf ?_; conv => whnf) | (refine skt ?_; conv => whnf) | (refine need1 ?_; conv => whnf))
      refine castC 2 (sGCell [x]) rfl (cast_rows rfl (by repeat' (first | exact trivial | exact rfl | refine ⟨?_, ?_⟩))) ?_
      refine callC [.own 1, .c (vi k), .own 2] (implInsert l k x (by omega) (by omega)) (fun _ _ => trivial) (fun _ h => by cases h) (by repeat' (first | exact trivial | exact outC_val _ _ | exact rfl | exact .inr ⟨rfl, rfl, _, _, rfl⟩ | refine ⟨?_, ?_⟩)) rfl rfl (fun i _ => go tbl_ok false ?_)
      conv => whnf
      refine retW tbl_ok rfl rfl ⟨?_, trivial⟩
      rw [putCell, if_neg (by rw [hc]; decide), (show putAt l x = k by rw [putAt_end (fun i hi => he i (by omega))]; omega)]
      rfl

end Go.Proofs.YteonkhnmlolfgaaGreatDoor
