/- Texts for the law FnExactClusterLines: WWork. No conditions. -/
import Derived.Test.YteonkhnmlolfgaaGreatDoorWDones

set_option maxRecDepth 100000
namespace Go.Proofs.YteonkhnmlolfgaaGreatDoor
open Go.Sx
def workerLine (x : GCluster) (w : Int) : ByteArray :=
  if within w 0 (x.workers.length - 1) then
    (if joinB (doneTs (x.workers.getD w.toNat default).dones) = (⟨#[]⟩ : ByteArray) then
      dec (x.workers.getD w.toNat default).queue.length ++ (⟨#[32]⟩ : ByteArray) ++ dec (x.workers.getD w.toNat default).staged.length ++ (⟨#[32]⟩ : ByteArray) ++ dec (x.workers.getD w.toNat default).inputs.length
    else dec (x.workers.getD w.toNat default).queue.length ++ (⟨#[32]⟩ : ByteArray) ++ dec (x.workers.getD w.toNat default).staged.length ++ (⟨#[32]⟩ : ByteArray) ++ dec (x.workers.getD w.toNat default).inputs.length ++ (⟨#[32]⟩ : ByteArray) ++ joinB (doneTs (x.workers.getD w.toNat default).dones))
  else (⟨#[]⟩ : ByteArray)
theorem specWorkerLine (x : GCluster) (w : Int) (hx : x.w ≤ 1048576) (ox : x.ok) : Meets Tryz.prog 41 [.agg x.c, .one (vi w)] [.one (vs (workerLine x w))] := by
  have hl := GCluster.workers_le hx
  refine enterW tbl_ok false Tryz.func41 rfl (by decide) fun W => ?_
  conv => whnf
  (repeat (refine need1 ?_; conv => whnf))
  refine callR (specIn w 0 (x.workers.length - 1)) rfl (go tbl_ok false ?_)
  conv => whnf
  by_cases h1 : within w 0 (x.workers.length - 1) = true
  · have h2 := Go.Sx.within_iff.1 h1
    have hk : w.toNat < x.workers.length := by omega
    have hw := GCluster.worker_le hx hk
    have hy : (x.workers.getD w.toNat default).w ≤ 1048576 := by omega
    have oy := ox.2.1.2 _ (getD_mem (d := default) hk)
    have h3 := three_le_w (x.workers.getD w.toNat default)
    have d1 : inR .i64 ((x.workers.getD w.toNat default).queue.length : Int) := by show _ ∧ _; omega
    have d2 : inR .i64 ((x.workers.getD w.toNat default).staged.length : Int) := by show _ ∧ _; omega
    have d3 : inR .i64 ((x.workers.getD w.toNat default).inputs.length : Int) := by show _ ∧ _; omega
    have e1 := dec_size d1
    have e2 := dec_size d2
    have e3 := dec_size d3
    have e4 := joinD_full _ oy hy
    rw [h1]
    refine ite_f (by first | with_reducible rfl | assumption | (simp only [decide_eq_false_iff_not]; omega) | simp) ?_
    conv => whnf
    repeat' (first | (refine auf ?_; conv => whnf) | (refine aut ?_; conv => whnf) | (refine ⟨fun h => ?_, fun h => ?_⟩ <;> conv => whnf) | (refine callR (specDecimal _ d1) rfl (go tbl_ok false ?_); conv => whnf) | (refine callR (specDecimal _ d2) rfl (go tbl_ok false ?_); conv => whnf) | (refine callR (specDecimal _ d3) rfl (go tbl_ok false ?_); conv => whnf) | (refine callR (specDonesText _ oy hy) rfl (go tbl_ok false ?_); conv => whnf) | (refine needF ?_; conv => whnf) | (refine drawI 4 rfl [0, 1, 2, 5, 6, 7, 11, 12, 13, 3, 4, 8, 9, 10, 14, 15, 16] (by kernel_rfl) (go tbl_ok false ?_); conv => whnf) | fail)
    · have hn : ¬ joinB (doneTs (x.workers.getD w.toNat default).dones) = (⟨#[]⟩ : ByteArray) := fun e => by rw [e] at h; exact absurd h (by decide)
      exact retW tbl_ok rfl rfl ⟨congrArg vs (by rw [workerLine, if_pos h1, if_neg hn]), trivial⟩
    · have hn : joinB (doneTs (x.workers.getD w.toNat default).dones) = (⟨#[]⟩ : ByteArray) := by
        have h' : (joinB (doneTs (x.workers.getD w.toNat default).dones) == (⟨#[]⟩ : ByteArray)) = true := by simpa using h
        exact ba_eq h'
      exact retW tbl_ok rfl rfl ⟨congrArg vs (by rw [workerLine, if_pos h1, if_pos hn]), trivial⟩
  · have h3 : within w 0 (x.workers.length - 1) = false := by simpa using h1
    rw [h3]
    refine ite_t (by first | with_reducible rfl | assumption | (simp only [decide_eq_true_eq]; omega) | simp) ?_
    conv => whnf
    exact retW tbl_ok rfl rfl ⟨congrArg vs (by rw [workerLine, if_neg h1]), trivial⟩
theorem implWorkerLine (x : GCluster) (w : Int) (hx : x.w ≤ 1048576) (ox : x.ok) : MeetsT Tryz.prog Tab 43 [.agg x.c, .one (vi w)] [.one (vs (workerLine x w))] := by
  have hl := GCluster.workers_le hx
  refine enterT tbl_ok false Tryz.func43 rfl (by decide) fun W hW => ?_
  conv => whnf
  (repeat (refine need1 ?_; conv => whnf))
  refine callR (implIn w 0 (x.workers.length - 1)) rfl (go tbl_ok false ?_)
  conv => whnf
  by_cases h1 : within w 0 (x.workers.length - 1) = true
  · have h2 := Go.Sx.within_iff.1 h1
    have hk : w.toNat < x.workers.length := by omega
    have hw := GCluster.worker_le hx hk
    have hy : (x.workers.getD w.toNat default).w ≤ 1048576 := by omega
    have oy := ox.2.1.2 _ (getD_mem (d := default) hk)
    have h3 := three_le_w (x.workers.getD w.toNat default)
    have d1 : inR .i64 ((x.workers.getD w.toNat default).queue.length : Int) := by show _ ∧ _; omega
    have d2 : inR .i64 ((x.workers.getD w.toNat default).staged.length : Int) := by show _ ∧ _; omega
    have d3 : inR .i64 ((x.workers.getD w.toNat default).inputs.length : Int) := by show _ ∧ _; omega
    have e1 := dec_size d1
    have e2 := dec_size d2
    have e3 := dec_size d3
    have e4 := joinD_full _ oy hy
    rw [h1]
    refine ite_f (by first | with_reducible rfl | assumption | (simp only [decide_eq_false_iff_not]; omega) | simp) ?_
    conv => whnf
    repeat' (first | (refine auf ?_; conv => whnf) | (refine aut ?_; conv => whnf) | (refine ⟨fun h => ?_, fun h => ?_⟩ <;> conv => whnf) | (refine callRT (implDecimal _ d1) tabStays hW rfl (go tbl_ok false ?_); conv => whnf) | (refine callRT (implDecimal _ d2) tabStays hW rfl (go tbl_ok false ?_); conv => whnf) | (refine callRT (implDecimal _ d3) tabStays hW rfl (go tbl_ok false ?_); conv => whnf) | (refine callRT (implDonesText _ oy hy) tabStays hW rfl (go tbl_ok false ?_); conv => whnf) | (refine needF ?_; conv => whnf) | (refine drawI 4 rfl [0, 1, 2, 5, 6, 7, 11, 12, 13, 3, 4, 8, 9, 10, 14, 15, 16] (by kernel_rfl) (go tbl_ok false ?_); conv => whnf) | fail)
    · have hn : ¬ joinB (doneTs (x.workers.getD w.toNat default).dones) = (⟨#[]⟩ : ByteArray) := fun e => by rw [e] at h; exact absurd h (by decide)
      exact retW tbl_ok rfl rfl ⟨congrArg vs (by rw [workerLine, if_pos h1, if_neg hn]; simp only [ByteArray.append_assoc]), trivial⟩
    · have hn : joinB (doneTs (x.workers.getD w.toNat default).dones) = (⟨#[]⟩ : ByteArray) := by
        have h' : (joinB (doneTs (x.workers.getD w.toNat default).dones) == (⟨#[]⟩ : ByteArray)) = true := by simpa using h
        exact ba_eq h'
      exact retW tbl_ok rfl rfl ⟨congrArg vs (by rw [workerLine, if_pos h1, if_pos hn]), trivial⟩
  · have h3 : within w 0 (x.workers.length - 1) = false := by simpa using h1
    rw [h3]
    refine ite_t (by first | with_reducible rfl | assumption | (simp only [decide_eq_true_eq]; omega) | simp) ?_
    conv => whnf
    exact retW tbl_ok rfl rfl ⟨congrArg vs (by rw [workerLine, if_neg h1]), trivial⟩

end Go.Proofs.YteonkhnmlolfgaaGreatDoor
