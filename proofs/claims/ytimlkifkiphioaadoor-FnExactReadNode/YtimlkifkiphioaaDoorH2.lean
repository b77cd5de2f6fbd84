/- Texts for the law FnExactReadNode: H2. No conditions. -/
import Derived.Test.YtimlkifkiphioaaDoorH1

set_option maxRecDepth 100000
namespace Go.Proofs.YtimlkifkiphioaaDoor
open Go.Sx
theorem markIntS (xs : List Int) (k : Int) (h0 : 0 ≤ k) (h1 : k + ((xs.map iCnt).sum : Nat) ≤ 4611686018427387904) :
    MeetsU Tryd.prog 34 (.one (sInt xs)) (.one (sInt (markL iMark iCnt xs k))) [.one (vi k)] [.int .i64 (k + ((xs.map iCnt).sum : Nat))] := by
  have hl : xs.length ≤ 4611686018427387904 := by have := len_le_sum iCnt xs (fun x => Nat.le_refl 1); omega
  refine enterU tbl_ok false Tryd.func34 rfl (by decide) fun W may l => ?_
  conv => whnf
  refine loopW tbl_ok false [] (fun j : Nat => [(1, .c (vi (k + (((xs.take j).map iCnt).sum : Nat)))), (5, .c (vi j))]) (fun _ => []) (fun j => [⟨0, sInt (markJ iMark iCnt xs k j)⟩])
    (fun j => j ≤ xs.length) (fun j => xs.length - j) 0 (Nat.zero_le _) ⟨by simp [nth, ren2, ren1, ren0], rfl, trivial⟩ trivial ⟨rfl, trivial⟩ ⟨rfl, trivial⟩ (by kernel_rfl) (fun j hj => ?_)
  have hL := markJ_length iMark iCnt xs k j
  conv => whnf
  refine ⟨fun h => ?_, fun h => ?_⟩ <;> simp only [decide_eq_true_eq, decide_eq_false_iff_not] at h <;> conv => whnf
  · have h : j < xs.length := by omega
    have g := markJ_get iMark iCnt xs k j default h
    have hle := wS_take_le iCnt xs j h
    have hst := wS_take iCnt xs j h
    generalize hy : xs.getD j default = y at g hle hst
    have hc : iCnt y = 1 := rfl
    (repeat (refine ⟨by first | omega | (show _ ∧ _; omega) | (simp only [List.length_set]; omega) | decide, ?_⟩; conv => whnf))
    refine storeW (j := (j : Int)) tbl_ok rfl rfl rfl rfl rfl rfl rfl rfl _ (slC_set1 (j := j) (xs := (markJ iMark iCnt xs k j)) (e := (fun n => [vi n])) (x := k + (((xs.take j).map iCnt).sum : Nat)) (by omega) g (by exact rfl)) (go tbl_ok false ?_)
    conv => whnf
    (repeat (refine ⟨by first | omega | (show _ ∧ _; omega) | (simp only [List.length_set]; omega) | decide, ?_⟩; conv => whnf))
    refine loopE [] (j + 1) (by omega) (by omega) ⟨?_, rfl, trivial⟩ ⟨?_, trivial⟩ trivial (by kernel_rfl) ⟨rfl, trivial⟩ (by kernel_rfl)
    · exact congrArg (fun n => AV.c (vi n)) (by omega)
    · have e := markJ_set iMark iCnt xs k j h
      rw [hy] at e
      exact congrArg (fun z => slC 1 (fun n => [vi n]) z) e
  · refine retU tbl_ok rfl ⟨?_, trivial⟩ rfl rfl ?_ ⟨rfl, trivial⟩
    · exact congrArg (fun n => AV.c (vi n)) (by rw [List.take_of_length_le (by omega)])
    · exact congrArg (fun z => slC 1 (fun n => [vi n]) z) (markJ_end _ _ _ _ _ (by omega))

theorem markNode (x : GNode) (k : Int) (h0 : 0 ≤ k) (h1 : k + (x.cntV : Nat) ≤ 4611686018427387904) :
    MeetsU Tryd.prog 15 (.agg x.c) (.agg (x.markV k).c) [.one (vi k)] [.int .i64 (k + (x.cntV : Nat))] := by
  have hc : x.cntV = (x.outs.map iCnt).sum := rfl
  refine enterU tbl_ok false Tryd.func15 rfl (by decide) fun W may l => ?_
  conv => whnf
  refine callU (markIntS x.outs (k) (by omega) (by omega)) rfl trivial rfl rfl rfl (go tbl_ok false ?_)
  conv => whnf
  refine retU tbl_ok rfl ⟨?_, trivial⟩ rfl rfl (by repeat (first | exact trivial | refine ⟨rfl, ?_⟩)) (by repeat (first | exact trivial | refine ⟨rfl, ?_⟩))
  exact congrArg (fun n => AV.c (vi n)) (by omega)

theorem heldIntS (xs : List Int) (k : Int) (h0 : 0 ≤ k) (h1 : k + ((xs.map iCnt).sum : Nat) ≤ 4611686018427387904) :
    Meets Tryd.prog 35 [.one (sInt (markL iMark iCnt xs k)), .one (vi k)] [.one (vi (k + ((xs.map iCnt).sum : Nat)))] := by
  have hl : xs.length ≤ 4611686018427387904 := by have := len_le_sum iCnt xs (fun x => Nat.le_refl 1); omega
  have hL := markL_length iMark iCnt xs k
  refine enterW tbl_ok false Tryd.func35 rfl (by decide) fun W => ?_
  conv => whnf
  refine loopW tbl_ok false [] (fun j : Nat => [(1, .c (vi (k + (((xs.take j).map iCnt).sum : Nat)))), (5, .c (vi j))]) (fun _ => []) (fun _ => [])
    (fun j => j ≤ xs.length) (fun j => xs.length - j) 0 (Nat.zero_le _) ⟨by simp [nth, ren2, ren1, ren0], rfl, trivial⟩ trivial trivial trivial (by kernel_rfl) (fun j hj => ?_)
  conv => whnf
  refine ⟨fun h => ?_, fun h => ?_⟩ <;> simp only [decide_eq_true_eq, decide_eq_false_iff_not] at h <;> conv => whnf
  · have h : j < xs.length := by omega
    have g := markL_getD iMark iCnt xs k j default h
    have hle := wS_take_le iCnt xs j h
    have hst := wS_take iCnt xs j h
    generalize xs.getD j default = y at g hle hst
    have hc : iCnt y = 1 := rfl
    (repeat (refine ⟨by first | omega | (show _ ∧ _; omega) | decide, ?_⟩; conv => whnf))
    refine ⟨fun h' => ?_, fun _ => ?_⟩ <;> conv => whnf
    · have e : ((markL iMark iCnt xs k).getD j default) = (k + (((xs.take j).map iCnt).sum : Nat)) := congrArg (fun z : Int => z) g
      simp only [Int.toNat_natCast, e, bne_self_eq_false, Bool.false_eq_true] at h'
    (repeat (refine ⟨by first | omega | (show _ ∧ _; omega) | decide, ?_⟩; conv => whnf))
    refine loopE [] (j + 1) (by omega) (by omega) ⟨?_, rfl, trivial⟩ trivial trivial (by kernel_rfl) trivial (by kernel_rfl)
    exact congrArg (fun n => AV.c (vi n)) (by omega)
  · refine retW tbl_ok rfl rfl ⟨?_, trivial⟩
    exact congrArg vi (by rw [List.take_of_length_le (by omega)])

theorem heldNode (x : GNode) (k : Int) (h0 : 0 ≤ k) (h1 : k + (x.cntV : Nat) ≤ 4611686018427387904) :
    Meets Tryd.prog 16 [.agg (x.markV k).c, .one (vi k)] [.one (vi (k + (x.cntV : Nat)))] := by
  have hc : x.cntV = (x.outs.map iCnt).sum := rfl
  refine enterW tbl_ok false Tryd.func16 rfl (by decide) fun W => ?_
  conv => whnf
  refine callR (heldIntS x.outs (k) (by omega) (by omega)) rfl (go tbl_ok false ?_)
  conv => whnf
  refine ⟨fun h' => ?_, fun _ => ?_⟩ <;> conv => whnf
  · simp only [decide_eq_true_eq] at h'; omega
  refine retW tbl_ok rfl rfl ⟨?_, trivial⟩
  exact congrArg vi (by omega)

end Go.Proofs.YtimlkifkiphioaaDoor
