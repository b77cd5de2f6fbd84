/- Texts for the law FnExactClusterLines: WStr. No conditions. -/
import Derived.Test.YteonkhnmlolfgaaGreatDoorWDec

set_option maxRecDepth 100000
namespace Go.Proofs.YteonkhnmlolfgaaGreatDoor
open Go.Sx
def sMark (_ : ByteArray) (k : Int) : ByteArray := (⟨#[109]⟩ : ByteArray) ++ dec k
def sCnt (_ : ByteArray) : Nat := 1
theorem sSum_le (l : List ByteArray) : (l.map sCnt).sum ≤ 5 * l.length := by
  induction l with
  | nil => exact Nat.le_refl _
  | cons x r ih => simp only [List.map_cons, List.sum_cons, List.length_cons, sCnt] at *; omega
theorem markText (k : Int) (h0 : 1 ≤ k) (h1 : k ≤ 4611686018427387904) : Meets Tryz.prog 40 [.one (vi k)] [.one (vs ((⟨#[109]⟩ : ByteArray) ++ dec k))] := by
  obtain ⟨u, rfl⟩ : ∃ u : Nat, k = u := ⟨k.toNat, by omega⟩
  have hu : 0 < u := by omega
  have hd0 := decI_zero hu
  refine enterW tbl_ok false Tryz.func40 rfl (by decide) fun W => ?_
  conv => whnf
  refine ite_f (by first | with_reducible rfl | assumption | (simp only [decide_eq_false_iff_not]; omega) | simp) ?_
  conv => whnf
  refine loopW tbl_ok false [] (fun k : Nat => [(0, .c (vi (mk10 u k))), (3, .c (vs ⟨(sk10 u k).toArray⟩))]) (fun k => []) (fun k => [])
    (fun k => k ≤ 19 ∧ DecI u k) (fun k => 19 - k) 0 ⟨Nat.zero_le _, by first | rfl | assumption | simp⟩ ⟨by first | rfl | simp [nth, ren2, ren1, ren0], by first | rfl | simp [nth, ren2, ren1, ren0], trivial⟩ trivial trivial (by first | exact trivial | exact ⟨rfl, trivial⟩ | repeat' (first | exact trivial | exact rfl | refine ⟨?_, ?_⟩)) (by kernel_rfl) (fun k hk => ?_)
  obtain ⟨hk, he⟩ := hk
  conv => whnf
  refine ⟨fun hq => have hq := of_decide_eq_true hq; ?_, fun hq => have hq := of_decide_eq_false hq; ?_⟩ <;> conv => whnf
  · have hm : 0 < mk10 u k := by omega
    have hk' := mk10_k (show u ≤ 9223372036854775808 by omega) hm
    have hr : ((mk10 u k : Nat) : Int).tmod 10 = ((mk10 u k % 10 : Nat) : Int) := by have := tmod10 (σ := 1) (.inl rfl) (mk10 u k); simpa using this
    have hdv : ((mk10 u k : Nat) : Int).tdiv 10 = ((mk10 u k / 10 : Nat) : Int) := by simp
    have hle := mk10_le u k
    have hss := sk10_len u k
    have hmm := Nat.mod_lt (mk10 u k) (show 10 > 0 by decide)
    (repeat (refine ⟨by first | omega | (show _ ∧ _; omega) | (simp only [ByteArray.size_append, bsz, List.size_toArray, List.length_cons, List.length_nil]; omega) | decide, ?_⟩; conv => whnf))
    refine castW 0 (sByte [UInt8.ofNat (48 + mk10 u k % 10)]) rfl (cast_one (congrArg (fun z => [Cell.val (.int .u8 z)]) (by rw [hr, UInt8.toNat_ofNat']; omega))) ?_
    refine strW tbl_ok rfl rfl rfl rfl rfl rfl rfl rfl rfl [UInt8.ofNat (48 + mk10 u k % 10)] rfl (go tbl_ok false ?_)
    conv => whnf
    (repeat (refine ⟨by first | omega | (show _ ∧ _; omega) | (simp only [ByteArray.size_append, bsz, List.size_toArray, List.length_cons, List.length_nil]; omega) | (rw [hdv]; show _ ∧ _; omega) | decide, ?_⟩; conv => whnf))
    refine loopE [] (k + 1) ⟨by omega, decI_succ he hm⟩ (by omega) ⟨congrArg (fun z => AV.c (vi z)) hdv, congrArg (fun z => AV.c (vs z)) (ba_cons _ _), trivial⟩ trivial trivial (by kernel_rfl) (by first | exact trivial | exact ⟨rfl, trivial⟩ | repeat' (first | exact trivial | exact rfl | refine ⟨?_, ?_⟩)) (by kernel_rfl)
  · have hm : mk10 u k = 0 := by omega
    have hd : Lib.decDigits u = sk10 u k := by
      rcases he with ⟨h, _⟩ | ⟨_, h⟩
      · omega
      · exact h
    have hss := sk10_len u k
    (repeat (refine need1 ?_; conv => whnf))
    refine retW tbl_ok rfl rfl ⟨?_, trivial⟩
    have hs : ¬ (u : Int) < 0 := by omega
    exact congrArg vs (by rw [dec, Lib.itoa, if_neg hs, ← hd, show ((u : Int)).toNat = u by omega])

theorem markStringS (xs : List ByteArray) (k : Int) (h0 : 0 < k) (h1 : k + ((xs.map sCnt).sum : Nat) ≤ 4611686018427387904) :
    MeetsU Tryz.prog 12 (.one (sStr xs)) (.one (sStr (markL sMark sCnt xs k))) [.one (vi k)] [.int .i64 (k + ((xs.map sCnt).sum : Nat))] := by
  have hl : xs.length ≤ 4611686018427387904 := by have := len_le_sum sCnt xs (fun x => Nat.le_refl 1); omega
  refine enterU tbl_ok false Tryz.func12 rfl (by decide) fun W may l => ?_
  conv => whnf
  refine loopW tbl_ok false [] (fun j : Nat => [(1, .c (vi (k + (((xs.take j).map sCnt).sum : Nat)))), (5, .c (vi j))]) (fun _ => []) (fun j => [⟨0, sStr (markJ sMark sCnt xs k j)⟩])
    (fun j => j ≤ xs.length) (fun j => xs.length - j) 0 (Nat.zero_le _) ⟨by simp [nth, ren2, ren1, ren0], rfl, trivial⟩ trivial ⟨rfl, trivial⟩ ⟨rfl, trivial⟩ (by kernel_rfl) (fun j hj => ?_)
  have hL := markJ_length sMark sCnt xs k j
  conv => whnf
  refine ⟨fun h => ?_, fun h => ?_⟩ <;> simp only [decide_eq_true_eq, decide_eq_false_iff_not] at h <;> conv => whnf
  · have h : j < xs.length := by omega
    have g := markJ_get sMark sCnt xs k j default h
    have hle := wS_take_le sCnt xs j h
    have hst := wS_take sCnt xs j h
    generalize hy : xs.getD j default = y at g hle hst
    have hc : sCnt y = 1 := rfl
    refine callR (markText (k + (((xs.take j).map sCnt).sum : Nat)) (by omega) (by omega)) rfl (go tbl_ok false ?_)
    conv => whnf
    (repeat (refine ⟨by first | omega | (show _ ∧ _; omega) | (simp only [List.length_set]; omega) | decide, ?_⟩; conv => whnf))
    refine storeW (j := (j : Int)) tbl_ok rfl rfl rfl rfl rfl rfl rfl rfl _ (slC_set1 (j := j) (xs := (markJ sMark sCnt xs k j)) (e := (fun b => [vs b])) (x := (⟨#[109]⟩ : ByteArray) ++ dec (k + (((xs.take j).map sCnt).sum : Nat))) (by omega) g (by exact rfl)) (go tbl_ok false ?_)
    conv => whnf
    (repeat (refine ⟨by first | omega | (show _ ∧ _; omega) | (simp only [List.length_set]; omega) | decide, ?_⟩; conv => whnf))
    refine loopE [] (j + 1) (by omega) (by omega) ⟨?_, rfl, trivial⟩ ⟨?_, trivial⟩ trivial (by kernel_rfl) ⟨rfl, trivial⟩ (by kernel_rfl)
    · exact congrArg (fun n => AV.c (vi n)) (by omega)
    · have e := markJ_set sMark sCnt xs k j h
      rw [hy] at e
      exact congrArg (fun z => slC 1 (fun b => [vs b]) z) e
  · refine retU tbl_ok rfl ⟨?_, trivial⟩ rfl rfl ?_ ⟨rfl, trivial⟩
    · exact congrArg (fun n => AV.c (vi n)) (by rw [List.take_of_length_le (by omega)])
    · exact congrArg (fun z => slC 1 (fun b => [vs b]) z) (markJ_end _ _ _ _ _ (by omega))

theorem heldStringS (xs : List ByteArray) (k : Int) (h0 : 0 < k) (h1 : k + ((xs.map sCnt).sum : Nat) ≤ 4611686018427387904) :
    Meets Tryz.prog 13 [.one (sStr (markL sMark sCnt xs k)), .one (vi k)] [.one (vi (k + ((xs.map sCnt).sum : Nat)))] := by
  have hl : xs.length ≤ 4611686018427387904 := by have := len_le_sum sCnt xs (fun x => Nat.le_refl 1); omega
  have hL := markL_length sMark sCnt xs k
  refine enterW tbl_ok false Tryz.func13 rfl (by decide) fun W => ?_
  conv => whnf
  refine loopW tbl_ok false [] (fun j : Nat => [(1, .c (vi (k + (((xs.take j).map sCnt).sum : Nat)))), (5, .c (vi j))]) (fun _ => []) (fun _ => [])
    (fun j => j ≤ xs.length) (fun j => xs.length - j) 0 (Nat.zero_le _) ⟨by simp [nth, ren2, ren1, ren0], rfl, trivial⟩ trivial trivial trivial (by kernel_rfl) (fun j hj => ?_)
  conv => whnf
  refine ⟨fun h => ?_, fun h => ?_⟩ <;> simp only [decide_eq_true_eq, decide_eq_false_iff_not] at h <;> conv => whnf
  · have h : j < xs.length := by omega
    have g := markL_getD sMark sCnt xs k j default h
    have hle := wS_take_le sCnt xs j h
    have hst := wS_take sCnt xs j h
    generalize xs.getD j default = y at g hle hst
    have hc : sCnt y = 1 := rfl
    first | (refine drawI 4 rfl [0, 1, 2, 3, 4, 5, 6] (by kernel_rfl) (go tbl_ok false ?_); conv => whnf)
    (repeat (refine ⟨by first | omega | (show _ ∧ _; omega) | decide, ?_⟩; conv => whnf))
    refine callR (markText (k + (((xs.take j).map sCnt).sum : Nat)) (by omega) (by omega)) rfl (go tbl_ok false ?_)
    conv => whnf
    refine ⟨fun h' => ?_, fun _ => ?_⟩ <;> conv => whnf
    · have e : ((markL sMark sCnt xs k).getD j default) = (⟨#[109]⟩ : ByteArray) ++ dec (k + (((xs.take j).map sCnt).sum : Nat)) := congrArg (fun z : ByteArray => z) g
      simp only [Int.toNat_natCast, e, ba_self, Bool.not_true, Bool.false_eq_true] at h'
    (repeat (refine ⟨by first | omega | (show _ ∧ _; omega) | decide, ?_⟩; conv => whnf))
    refine loopE [] (j + 1) (by omega) (by omega) ⟨?_, rfl, trivial⟩ trivial trivial (by kernel_rfl) trivial (by kernel_rfl)
    exact congrArg (fun n => AV.c (vi n)) (by omega)
  · refine retW tbl_ok rfl rfl ⟨?_, trivial⟩
    exact congrArg vi (by rw [List.take_of_length_le (by omega)])

end Go.Proofs.YteonkhnmlolfgaaGreatDoor
