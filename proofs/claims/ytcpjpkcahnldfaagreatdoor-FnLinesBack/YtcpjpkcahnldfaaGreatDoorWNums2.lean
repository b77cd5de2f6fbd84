/- Texts for the law FnLinesBack: WNums2. No conditions. -/
import Derived.Test.YtcpjpkcahnldfaaGreatDoorEng3
import Derived.Test.YtcpjpkcahnldfaaGreatDoorWNums

set_option maxRecDepth 100000
namespace Go.Proofs.YtcpjpkcahnldfaaGreatDoor
open Go.Sx
def partsR (s : ByteArray) (w : Nat) : List ByteArray := if okR s w then partsL s else []
theorem partsR_not {s : ByteArray} {w : Nat} (h : okR s w = false) : partsR s w = [] := by simp [partsR, h]
theorem partsR_is {s : ByteArray} {w : Nat} (h : okR s w = true) : partsR s w = partsL s := by simp [partsR, h]
theorem implNumbersP (s : ByteArray) (w : Nat) (hs : s.size ≤ 1048576) (hw2 : w ≤ 2) : MeetsT Tryz.prog Tab 40 [.one (vs s), .one (vi w)] [.one (sInt (numsR s w)), .one (sStr (partsR s w)), .one (vs (textR s w)), .one (vb (okR s w))] := by
  have hl := partsL_len s
  have hp := partsL_size s
  have hjs := joinB_parts s
  refine enterT tbl_ok false Tryz.func40 rfl (by decide) fun W hW => ?_
  conv => whnf
  refine callWT (implPartsOf s hs) tabStays hW rfl (go tbl_ok false ?_)
  conv => whnf
  repeat' (first | (refine ite_f (by first | with_reducible rfl | assumption) ?_; conv => whnf) | (refine ite_t (by first | with_reducible rfl | assumption) ?_; conv => whnf) | (refine ⟨fun h => ?_, fun h => ?_⟩ <;> conv => whnf) | (refine ⟨by first | omega | (show _ ∧ _; omega) | ((repeat (first | rw [ByteArray.size_append] | rw [bsz] | rw [List.size_toArray] | rw [List.length_cons] | rw [List.length_nil])) <;> omega) | ((repeat rw [Int.toNat_natCast]) <;> first | omega | (show _ ∧ _; omega)) | (simp only [ByteArray.size_append, bsz, List.size_toArray, List.length_cons, List.length_nil]; omega) | (simp only [Int.toNat_natCast]; first | omega | (show _ ∧ _; omega)) | decide | (simp only [beq_iff_eq, beq_eq_false_iff_ne, bne_iff_ne, bne_eq_false_iff_eq, Bool.not_eq_true', Bool.not_eq_false', Go.Sx.within_iff, Go.Sx.within_f, decide_eq_true_eq, decide_eq_false_iff_not, ne_eq, Int.not_lt, Int.not_le, ge_iff_le, gt_iff_lt, Int.toNat_zero, Int.toNat_one, Int.toNat_natCast] at * <;> first | omega | (show _ ∧ _; omega)), ?_⟩; conv => whnf) | fail)
  · have hb : partsB s = false := by simpa using h
    have hok : okR s w = false := by rw [okR, hb]; rfl
    have hh := okR_not hok
    have hq := partsR_not hok
    refine nilR 4 1 (fun i => (fun n => [vi n]) (([] : List Int).getD i default)) rfl ?_
    refine nilR 5 1 (fun i => (fun b => [vs b]) (([] : List ByteArray).getD i default)) rfl ?_
    exact retW tbl_ok rfl rfl ⟨by (conv => whnf); rw [hh.1]; rfl, by (conv => whnf); rw [hq]; rfl, congrArg vs hh.2, congrArg vb hok, trivial⟩
  · have hlt : (partsL s).length < w := by have := of_decide_eq_true h; omega
    have hok : okR s w = false := by rw [okR, decide_eq_false (by omega : ¬ w ≤ (partsL s).length)]; simp
    have hh := okR_not hok
    have hq := partsR_not hok
    refine nilR 4 1 (fun i => (fun n => [vi n]) (([] : List Int).getD i default)) rfl ?_
    refine nilR 5 1 (fun i => (fun b => [vs b]) (([] : List ByteArray).getD i default)) rfl ?_
    exact retW tbl_ok rfl rfl ⟨by (conv => whnf); rw [hh.1]; rfl, by (conv => whnf); rw [hq]; rfl, congrArg vs hh.2, congrArg vb hok, trivial⟩
  rename_i hb0
  have hb : partsB s = true := by simpa using hb0
  have hwl : w ≤ (partsL s).length := by have := of_decide_eq_false h; omega
  have hsub : SubOk (partsL s).length 1 (fun i => [vs ((partsL s).getD i default)]) (w : Int) ((partsL s).length : Int) (sStr ((partsL s).drop w)) := by
    have h := slC_sub (es := 1) (e := fun b => [vs b]) (xs := partsL s) (l := (w : Int)) (h := ((partsL s).length : Int)) (by omega) (by omega) (by omega)
    rwa [Int.toNat_natCast, List.take_of_length_le (by rw [List.length_drop]; omega)] at h
  have hq : ∀ x ∈ (partsL s).drop w, x.size ≤ 600 := fun x hx => hp x (List.mem_of_mem_drop hx)
  have hql : ((partsL s).drop w).length ≤ 12 := by rw [List.length_drop]; omega
  generalize hQ : (partsL s).drop w = Q at hsub hq hql
  refine freezeW 0 rfl fun B v fp hF => ?_
  refine showG hF 28 rfl ?_
  refine nilW 10 1 (fun i => (fun n => [vi n]) (([] : List Int).getD i default)) rfl ?_
  refine sliceW tbl_ok rfl rfl rfl rfl rfl rfl rfl rfl rfl ⟨by omega, by omega, by omega⟩ (sStr Q) hsub (go tbl_ok false ?_)
  conv => whnf
  have hz : ∀ x ∈ Q.take 0, rdB x = true := fun x hx => by rw [List.take_zero] at hx; cases hx
  refine loopW tbl_ok false [] (fun k : Nat => [(32, .c (vi k))]) (fun k => []) (fun k => [⟨1, sInt ((Q.take k).map rdN)⟩])
    (fun k => k ≤ Q.length ∧ (∀ x ∈ Q.take k, rdB x = true)) (fun k => Q.length - k) 0 ⟨Nat.zero_le _, by first | rfl | assumption | simp⟩ ⟨by first | rfl | simp [nth, ren2, ren1, ren0], trivial⟩ trivial ⟨by first | rfl | exact (congrArg (fun l => slC _ _ l) (List.append_nil _)).symm | (show (_ : Cell) = _; simp) | simp, trivial⟩ trivial (by kernel_rfl) (fun k hk => ?_)
  obtain ⟨hk, he⟩ := hk
  conv => whnf
  refine ⟨fun h' => have h' := of_decide_eq_true h'; ?_, fun h' => have h' := of_decide_eq_false h'; ?_⟩ <;> conv => whnf
  · have h' : k < Q.length := by omega
    have hx := hq _ (getD_mem (d := default) h')
    (repeat (refine ⟨by first | omega | (show _ ∧ _; omega) | ((repeat (first | rw [ByteArray.size_append] | rw [bsz] | rw [List.size_toArray] | rw [List.length_cons] | rw [List.length_nil])) <;> omega) | ((repeat rw [Int.toNat_natCast]) <;> first | omega | (show _ ∧ _; omega)) | (simp only [ByteArray.size_append, bsz, List.size_toArray, List.length_cons, List.length_nil]; omega) | (simp only [Int.toNat_natCast]; first | omega | (show _ ∧ _; omega)) | decide, ?_⟩; conv => whnf))
    refine callRF hF (implReadDecimal (Q.getD k default) (by omega)) tabStays hW rfl (go tbl_ok false ?_)
    conv => whnf
    refine ⟨fun hc => ?_, fun hc => ?_⟩ <;> conv => whnf
    · have hr : rdB (Q.getD k default) = false := by simpa using hc
      have hok : okR s w = false := by
        rw [okR, numsB, hQ, all_of_getD h' hr]; simp
      have hh := okR_not hok
      have hq := partsR_not hok
      refine nilR 4 1 (fun i => (fun n => [vi n]) (([] : List Int).getD i default)) rfl ?_
      refine nilR 5 1 (fun i => (fun b => [vs b]) (([] : List ByteArray).getD i default)) rfl ?_
      exact retF tbl_ok hF rfl rfl ⟨by (conv => whnf); rw [hh.1]; rfl, by (conv => whnf); rw [hq]; rfl, congrArg vs hh.2, congrArg vb hok, trivial⟩
    · have hr : rdB (Q.getD k default) = true := by simpa using hc
      have hnext : ∀ x ∈ Q.take (k + 1), rdB x = true := fun x hx => by
        rw [take_snoc Q k h'] at hx
        rcases List.mem_append.1 hx with hx | hx
        · exact he x hx
        · rw [List.mem_singleton.1 hx]; exact hr
      (repeat (refine ⟨by first | omega | (show _ ∧ _; omega) | ((repeat (first | rw [ByteArray.size_append] | rw [bsz] | rw [List.size_toArray] | rw [List.length_cons] | rw [List.length_nil])) <;> omega) | ((repeat rw [Int.toNat_natCast]) <;> first | omega | (show _ ∧ _; omega)) | (simp only [ByteArray.size_append, bsz, List.size_toArray, List.length_cons, List.length_nil]; omega) | (simp only [Int.toNat_natCast]; first | omega | (show _ ∧ _; omega)) | decide, ?_⟩; conv => whnf))
      refine appW tbl_ok rfl rfl rfl rfl rfl rfl rfl rfl rfl rfl rfl (sInt ((Q.take k).map rdN ++ [rdN (Q.getD k default)])) (slC_snoc rfl) (by intro h; cases h) (by simp; omega) (go tbl_ok false ?_)
      conv => whnf
      (repeat (refine ⟨by first | omega | (show _ ∧ _; omega) | ((repeat (first | rw [ByteArray.size_append] | rw [bsz] | rw [List.size_toArray] | rw [List.length_cons] | rw [List.length_nil])) <;> omega) | ((repeat rw [Int.toNat_natCast]) <;> first | omega | (show _ ∧ _; omega)) | (simp only [ByteArray.size_append, bsz, List.size_toArray, List.length_cons, List.length_nil]; omega) | (simp only [Int.toNat_natCast]; first | omega | (show _ ∧ _; omega)) | decide, ?_⟩; conv => whnf))
      refine loopE [(1, 3)] (k + 1) ⟨by omega, hnext⟩ (by omega) ⟨rfl, trivial⟩ ⟨congrArg sInt (map_take _ _ _ h').symm, trivial⟩ trivial (by kernel_rfl) trivial (by kernel_rfl)
  · have e : k = Q.length := by omega
    have hall : Q.take k = Q := by rw [e, List.take_length]
    rw [hall]
    have hok : okR s w = true := by
      rw [okR, hb, decide_eq_true hwl, numsB, hQ, List.all_eq_true.2 (fun x hx => he x (by rw [hall]; exact hx))]; rfl
    have hh := okR_is hok
    have hq := partsR_is hok
    rw [show numsR s w = Q.map rdN by rw [hh.1, numsL, hQ], hq, hh.2, hok]
    refine showC hF 0 rfl ?_
    refine callR (joinT (partsL s) (by omega) (by omega)) rfl (go tbl_ok false ?_)
    conv => whnf
    exact retV tbl_ok hF 1 rfl rfl rfl ⟨rfl, outC_val _ _, rfl, rfl, trivial⟩

end Go.Proofs.YtcpjpkcahnldfaaGreatDoor
