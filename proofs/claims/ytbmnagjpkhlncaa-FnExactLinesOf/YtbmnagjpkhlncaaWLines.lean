/- Texts for the law FnExactLinesOf: WLines. No conditions. -/
import Derived.Test.YtbmnagjpkhlncaaH2

set_option maxRecDepth 100000
namespace Go.Proofs.Ytbmnagjpkhlncaa
open Go.Sx
def linesB (xs : List ByteArray) : List UInt8 := xs.flatMap fun l => l.data.toList ++ [10]
theorem linesB_take (xs : List ByteArray) (k : Nat) (h : k < xs.length) : linesB (xs.take (k + 1)) = linesB (xs.take k) ++ (xs.getD k default).data.toList ++ [10] := by
  unfold linesB; rw [flatMap_take _ _ _ h, List.append_assoc]
theorem linesB_length (xs : List ByteArray) : (linesB xs).length = wS (fun b => b.size) xs := by
  induction xs with
  | nil => rfl
  | cons x r ih =>
    have : x.data.toList.length = x.size := Array.length_toList
    simp only [linesB, List.flatMap_cons, List.length_append, List.length_cons, List.length_nil, wS, List.map_cons, List.sum_cons] at *
    omega
theorem linesB_le (xs : List ByteArray) (k : Nat) (h : k < xs.length) (n : Nat) (hw : wS (fun b => b.size) xs ≤ n) : (linesB (xs.take k)).length + (xs.getD k default).size + 1 ≤ n := by
  have h1 := linesB_length (xs.take k)
  have h2 := wS_take_le (fun b => b.size) xs k h
  have h3 : (xs.take k).length = k := by rw [List.length_take]; omega
  simp only [wS] at *
  omega

theorem bytes3 (l : List UInt8) (b : ByteArray) : (⟨l.toArray⟩ : ByteArray) ++ (b ++ ⟨#[10]⟩) = ⟨(l ++ b.data.toList ++ [10]).toArray⟩ := by
  apply ByteArray.ext
  simp [ByteArray.data_append]

theorem specLinesOf (xs : List ByteArray) (h : wS (fun b => b.size) xs ≤ 1048576) : Meets Try.prog 11 [.one (sStr xs)] [.one (vs ⟨(linesB xs).toArray⟩)] := by
  have hl : xs.length ≤ 1048576 := by simp only [wS] at h; omega
  refine enterW tbl_ok false Try.func11 rfl (by decide) fun W => ?_
  conv => whnf
  refine castW 0 (sByte []) rfl nil_cast ?_
  refine loopW tbl_ok false [5] (fun k : Nat => [(4, .c (vi k))]) (fun k => []) (fun k => [⟨0, sByte (linesB (xs.take k))⟩])
    (fun k => k ≤ xs.length) (fun k => xs.length - k) 0 (Nat.zero_le _) ⟨by first | rfl | simp [nth, ren2, ren1, ren0], trivial⟩ trivial ⟨by first | rfl | simp, trivial⟩ trivial (by kernel_rfl) (fun k hk => ?_)
  conv => whnf
  refine ⟨fun h' => have h' := of_decide_eq_true h'; ?_, fun h' => have h' := of_decide_eq_false h'; ?_⟩ <;> conv => whnf
  · have h' : k < xs.length := by omega
    have h1 := linesB_le xs k h' _ h
    have h2 : (linesB (xs.take k) ++ (xs.getD k default).data.toList).length = (linesB (xs.take k)).length + (xs.getD k default).size := by rw [List.length_append]; rfl
    (repeat (refine ⟨by first | omega | (show _ ∧ _; omega) | (simp only [Int.toNat_natCast]; first | omega | (show _ ∧ _; omega)) | decide, ?_⟩; conv => whnf))
    refine appS tbl_ok rfl rfl rfl rfl rfl rfl rfl rfl rfl rfl rfl rfl (sByte (linesB (xs.take k) ++ (xs.getD k default).data.toList)) (bytes_app _ _) (fun _ => fun i _ c hc => ⟨_, List.mem_singleton.1 hc⟩) (by simp only [Int.toNat_natCast]; omega) (go tbl_ok false ?_)
    conv => whnf
    refine appW tbl_ok rfl rfl rfl rfl rfl rfl rfl rfl rfl rfl rfl (sByte (linesB (xs.take k) ++ (xs.getD k default).data.toList ++ [10])) (slC_snoc rfl) (by intro h; cases h) (by rw [h2]; omega) (go tbl_ok false ?_)
    conv => whnf
    (repeat (refine ⟨by first | omega | (show _ ∧ _; omega) | (simp only [Int.toNat_natCast]; first | omega | (show _ ∧ _; omega)) | decide, ?_⟩; conv => whnf))
    refine loopE [(0, 3)] (k + 1) (by omega) (by omega) ⟨rfl, trivial⟩ ⟨congrArg sByte (linesB_take xs k h').symm, trivial⟩ trivial (by kernel_rfl) trivial (by kernel_rfl)
  · refine strW tbl_ok rfl rfl rfl rfl rfl rfl rfl rfl rfl (linesB (xs.take k)) rfl (go tbl_ok false ?_)
    conv => whnf
    exact retW tbl_ok rfl rfl ⟨congrArg (fun l => vs ⟨(linesB l).toArray⟩) (take_all xs k (by omega)).symm, trivial⟩

theorem implLinesOf (xs : List ByteArray) (h : wS (fun b => b.size) xs ≤ 1048576) : Meets Try.prog 13 [.one (sStr xs)] [.one (vs ⟨(linesB xs).toArray⟩)] := by
  have hl : xs.length ≤ 1048576 := by simp only [wS] at h; omega
  refine enterW tbl_ok false Try.func13 rfl (by decide) fun W => ?_
  conv => whnf
  refine loopW tbl_ok false [] (fun k : Nat => [(3, .c (vs ⟨(linesB (xs.take k)).toArray⟩)), (8, .c (vi k))]) (fun k => []) (fun k => [])
    (fun k => k ≤ xs.length) (fun k => xs.length - k) 0 (Nat.zero_le _) ⟨by first | rfl | simp [nth, ren2, ren1, ren0], by first | rfl | simp [nth, ren2, ren1, ren0], trivial⟩ trivial trivial trivial (by kernel_rfl) (fun k hk => ?_)
  conv => whnf
  refine ⟨fun h' => have h' := of_decide_eq_true h'; ?_, fun h' => have h' := of_decide_eq_false h'; ?_⟩ <;> conv => whnf
  · have h' : k < xs.length := by omega
    have h1 := linesB_le xs k h' _ h
    (repeat (refine ⟨by first | omega | (show _ ∧ _; omega) | (simp only [Int.toNat_natCast]; first | omega | (show _ ∧ _; omega)) | decide, ?_⟩; conv => whnf))
    refine ⟨by show (xs.getD k default).size + 1 ≤ _; omega, ?_⟩
    conv => whnf
    refine ⟨by rw [ByteArray.size_append]; show (linesB (xs.take k)).toArray.size + ((xs.getD k default).size + 1) ≤ _; rw [List.size_toArray]; omega, ?_⟩
    conv => whnf
    (repeat (refine ⟨by first | omega | (show _ ∧ _; omega) | (simp only [Int.toNat_natCast]; first | omega | (show _ ∧ _; omega)) | decide, ?_⟩; conv => whnf))
    refine loopE [] (k + 1) (by omega) (by omega) ⟨congrArg (fun b => AV.c (vs b)) (by rw [linesB_take xs k h']; exact bytes3 _ _), rfl, trivial⟩ trivial trivial (by kernel_rfl) trivial (by kernel_rfl)
  · exact retW tbl_ok rfl rfl ⟨congrArg (fun l => vs ⟨(linesB l).toArray⟩) (take_all xs k (by omega)).symm, trivial⟩

end Go.Proofs.Ytbmnagjpkhlncaa
