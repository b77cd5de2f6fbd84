/- Texts for the law FnExactSplitInputs: WSplit. No conditions. -/
import Derived.Test.YtbmnagjpkhlncaaH2

set_option maxRecDepth 100000
namespace Go.Proofs.Ytbmnagjpkhlncaa
open Go.Sx
theorem specBrought (n lo hi : Int) : Meets Try.prog 53 [.one (vi n), .one (vi lo), .one (vi hi)] [.one (vi (brought n lo hi))] := by
  refine enterW tbl_ok false Try.func53 rfl (by decide) fun W => ?_
  conv => whnf
  repeat' (first | (refine ite_f (by first | with_reducible rfl | assumption) ?_; conv => whnf) | (refine ite_t (by first | with_reducible rfl | assumption) ?_; conv => whnf) | (refine ⟨fun h => ?_, fun h => ?_⟩ <;> conv => whnf) | (refine retW tbl_ok rfl rfl ⟨?_, trivial⟩; conv => whnf) | (refine ⟨by first | omega | (show _ ∧ _; omega) | (simp only [Int.toNat_natCast]; first | omega | (show _ ∧ _; omega)) | decide, ?_⟩; conv => whnf) | fail)
  all_goals (refine congrArg vi ?_; simp only [decide_eq_true_eq, decide_eq_false_iff_not] at *; unfold brought; repeat' split) <;> first | contradiction | omega

theorem implBrought (n lo hi : Int) : Meets Try.prog 55 [.one (vi n), .one (vi lo), .one (vi hi)] [.one (vi (brought n lo hi))] := by
  refine enterW tbl_ok false Try.func55 rfl (by decide) fun W => ?_
  conv => whnf
  repeat' (first | (refine ite_f (by first | with_reducible rfl | assumption) ?_; conv => whnf) | (refine ite_t (by first | with_reducible rfl | assumption) ?_; conv => whnf) | (refine ⟨fun h => ?_, fun h => ?_⟩ <;> conv => whnf) | (refine retW tbl_ok rfl rfl ⟨?_, trivial⟩; conv => whnf) | (refine ⟨by first | omega | (show _ ∧ _; omega) | (simp only [Int.toNat_natCast]; first | omega | (show _ ∧ _; omega)) | decide, ?_⟩; conv => whnf) | fail)
  all_goals (refine congrArg vi ?_; simp only [decide_eq_true_eq, decide_eq_false_iff_not] at *; unfold brought; repeat' split) <;> first | contradiction | omega

theorem specOwnerOf (key n : Int) (hn : n ≤ 9223372036854775807) : Meets Try.prog 54 [.one (vi key), .one (vi n)] [.one (vi (ownerOf key n))] := by
  refine enterW tbl_ok false Try.func54 rfl (by decide) fun W => ?_
  conv => whnf
  refine ⟨fun h => have h := of_decide_eq_true h; ?_, fun h => have h := of_decide_eq_false h; ?_⟩ <;> conv => whnf
  · exact retW tbl_ok rfl rfl ⟨congrArg vi (by rw [ownerOf, if_pos h]), trivial⟩
  have h1 := Int.tmod_lt_of_pos key (show 0 < n by omega)
  have h2 := Int.lt_tmod_of_pos key (show 0 < n by omega)
  (repeat (refine ⟨by first | omega | (show _ ∧ _; omega) | (simp only [Int.toNat_natCast]; first | omega | (show _ ∧ _; omega)) | decide, ?_⟩; conv => whnf))
  refine ⟨fun h' => have h' := of_decide_eq_true h'; ?_, fun h' => have h' := of_decide_eq_false h'; ?_⟩ <;> conv => whnf
  · (repeat (refine ⟨by first | omega | (show _ ∧ _; omega) | (simp only [Int.toNat_natCast]; first | omega | (show _ ∧ _; omega)) | decide, ?_⟩; conv => whnf))
    exact retW tbl_ok rfl rfl ⟨congrArg vi (by rw [ownerOf, if_neg h, if_pos h']), trivial⟩
  · exact retW tbl_ok rfl rfl ⟨congrArg vi (by rw [ownerOf, if_neg h, if_neg h']), trivial⟩

theorem implOwnerOf (key n : Int) (hn : n ≤ 9223372036854775807) : Meets Try.prog 56 [.one (vi key), .one (vi n)] [.one (vi (ownerOf key n))] := by
  refine enterW tbl_ok false Try.func56 rfl (by decide) fun W => ?_
  conv => whnf
  refine ⟨fun h => have h := of_decide_eq_true h; ?_, fun h => have h := of_decide_eq_false h; ?_⟩ <;> conv => whnf
  · exact retW tbl_ok rfl rfl ⟨congrArg vi (by rw [ownerOf, if_pos h]), trivial⟩
  have h1 := Int.tmod_lt_of_pos key (show 0 < n by omega)
  have h2 := Int.lt_tmod_of_pos key (show 0 < n by omega)
  (repeat (refine ⟨by first | omega | (show _ ∧ _; omega) | (simp only [Int.toNat_natCast]; first | omega | (show _ ∧ _; omega)) | decide, ?_⟩; conv => whnf))
  refine ⟨fun h' => have h' := of_decide_eq_true h'; ?_, fun h' => have h' := of_decide_eq_false h'; ?_⟩ <;> conv => whnf
  · (repeat (refine ⟨by first | omega | (show _ ∧ _; omega) | (simp only [Int.toNat_natCast]; first | omega | (show _ ∧ _; omega)) | decide, ?_⟩; conv => whnf))
    exact retW tbl_ok rfl rfl ⟨congrArg vi (by rw [ownerOf, if_neg h, if_pos h']), trivial⟩
  · exact retW tbl_ok rfl rfl ⟨congrArg vi (by rw [ownerOf, if_neg h, if_neg h']), trivial⟩

abbrev sRR (xs : List (List GRecord)) : Cell := slC 1 (fun r => [sGRecord r]) xs

theorem specSplitInputs (xs : List GRecord) (w : Int) (hx : xs.length ≤ 1048576) : Meets Try.prog 27 [.one (sGRecord xs), .one (vi w)] [.one (sRR (splitIn xs (brought w 0 4).toNat))] := by
  have hb := brought_range w 0 4 (by decide)
  obtain ⟨n, hn⟩ : ∃ n : Nat, brought w 0 4 = n := ⟨(brought w 0 4).toNat, by omega⟩
  have hs := splitIn_length xs n
  refine enterW tbl_ok false Try.func27 rfl (by decide) fun W => ?_
  conv => whnf
  refine callR (specBrought w 0 4) rfl (go tbl_ok false ?_)
  conv => whnf
  rw [hn]
  refine castW 0 (sRR []) rfl nil_cast ?_
  refine loopW tbl_ok false [10] (fun k : Nat => [(7, .c (vi k))]) (fun k => []) (fun k => [⟨0, sRR ((splitIn xs n).take k)⟩])
    (fun k => k ≤ n) (fun k => n - k) 0 (Nat.zero_le _) ⟨by first | rfl | simp [nth, ren2, ren1, ren0], trivial⟩ trivial ⟨by first | rfl | simp, trivial⟩ trivial (by kernel_rfl) (fun k hk => ?_)
  conv => whnf
  refine ⟨fun h => have h := of_decide_eq_true h; ?_, fun h => have h := of_decide_eq_false h; ?_⟩ <;> conv => whnf
  · have h : k < n := by omega
    have ht := take_snoc (splitIn xs n) k (by omega)
    rw [splitIn_getD xs n k h] at ht
    refine castW 1 (sGRecord []) rfl nil_cast ?_
    refine loopW tbl_ok false [18] (fun j : Nat => [(9, .c (vi j))]) (fun _ => []) (fun j => [⟨1, sGRecord ((xs.take j).filter fun r => ownerOf r.key n == k)⟩, ⟨0, sRR ((splitIn xs n).take k)⟩])
      (fun j => j ≤ xs.length) (fun j => xs.length - j) 0 (Nat.zero_le _) ⟨rfl, trivial⟩ trivial ⟨rfl, rfl, trivial⟩ trivial (by kernel_rfl) (fun j hj => ?_)
    conv => whnf
    refine ⟨fun h' => have h' := of_decide_eq_true h'; ?_, fun h' => have h' := of_decide_eq_false h'; ?_⟩ <;> conv => whnf
    · have h' : j < xs.length := by omega
      have hf := filter_take (fun r => ownerOf r.key n == k) xs j h'
      have hg := filter_take_len (fun r => ownerOf r.key n == (k : Int)) xs j
      (repeat (refine ⟨by first | omega | (show _ ∧ _; omega) | (simp only [Int.toNat_natCast]; first | omega | (show _ ∧ _; omega)) | decide, ?_⟩; conv => whnf))
      refine callR (specOwnerOf (xs.getD j default).key n (by omega)) rfl (go tbl_ok false ?_)
      conv => whnf
      refine ⟨fun hc => ?_, fun hc => ?_⟩ <;> conv => whnf
      · (repeat (refine ⟨by first | omega | (show _ ∧ _; omega) | (simp only [Int.toNat_natCast]; first | omega | (show _ ∧ _; omega)) | decide, ?_⟩; conv => whnf))
        refine appW tbl_ok rfl rfl rfl rfl rfl rfl rfl rfl rfl rfl rfl (sGRecord ((xs.take j).filter (fun r => ownerOf r.key n == k) ++ [xs.getD j default])) (slC_snoc rfl) (by intro h; cases h) (by omega) (go tbl_ok false ?_)
        conv => whnf
        (repeat (refine ⟨by first | omega | (show _ ∧ _; omega) | (simp only [Int.toNat_natCast]; first | omega | (show _ ∧ _; omega)) | decide, ?_⟩; conv => whnf))
        refine loopE [(1, 3)] (j + 1) (by omega) (by omega) ⟨rfl, trivial⟩ ⟨?_, rfl, trivial⟩ trivial (by kernel_rfl) trivial (by kernel_rfl)
        exact congrArg sGRecord (by rw [hf, if_pos hc])
      · (repeat (refine ⟨by first | omega | (show _ ∧ _; omega) | (simp only [Int.toNat_natCast]; first | omega | (show _ ∧ _; omega)) | decide, ?_⟩; conv => whnf))
        refine loopE [] (j + 1) (by omega) (by omega) ⟨rfl, trivial⟩ ⟨?_, rfl, trivial⟩ trivial (by kernel_rfl) trivial (by kernel_rfl)
        exact congrArg sGRecord (by rw [hf, if_neg (by rw [hc]; decide), List.append_nil])
    · rw [take_all xs j (by omega)]
      refine buildW tbl_ok rfl rfl rfl rfl rfl rfl rfl rfl rfl (go tbl_ok false ?_)
      conv => whnf
      refine appW tbl_ok rfl rfl rfl rfl rfl rfl rfl rfl rfl rfl rfl (sRR ((splitIn xs n).take k ++ [xs.filter fun r => ownerOf r.key n == k])) (slC_snoc rfl) (by intro h; cases h) (by simp only [List.length_take]; omega) (go tbl_ok false ?_)
      conv => whnf
      (repeat (refine ⟨by first | omega | (show _ ∧ _; omega) | (simp only [Int.toNat_natCast]; first | omega | (show _ ∧ _; omega)) | decide, ?_⟩; conv => whnf))
      refine loopE [(0, 3)] (k + 1) (by omega) (by omega) ⟨rfl, trivial⟩ ⟨congrArg sRR ht.symm, trivial⟩ trivial (by kernel_rfl) trivial (by kernel_rfl)
  · refine retW tbl_ok rfl rfl ⟨?_, trivial⟩
    exact congrArg sRR (take_all _ _ (by omega))

theorem splitIn_nil (n : Nat) : splitIn [] n = List.replicate n default := by
  simp only [splitIn, List.filter_nil]
  rw [List.map_const', List.length_range]; rfl

theorem implSplitInputs (xs : List GRecord) (w : Int) (hx : xs.length ≤ 1048576) : Meets Try.prog 28 [.one (sGRecord xs), .one (vi w)] [.one (sRR (splitIn xs (brought w 0 4).toNat))] := by
  have hb := brought_range w 0 4 (by decide)
  obtain ⟨n, hn⟩ : ∃ n : Nat, brought w 0 4 = n := ⟨(brought w 0 4).toNat, by omega⟩
  refine enterW tbl_ok false Try.func28 rfl (by decide) fun W => ?_
  conv => whnf
  refine callR (implBrought w 0 4) rfl (go tbl_ok false ?_)
  conv => whnf
  rw [hn]
  (repeat (refine ⟨by first | omega | (show _ ∧ _; omega) | (simp only [Int.toNat_natCast]; first | omega | (show _ ∧ _; omega)) | decide, ?_⟩; conv => whnf))
  refine castW 0 (sRR (List.replicate n default)) rfl (cast_make (α := List GRecord) (e := fun r => [sGRecord r]) n ⟨.nil _ _, trivial⟩) ?_
  rw [← splitIn_nil n]
  refine loopW tbl_ok false [] (fun k : Nat => [(16, .c (vi k))]) (fun k => []) (fun k => [⟨0, sRR (splitIn (xs.take k) n)⟩])
    (fun k => k ≤ xs.length) (fun k => xs.length - k) 0 (Nat.zero_le _) ⟨by first | rfl | simp [nth, ren2, ren1, ren0], trivial⟩ trivial ⟨by first | rfl | simp, trivial⟩ trivial (by kernel_rfl) (fun k hk => ?_)
  conv => whnf
  refine ⟨fun h => have h := of_decide_eq_true h; ?_, fun h => have h := of_decide_eq_false h; ?_⟩ <;> conv => whnf
  · have h : k < xs.length := by omega
    have hs := splitIn_length (xs.take k) n
    have ht := take_snoc xs k h
    (repeat (refine ⟨by first | omega | (show _ ∧ _; omega) | (simp only [Int.toNat_natCast]; first | omega | (show _ ∧ _; omega)) | decide, ?_⟩; conv => whnf))
    refine ⟨fun hc => have hc := of_decide_eq_true hc; ?_, fun hc => have hc := of_decide_eq_false hc; ?_⟩ <;> conv => whnf
    · have hr := ownerOf_range (xs.getD k default).key n (by omega)
      obtain ⟨j, hj⟩ : ∃ j : Nat, ownerOf (xs.getD k default).key n = j := ⟨(ownerOf (xs.getD k default).key n).toNat, by omega⟩
      have hl := splitIn_len (xs.take k) n _ (getD_mem (d := default) (k := j) (by omega))
      have hk' : (xs.take k).length ≤ xs.length := List.length_take_le' _ _
      refine callR (implOwnerOf (xs.getD k default).key n (by omega)) rfl (go tbl_ok false ?_)
      conv => whnf
      rw [hj]
      first | (refine drawI 8 rfl [0, 1, 2, 3, 4, 5, 6, 7, 8, 9, 10] (by kernel_rfl) (go tbl_ok false ?_); conv => whnf)
      (repeat (refine ⟨by first | omega | (show _ ∧ _; omega) | (simp only [Int.toNat_natCast]; first | omega | (show _ ∧ _; omega)) | decide, ?_⟩; conv => whnf))
      refine focusX (j := j) (off := 0) (r := [sGRecord ((splitIn (xs.take k) n).getD j default)]) (c := sGRecord ((splitIn (xs.take k) n).getD j default)) tbl_ok rfl rfl rfl rfl rfl rfl rfl rfl (fun v => go tbl_ok false ?_)
      conv => whnf
      refine appW tbl_ok rfl rfl rfl rfl rfl rfl rfl rfl rfl rfl rfl (sGRecord ((splitIn (xs.take k) n).getD j default ++ [xs.getD k default])) (slC_snoc rfl) (by intro h; cases h) (by omega) (go tbl_ok false ?_)
      conv => whnf
      (repeat (refine ⟨by first | omega | (show _ ∧ _; omega) | (simp only [Int.toNat_natCast]; first | omega | (show _ ∧ _; omega)) | decide, ?_⟩; conv => whnf))
      refine storeW (j := (j : Int)) tbl_ok rfl rfl rfl rfl rfl rfl rfl rfl _ (slC_back1 (j := j) (xs := splitIn (xs.take k) n) (e := fun r => [sGRecord r]) (x2 := (splitIn (xs.take k) n).getD j default ++ [xs.getD k default]) (by omega) (by exact rfl)) (go tbl_ok false ?_)
      conv => whnf
      (repeat (refine ⟨by first | omega | (show _ ∧ _; omega) | (simp only [Int.toNat_natCast]; first | omega | (show _ ∧ _; omega)) | decide, ?_⟩; conv => whnf))
      refine loopE [] (k + 1) (by omega) (by omega) ⟨rfl, trivial⟩ ⟨congrArg sRR (by rw [ht]; exact splitIn_snoc _ _ _ j hj (by omega)), trivial⟩ trivial (by kernel_rfl) trivial (by kernel_rfl)
    · have h0 : n = 0 := by omega
      subst h0
      (repeat (refine ⟨by first | omega | (show _ ∧ _; omega) | (simp only [Int.toNat_natCast]; first | omega | (show _ ∧ _; omega)) | decide, ?_⟩; conv => whnf))
      refine loopE [] (k + 1) (by omega) (by omega) ⟨rfl, trivial⟩ ⟨rfl, trivial⟩ trivial (by kernel_rfl) trivial (by kernel_rfl)
  · refine retW tbl_ok rfl rfl ⟨?_, trivial⟩
    exact congrArg (fun l => sRR (splitIn l n)) (take_all _ _ (by omega))

end Go.Proofs.Ytbmnagjpkhlncaa
