/- Texts for the law FnSchedules: WWo. No conditions. -/
import Derived.Test.YtcpjpkcahnldfaaH2

set_option maxRecDepth 100000
namespace Go.Proofs.Ytcpjpkcahnldfaa
open Go.Sx
def names (p : GPick) (w : Int) : Bool :=
  if p.kind == 1 then p.a == w else if p.kind == 2 then p.a == w else if p.kind == 3 then p.a == w else if p.kind == 7 then p.a == w
  else if p.kind == 4 then (if p.a == w then true else p.b == w) else if p.kind == 5 then (if p.a == w then true else p.b == w) else false

def without (xs : List GPick) (w : Int) : List GPick := xs.filter fun p => !names p w

theorem l25Names (p : GPick) (w : Int) : Meets Try.prog 33 [.agg p.c, .one (vi w)] [.one (vb (names p w))] := by
  refine enterW tbl_ok false Try.func33 rfl (by decide) fun W => ?_
  conv => whnf
  repeat' (first | (refine ite_f (by first | with_reducible rfl | assumption) ?_; conv => whnf) | (refine ite_t (by first | with_reducible rfl | assumption) ?_; conv => whnf) | (refine ⟨fun h => ?_, fun h => ?_⟩ <;> conv => whnf) | (refine retW tbl_ok rfl rfl ⟨?_, trivial⟩; conv => whnf) | (refine ⟨by first | omega | (simp only [ByteArray.size_append, bsz, List.size_toArray, List.length_cons, List.length_nil]; omega) | (show _ ∧ _; omega) | (simp only [Int.toNat_natCast]; first | omega | (show _ ∧ _; omega)) | decide, ?_⟩; conv => whnf) | fail)
  all_goals (refine congrArg vb ?_; simp only [names, *, reduceIte, Bool.false_eq_true])

theorem specWithoutWorker (xs : List GPick) (w : Int) (hx : xs.length ≤ 1048576) : Meets Try.prog 17 [.one (sGPick xs), .one (vi w)] [.one (sGPick (without xs w))] := by
  refine enterW tbl_ok false Try.func17 rfl (by decide) fun W => ?_
  conv => whnf
  refine castW 0 (sGPick []) rfl (cast_slC (xs := ([] : List GPick)) (fun i hi => nomatch hi)) ?_
  refine loopW tbl_ok false [7] (fun k : Nat => [(6, .c (vi k))]) (fun _ => []) (fun k => [⟨0, sGPick (without (xs.take k) w)⟩])
    (fun k => k ≤ xs.length) (fun k => xs.length - k) 0 (Nat.zero_le _) ⟨rfl, trivial⟩ trivial ⟨rfl, trivial⟩ trivial (by kernel_rfl) (fun k hk => ?_)
  conv => whnf
  refine ⟨fun h => have h := of_decide_eq_true h; ?_, fun h => have h := of_decide_eq_false h; ?_⟩ <;> conv => whnf
  · have h : k < xs.length := by omega
    have hs := filter_take (fun p => !names p w) xs k h
    have hb := filter_take_len (fun p => !names p w) xs k
    (repeat (refine ⟨by first | omega | (simp only [ByteArray.size_append, bsz, List.size_toArray, List.length_cons, List.length_nil]; omega) | (show _ ∧ _; omega) | (simp only [Int.toNat_natCast]; first | omega | (show _ ∧ _; omega)) | decide, ?_⟩; conv => whnf))
    refine callR (l25Names (xs.getD k default) w) rfl (go tbl_ok false ?_)
    conv => whnf
    refine ⟨fun h' => ?_, fun h' => ?_⟩ <;> conv => whnf
    · (repeat (refine ⟨by first | omega | (simp only [ByteArray.size_append, bsz, List.size_toArray, List.length_cons, List.length_nil]; omega) | (show _ ∧ _; omega) | (simp only [Int.toNat_natCast]; first | omega | (show _ ∧ _; omega)) | decide, ?_⟩; conv => whnf))
      refine appW tbl_ok rfl rfl rfl rfl rfl rfl rfl rfl rfl rfl rfl (sGPick (without (xs.take k) w ++ [xs.getD k default])) (slC_snoc rfl) (by intro h; cases h) (by show (List.filter _ _).length + 1 ≤ _; omega) (go tbl_ok false ?_)
      conv => whnf
      (repeat (refine ⟨by first | omega | (simp only [ByteArray.size_append, bsz, List.size_toArray, List.length_cons, List.length_nil]; omega) | (show _ ∧ _; omega) | (simp only [Int.toNat_natCast]; first | omega | (show _ ∧ _; omega)) | decide, ?_⟩; conv => whnf))
      refine loopE [(0, 2)] (k + 1) (by omega) (by omega) ⟨rfl, trivial⟩ ⟨?_, trivial⟩ trivial (by kernel_rfl) trivial (by kernel_rfl)
      refine congrArg sGPick ?_
      simp only [without]
      rw [hs, if_pos h']
    · (repeat (refine ⟨by first | omega | (simp only [ByteArray.size_append, bsz, List.size_toArray, List.length_cons, List.length_nil]; omega) | (show _ ∧ _; omega) | (simp only [Int.toNat_natCast]; first | omega | (show _ ∧ _; omega)) | decide, ?_⟩; conv => whnf))
      refine loopE [] (k + 1) (by omega) (by omega) ⟨rfl, trivial⟩ ⟨?_, trivial⟩ trivial (by kernel_rfl) trivial (by kernel_rfl)
      refine congrArg sGPick ?_
      simp only [without]
      rw [hs, if_neg (by rw [h']; decide), List.append_nil]
  · refine retW tbl_ok rfl rfl ⟨?_, trivial⟩
    exact congrArg sGPick (by rw [List.take_of_length_le (by omega)])

theorem implWithoutWorker (xs : List GPick) (w : Int) (hx : xs.length ≤ 1048576) : Meets Try.prog 13 [.one (sGPick xs), .one (vi w)] [.one (sGPick (without xs w))] := by
  refine enterW tbl_ok false Try.func13 rfl (by decide) fun W => ?_
  conv => whnf
  refine nilW 5 3 (fun i => GPick.c (([] : List GPick).getD i default)) rfl ?_
  refine loopW tbl_ok false [] (fun k : Nat => [(11, .c (vi k))]) (fun _ => []) (fun k => [⟨0, sGPick (without (xs.take k) w)⟩])
    (fun k => k ≤ xs.length) (fun k => xs.length - k) 0 (Nat.zero_le _) ⟨rfl, trivial⟩ trivial ⟨rfl, trivial⟩ trivial (by kernel_rfl) (fun k hk => ?_)
  conv => whnf
  refine ⟨fun h => have h := of_decide_eq_true h; ?_, fun h => have h := of_decide_eq_false h; ?_⟩ <;> conv => whnf
  · have h : k < xs.length := by omega
    have hs := filter_take (fun p => !names p w) xs k h
    have hb := filter_take_len (fun p => !names p w) xs k
    (repeat (refine ⟨by first | omega | (simp only [ByteArray.size_append, bsz, List.size_toArray, List.length_cons, List.length_nil]; omega) | (show _ ∧ _; omega) | (simp only [Int.toNat_natCast]; first | omega | (show _ ∧ _; omega)) | decide, ?_⟩; conv => whnf))
    simp only [Int.toNat_natCast]
    generalize hy : xs.getD k default = y at hs
    have hn : (if (!names y w) = true then [y] else []) = if names y w = true then [] else [y] := by cases names y w <;> rfl
    rw [hn] at hs
    repeat' (first | (refine ite_f (by first | with_reducible rfl | assumption) ?_; conv => whnf) | (refine ite_t (by first | with_reducible rfl | assumption) ?_; conv => whnf) | (refine ⟨fun h => ?_, fun h => ?_⟩ <;> conv => whnf) | (refine ⟨by first | omega | (simp only [ByteArray.size_append, bsz, List.size_toArray, List.length_cons, List.length_nil]; omega) | (show _ ∧ _; omega) | (simp only [Int.toNat_natCast]; first | omega | (show _ ∧ _; omega)) | decide, ?_⟩; conv => whnf) | fail)
    all_goals first
      | (refine loopE [] (k + 1) (by omega) (by omega) ⟨rfl, trivial⟩ ⟨?_, trivial⟩ trivial (by kernel_rfl) trivial (by kernel_rfl)
         refine congrArg sGPick ?_
         simp only [without]
         rw [hs, if_pos (by clear hs hb hn hy; simp_all [names]), List.append_nil])
      | (refine appW tbl_ok rfl rfl rfl rfl rfl rfl rfl rfl rfl rfl rfl (sGPick (without (xs.take k) w ++ [y])) (slC_snoc rfl) (by intro h; cases h) (by show (List.filter _ _).length + 1 ≤ _; omega) (go tbl_ok false ?_)
         conv => whnf
         refine ⟨by first | omega | (show _ ∧ _; omega), ?_⟩
         conv => whnf
         refine loopE [(0, 3)] (k + 1) (by omega) (by omega) ⟨rfl, trivial⟩ ⟨?_, trivial⟩ trivial (by kernel_rfl) trivial (by kernel_rfl)
         refine congrArg sGPick ?_
         simp only [without]
         rw [hs, if_neg (by clear hs hb hn hy; simp_all [names])])
  · refine retW tbl_ok rfl rfl ⟨?_, trivial⟩
    exact congrArg sGPick (by rw [List.take_of_length_le (by omega)])

end Go.Proofs.Ytcpjpkcahnldfaa
