/- Texts for the law FnExactRoundTold: WPass. No conditions. -/
import Derived.Test.YtlbmkgkmbjadcaaGreatEng4
import Derived.Test.YtlbmkgkmbjadcaaGreatH2

set_option maxRecDepth 100000
namespace Go.Proofs.YtlbmkgkmbjadcaaGreat
open Go.Sx
theorem specOfEpoch (xs : List GRecord) (e : Int) (hx : xs.length ≤ 16777216) : Meets Tryz.prog 242 [.one (sGRecord xs), .one (vi e)] [.one (sGRecord (ofEpoch xs e))] := by
  refine enterW tbl_ok false Tryz.func242 rfl (by decide) fun W => ?_
  conv => whnf
  refine castW 0 (sGRecord []) rfl nil_cast ?_
  refine loopW tbl_ok false [7] (fun k : Nat => [(6, .c (vi k))]) (fun k => []) (fun k => [⟨0, sGRecord (ofEpoch (xs.take k) e)⟩])
    (fun k => k ≤ xs.length) (fun k => xs.length - k) 0 (Nat.zero_le _) ⟨by first | rfl | simp [nth, ren2, ren1, ren0], trivial⟩ trivial ⟨by first | rfl | exact (congrArg (fun l => slC _ _ l) (List.append_nil _)).symm | (show (_ : Cell) = _; simp) | simp, trivial⟩ trivial (by kernel_rfl) (fun k hk => ?_)
  conv => whnf
  refine ⟨fun h => have h := of_decide_eq_true h; ?_, fun h => have h := of_decide_eq_false h; ?_⟩ <;> conv => whnf
  · have h : k < xs.length := by omega
    have hs := filter_take (fun r => r.stamp.epoch == e) xs k h
    have hb := filter_take_len (fun r => r.stamp.epoch == e) xs k
    (repeat (refine ⟨by first | omega | (show _ ∧ _; omega) | ((repeat (first | rw [ByteArray.size_append] | rw [bsz] | rw [List.size_toArray] | rw [List.length_cons] | rw [List.length_nil])) <;> omega) | ((repeat rw [Int.toNat_natCast]) <;> first | omega | (show _ ∧ _; omega)) | (simp only [ByteArray.size_append, bsz, List.size_toArray, List.length_cons, List.length_nil]; omega) | (simp only [Int.toNat_natCast]; first | omega | (show _ ∧ _; omega)) | decide, ?_⟩; conv => whnf))
    refine ⟨fun hc => ?_, fun hc => ?_⟩ <;> conv => whnf
    · (repeat (refine ⟨by first | omega | (show _ ∧ _; omega) | ((repeat (first | rw [ByteArray.size_append] | rw [bsz] | rw [List.size_toArray] | rw [List.length_cons] | rw [List.length_nil])) <;> omega) | ((repeat rw [Int.toNat_natCast]) <;> first | omega | (show _ ∧ _; omega)) | (simp only [ByteArray.size_append, bsz, List.size_toArray, List.length_cons, List.length_nil]; omega) | (simp only [Int.toNat_natCast]; first | omega | (show _ ∧ _; omega)) | decide, ?_⟩; conv => whnf))
      refine appW tbl_ok rfl rfl rfl rfl rfl rfl rfl rfl rfl rfl rfl (sGRecord (ofEpoch (xs.take k) e ++ [xs.getD k default])) (slC_snoc rfl) (by intro h; cases h) (by show (List.filter _ _).length + 1 ≤ _; omega) (go tbl_ok false ?_)
      conv => whnf
      (repeat (refine ⟨by first | omega | (show _ ∧ _; omega) | ((repeat (first | rw [ByteArray.size_append] | rw [bsz] | rw [List.size_toArray] | rw [List.length_cons] | rw [List.length_nil])) <;> omega) | ((repeat rw [Int.toNat_natCast]) <;> first | omega | (show _ ∧ _; omega)) | (simp only [ByteArray.size_append, bsz, List.size_toArray, List.length_cons, List.length_nil]; omega) | (simp only [Int.toNat_natCast]; first | omega | (show _ ∧ _; omega)) | decide, ?_⟩; conv => whnf))
      refine loopE [(0, 2)] (k + 1) (by omega) (by omega) ⟨rfl, trivial⟩ ⟨congrArg sGRecord (by show _ = List.filter _ _; rw [hs]; exact congrArg (fun l => List.filter _ (xs.take k) ++ l) (if_pos hc).symm), trivial⟩ trivial (by kernel_rfl) trivial (by kernel_rfl)
    · (repeat (refine ⟨by first | omega | (show _ ∧ _; omega) | ((repeat (first | rw [ByteArray.size_append] | rw [bsz] | rw [List.size_toArray] | rw [List.length_cons] | rw [List.length_nil])) <;> omega) | ((repeat rw [Int.toNat_natCast]) <;> first | omega | (show _ ∧ _; omega)) | (simp only [ByteArray.size_append, bsz, List.size_toArray, List.length_cons, List.length_nil]; omega) | (simp only [Int.toNat_natCast]; first | omega | (show _ ∧ _; omega)) | decide, ?_⟩; conv => whnf))
      refine loopE [] (k + 1) (by omega) (by omega) ⟨rfl, trivial⟩ ⟨congrArg sGRecord (by show _ = List.filter _ _; rw [hs]; exact (List.append_nil _).symm.trans (congrArg (fun l => List.filter _ (xs.take k) ++ l) (if_neg (Bool.eq_false_iff.1 hc)).symm)), trivial⟩ trivial (by kernel_rfl) trivial (by kernel_rfl)
  · refine retW tbl_ok rfl rfl ⟨?_, trivial⟩
    exact congrArg (fun l => sGRecord (ofEpoch l e)) (take_all xs k (by omega))

theorem implOfEpoch (xs : List GRecord) (e : Int) (hx : xs.length ≤ 16777216) : Meets Tryz.prog 100 [.one (sGRecord xs), .one (vi e)] [.one (sGRecord (ofEpoch xs e))] := by
  refine enterW tbl_ok false Tryz.func100 rfl (by decide) fun W => ?_
  conv => whnf
  refine nilW 5 5 (fun i => GRecord.c (([] : List GRecord).getD i default)) rfl ?_
  refine loopW tbl_ok false [] (fun k : Nat => [(10, .c (vi k))]) (fun k => []) (fun k => [⟨0, sGRecord (ofEpoch (xs.take k) e)⟩])
    (fun k => k ≤ xs.length) (fun k => xs.length - k) 0 (Nat.zero_le _) ⟨by first | rfl | simp [nth, ren2, ren1, ren0], trivial⟩ trivial ⟨by first | rfl | exact (congrArg (fun l => slC _ _ l) (List.append_nil _)).symm | (show (_ : Cell) = _; simp) | simp, trivial⟩ trivial (by kernel_rfl) (fun k hk => ?_)
  conv => whnf
  refine ⟨fun h => have h := of_decide_eq_true h; ?_, fun h => have h := of_decide_eq_false h; ?_⟩ <;> conv => whnf
  · have h : k < xs.length := by omega
    have hs := filter_take (fun r => r.stamp.epoch == e) xs k h
    have hb := filter_take_len (fun r => r.stamp.epoch == e) xs k
    (repeat (refine ⟨by first | omega | (show _ ∧ _; omega) | ((repeat (first | rw [ByteArray.size_append] | rw [bsz] | rw [List.size_toArray] | rw [List.length_cons] | rw [List.length_nil])) <;> omega) | ((repeat rw [Int.toNat_natCast]) <;> first | omega | (show _ ∧ _; omega)) | (simp only [ByteArray.size_append, bsz, List.size_toArray, List.length_cons, List.length_nil]; omega) | (simp only [Int.toNat_natCast]; first | omega | (show _ ∧ _; omega)) | decide, ?_⟩; conv => whnf))
    refine ⟨fun hc => ?_, fun hc => ?_⟩ <;> conv => whnf
    · (repeat (refine ⟨by first | omega | (show _ ∧ _; omega) | ((repeat (first | rw [ByteArray.size_append] | rw [bsz] | rw [List.size_toArray] | rw [List.length_cons] | rw [List.length_nil])) <;> omega) | ((repeat rw [Int.toNat_natCast]) <;> first | omega | (show _ ∧ _; omega)) | (simp only [ByteArray.size_append, bsz, List.size_toArray, List.length_cons, List.length_nil]; omega) | (simp only [Int.toNat_natCast]; first | omega | (show _ ∧ _; omega)) | decide, ?_⟩; conv => whnf))
      refine appW tbl_ok rfl rfl rfl rfl rfl rfl rfl rfl rfl rfl rfl (sGRecord (ofEpoch (xs.take k) e ++ [xs.getD k default])) (slC_snoc rfl) (by intro h; cases h) (by show (List.filter _ _).length + 1 ≤ _; omega) (go tbl_ok false ?_)
      conv => whnf
      (repeat (refine ⟨by first | omega | (show _ ∧ _; omega) | ((repeat (first | rw [ByteArray.size_append] | rw [bsz] | rw [List.size_toArray] | rw [List.length_cons] | rw [List.length_nil])) <;> omega) | ((repeat rw [Int.toNat_natCast]) <;> first | omega | (show _ ∧ _; omega)) | (simp only [ByteArray.size_append, bsz, List.size_toArray, List.length_cons, List.length_nil]; omega) | (simp only [Int.toNat_natCast]; first | omega | (show _ ∧ _; omega)) | decide, ?_⟩; conv => whnf))
      refine loopE [(0, 3)] (k + 1) (by omega) (by omega) ⟨rfl, trivial⟩ ⟨congrArg sGRecord (by show _ = List.filter _ _; rw [hs]; exact congrArg (fun l => List.filter _ (xs.take k) ++ l) (if_pos hc).symm), trivial⟩ trivial (by kernel_rfl) trivial (by kernel_rfl)
    · (repeat (refine ⟨by first | omega | (show _ ∧ _; omega) | ((repeat (first | rw [ByteArray.size_append] | rw [bsz] | rw [List.size_toArray] | rw [List.length_cons] | rw [List.length_nil])) <;> omega) | ((repeat rw [Int.toNat_natCast]) <;> first | omega | (show _ ∧ _; omega)) | (simp only [ByteArray.size_append, bsz, List.size_toArray, List.length_cons, List.length_nil]; omega) | (simp only [Int.toNat_natCast]; first | omega | (show _ ∧ _; omega)) | decide, ?_⟩; conv => whnf))
      refine loopE [] (k + 1) (by omega) (by omega) ⟨rfl, trivial⟩ ⟨congrArg sGRecord (by show _ = List.filter _ _; rw [hs]; exact (List.append_nil _).symm.trans (congrArg (fun l => List.filter _ (xs.take k) ++ l) (if_neg (Bool.eq_false_iff.1 hc)).symm)), trivial⟩ trivial (by kernel_rfl) trivial (by kernel_rfl)
  · refine retW tbl_ok rfl rfl ⟨?_, trivial⟩
    exact congrArg (fun l => sGRecord (ofEpoch l e)) (take_all xs k (by omega))

theorem idxfRecord (xs : List GRecord) (hx : xs.length ≤ 16777216) (f : Nat) (cs : List Cell) (p : GRecord → Bool) (hf : ∀ x ∈ xs, Meets Tryz.prog f [.agg x.c, .ptr cs] [.one (vb (p x))]) :
    Meets Tryz.prog 244 [.one (sGRecord xs), .fn f [.ptr cs]] [.one (vi (findI p xs))] := by
  refine enterW tbl_ok false Tryz.func244 rfl (by decide) fun W => ?_
  conv => whnf
  refine loopW tbl_ok false [] (fun k : Nat => [(8, .c (vi k))]) (fun k => []) (fun k => [])
    (fun k => k ≤ xs.length ∧ (xs.take k).any p = false) (fun k => xs.length - k) 0 ⟨Nat.zero_le _, by first | rfl | assumption | simp⟩ ⟨by first | rfl | simp [nth, ren2, ren1, ren0], trivial⟩ trivial trivial trivial (by kernel_rfl) (fun k hk => ?_)
  obtain ⟨hk, he⟩ := hk
  conv => whnf
  refine ⟨fun h => have h := of_decide_eq_true h; ?_, fun h => have h := of_decide_eq_false h; ?_⟩ <;> conv => whnf
  · have h : k < xs.length := by omega
    (repeat (refine ⟨by first | omega | (show _ ∧ _; omega) | ((repeat (first | rw [ByteArray.size_append] | rw [bsz] | rw [List.size_toArray] | rw [List.length_cons] | rw [List.length_nil])) <;> omega) | ((repeat rw [Int.toNat_natCast]) <;> first | omega | (show _ ∧ _; omega)) | (simp only [ByteArray.size_append, bsz, List.size_toArray, List.length_cons, List.length_nil]; omega) | (simp only [Int.toNat_natCast]; first | omega | (show _ ∧ _; omega)) | decide, ?_⟩; conv => whnf))
    refine callR (hf (xs.getD k default) (getD_mem h)) rfl (go tbl_ok false ?_)
    conv => whnf
    refine ⟨fun hc => ?_, fun hc => ?_⟩ <;> conv => whnf
    · exact retW tbl_ok rfl rfl ⟨congrArg vi (findI_of p xs k he h hc), trivial⟩
    · (repeat (refine ⟨by first | omega | (show _ ∧ _; omega) | ((repeat (first | rw [ByteArray.size_append] | rw [bsz] | rw [List.size_toArray] | rw [List.length_cons] | rw [List.length_nil])) <;> omega) | ((repeat rw [Int.toNat_natCast]) <;> first | omega | (show _ ∧ _; omega)) | (simp only [ByteArray.size_append, bsz, List.size_toArray, List.length_cons, List.length_nil]; omega) | (simp only [Int.toNat_natCast]; first | omega | (show _ ∧ _; omega)) | decide, ?_⟩; conv => whnf))
      refine loopE [] (k + 1) ⟨by omega, any_take_false he h hc⟩ (by omega) ⟨rfl, trivial⟩ trivial trivial (by kernel_rfl) trivial (by kernel_rfl)
  · exact retW tbl_ok rfl rfl ⟨congrArg vi (findI_none p xs (by rw [take_all xs k (by omega)] at he; exact he)), trivial⟩

theorem contfRecord (xs : List GRecord) (hx : xs.length ≤ 16777216) (f : Nat) (cs : List Cell) (p : GRecord → Bool) (hf : ∀ x ∈ xs, Meets Tryz.prog f [.agg x.c, .ptr cs] [.one (vb (p x))]) :
    Meets Tryz.prog 228 [.one (sGRecord xs), .fn f [.ptr cs]] [.one (vb (xs.any p))] := by
  refine enterW tbl_ok false Tryz.func228 rfl (by decide) fun W => ?_
  conv => whnf
  refine callR (idxfRecord xs hx f cs p hf) rfl (go tbl_ok false ?_)
  conv => whnf
  exact retW tbl_ok rfl rfl ⟨congrArg vb (findI_any p xs).symm, trivial⟩

theorem idxfDone (xs : List GDone) (hx : xs.length ≤ 16777216) (f : Nat) (cs : List Cell) (p : GDone → Bool) (hf : ∀ x ∈ xs, Meets Tryz.prog f [.agg x.c, .ptr cs] [.one (vb (p x))]) :
    Meets Tryz.prog 243 [.one (sGDone xs), .fn f [.ptr cs]] [.one (vi (findI p xs))] := by
  refine enterW tbl_ok false Tryz.func243 rfl (by decide) fun W => ?_
  conv => whnf
  refine loopW tbl_ok false [] (fun k : Nat => [(8, .c (vi k))]) (fun k => []) (fun k => [])
    (fun k => k ≤ xs.length ∧ (xs.take k).any p = false) (fun k => xs.length - k) 0 ⟨Nat.zero_le _, by first | rfl | assumption | simp⟩ ⟨by first | rfl | simp [nth, ren2, ren1, ren0], trivial⟩ trivial trivial trivial (by kernel_rfl) (fun k hk => ?_)
  obtain ⟨hk, he⟩ := hk
  conv => whnf
  refine ⟨fun h => have h := of_decide_eq_true h; ?_, fun h => have h := of_decide_eq_false h; ?_⟩ <;> conv => whnf
  · have h : k < xs.length := by omega
    (repeat (refine ⟨by first | omega | (show _ ∧ _; omega) | ((repeat (first | rw [ByteArray.size_append] | rw [bsz] | rw [List.size_toArray] | rw [List.length_cons] | rw [List.length_nil])) <;> omega) | ((repeat rw [Int.toNat_natCast]) <;> first | omega | (show _ ∧ _; omega)) | (simp only [ByteArray.size_append, bsz, List.size_toArray, List.length_cons, List.length_nil]; omega) | (simp only [Int.toNat_natCast]; first | omega | (show _ ∧ _; omega)) | decide, ?_⟩; conv => whnf))
    refine callR (hf (xs.getD k default) (getD_mem h)) rfl (go tbl_ok false ?_)
    conv => whnf
    refine ⟨fun hc => ?_, fun hc => ?_⟩ <;> conv => whnf
    · exact retW tbl_ok rfl rfl ⟨congrArg vi (findI_of p xs k he h hc), trivial⟩
    · (repeat (refine ⟨by first | omega | (show _ ∧ _; omega) | ((repeat (first | rw [ByteArray.size_append] | rw [bsz] | rw [List.size_toArray] | rw [List.length_cons] | rw [List.length_nil])) <;> omega) | ((repeat rw [Int.toNat_natCast]) <;> first | omega | (show _ ∧ _; omega)) | (simp only [ByteArray.size_append, bsz, List.size_toArray, List.length_cons, List.length_nil]; omega) | (simp only [Int.toNat_natCast]; first | omega | (show _ ∧ _; omega)) | decide, ?_⟩; conv => whnf))
      refine loopE [] (k + 1) ⟨by omega, any_take_false he h hc⟩ (by omega) ⟨rfl, trivial⟩ trivial trivial (by kernel_rfl) trivial (by kernel_rfl)
  · exact retW tbl_ok rfl rfl ⟨congrArg vi (findI_none p xs (by rw [take_all xs k (by omega)] at he; exact he)), trivial⟩

theorem contfDone (xs : List GDone) (hx : xs.length ≤ 16777216) (f : Nat) (cs : List Cell) (p : GDone → Bool) (hf : ∀ x ∈ xs, Meets Tryz.prog f [.agg x.c, .ptr cs] [.one (vb (p x))]) :
    Meets Tryz.prog 226 [.one (sGDone xs), .fn f [.ptr cs]] [.one (vb (xs.any p))] := by
  refine enterW tbl_ok false Tryz.func226 rfl (by decide) fun W => ?_
  conv => whnf
  refine callR (idxfDone xs hx f cs p hf) rfl (go tbl_ok false ?_)
  conv => whnf
  exact retW tbl_ok rfl rfl ⟨congrArg vb (findI_any p xs).symm, trivial⟩


theorem openF (x : GRecord) (e : Int) : Meets Tryz.prog 229 [.agg x.c, .ptr [vi e]] [.one (vb (decide (x.stamp.epoch ≤ e)))] := by
  refine enterW tbl_ok false Tryz.func229 rfl (by decide) fun W => ?_
  conv => whnf
  exact retW tbl_ok rfl rfl ⟨rfl, trivial⟩
theorem doneF (x : GDone) (e : Int) : Meets Tryz.prog 227 [.agg x.c, .ptr [vi e]] [.one (vb (x.epoch == e))] := by
  refine enterW tbl_ok false Tryz.func227 rfl (by decide) fun W => ?_
  conv => whnf
  exact retW tbl_ok rfl rfl ⟨rfl, trivial⟩

theorem implOpenAt (x : GWorker) (e : Int) (h : x.w ≤ 16777216) : Meets Tryz.prog 184 [.agg x.c, .one (vi e)] [.one (vb (openAt x e))] := by
  refine enterW tbl_ok false Tryz.func184 rfl (by decide) fun W => ?_
  conv => whnf
  refine callR (contfRecord x.inputs (by simp only [GWorker.w] at h; omega) _ [vi e] (fun r => decide (r.stamp.epoch ≤ e)) (fun r _ => openF r e)) rfl (go tbl_ok false ?_)
  conv => whnf
  exact retW tbl_ok rfl rfl ⟨rfl, trivial⟩
theorem specOpenAt (x : GWorker) (e : Int) (h : x.w ≤ 16777216) : Meets Tryz.prog 220 [.agg x.c, .one (vi e)] [.one (vb (openAt x e))] := by
  have hl : x.inputs.length ≤ 16777216 := by simp only [GWorker.w] at h; omega
  refine enterW tbl_ok false Tryz.func220 rfl (by decide) fun W => ?_
  conv => whnf
  refine loopW tbl_ok false [] (fun k : Nat => [(5, .c (vi k))]) (fun k => [⟨0, [.c (sGRecord x.queue), .c (sGRecord x.staged), .c (sGRecord x.inputs), .c (sGCell x.cells), .c (sInt x.sums), .c (sBool x.black), .c (sBool x.caps), .c (sGDone x.dones)]⟩]) (fun k => [])
    (fun k => k ≤ x.inputs.length ∧ (x.inputs.take k).any (fun r => decide (r.stamp.epoch ≤ e)) = false) (fun k => x.inputs.length - k) 0 ⟨Nat.zero_le _, by first | rfl | assumption | simp⟩ ⟨by first | rfl | simp [nth, ren2, ren1, ren0], trivial⟩ (by repeat' (first | exact trivial | exact rfl | refine ⟨?_, ?_⟩)) trivial trivial (by kernel_rfl) (fun k hk => ?_)
  obtain ⟨hk, he⟩ := hk
  conv => whnf
  refine ⟨fun h => have h := of_decide_eq_true h; ?_, fun h => have h := of_decide_eq_false h; ?_⟩ <;> conv => whnf
  · have h : k < x.inputs.length := by omega
    (repeat (refine ⟨by first | omega | (show _ ∧ _; omega) | ((repeat (first | rw [ByteArray.size_append] | rw [bsz] | rw [List.size_toArray] | rw [List.length_cons] | rw [List.length_nil])) <;> omega) | ((repeat rw [Int.toNat_natCast]) <;> first | omega | (show _ ∧ _; omega)) | (simp only [ByteArray.size_append, bsz, List.size_toArray, List.length_cons, List.length_nil]; omega) | (simp only [Int.toNat_natCast]; first | omega | (show _ ∧ _; omega)) | decide, ?_⟩; conv => whnf))
    refine ⟨fun hc => ?_, fun hc => ?_⟩ <;> conv => whnf
    · exact retW tbl_ok rfl rfl ⟨congrArg vb (any_of_getD h hc), trivial⟩
    · (repeat (refine ⟨by first | omega | (show _ ∧ _; omega) | ((repeat (first | rw [ByteArray.size_append] | rw [bsz] | rw [List.size_toArray] | rw [List.length_cons] | rw [List.length_nil])) <;> omega) | ((repeat rw [Int.toNat_natCast]) <;> first | omega | (show _ ∧ _; omega)) | (simp only [ByteArray.size_append, bsz, List.size_toArray, List.length_cons, List.length_nil]; omega) | (simp only [Int.toNat_natCast]; first | omega | (show _ ∧ _; omega)) | decide, ?_⟩; conv => whnf))
      refine loopE [] (k + 1) ⟨by omega, any_take_false he h hc⟩ (by omega) ⟨rfl, trivial⟩ trivial (by repeat' (first | exact trivial | exact rfl | refine ⟨?_, ?_⟩)) (by kernel_rfl) trivial (by kernel_rfl)
  · exact retW tbl_ok rfl rfl ⟨congrArg vb (by rw [take_all x.inputs k (by omega)] at he; exact he), trivial⟩

theorem implDoneAt (xs : List GDone) (e : Int) (h : xs.length ≤ 16777216) : Meets Tryz.prog 183 [.one (sGDone xs), .one (vi e)] [.one (vb (xs.any fun d => d.epoch == e))] := by
  refine enterW tbl_ok false Tryz.func183 rfl (by decide) fun W => ?_
  conv => whnf
  refine callR (contfDone xs h _ [vi e] (fun d => d.epoch == e) (fun d _ => doneF d e)) rfl (go tbl_ok false ?_)
  conv => whnf
  exact retW tbl_ok rfl rfl ⟨rfl, trivial⟩
theorem implIsDone (x : GWorker) (e : Int) (h : x.w ≤ 16777216) : Meets Tryz.prog 137 [.agg x.c, .one (vi e)] [.one (vb (isDone x e))] := by
  refine enterW tbl_ok false Tryz.func137 rfl (by decide) fun W => ?_
  conv => whnf
  refine callR (implDoneAt x.dones e (by simp only [GWorker.w] at h; omega)) rfl (go tbl_ok false ?_)
  conv => whnf
  exact retW tbl_ok rfl rfl ⟨rfl, trivial⟩
theorem specIsDone (x : GWorker) (e : Int) (h : x.w ≤ 16777216) : Meets Tryz.prog 131 [.agg x.c, .one (vi e)] [.one (vb (isDone x e))] := by
  have hl : x.dones.length ≤ 16777216 := by simp only [GWorker.w] at h; omega
  refine enterW tbl_ok false Tryz.func131 rfl (by decide) fun W => ?_
  conv => whnf
  refine loopW tbl_ok false [] (fun k : Nat => [(5, .c (vi k))]) (fun k => [⟨0, [.c (sGRecord x.queue), .c (sGRecord x.staged), .c (sGRecord x.inputs), .c (sGCell x.cells), .c (sInt x.sums), .c (sBool x.black), .c (sBool x.caps), .c (sGDone x.dones)]⟩]) (fun k => [])
    (fun k => k ≤ x.dones.length ∧ (x.dones.take k).any (fun d => d.epoch == e) = false) (fun k => x.dones.length - k) 0 ⟨Nat.zero_le _, by first | rfl | assumption | simp⟩ ⟨by first | rfl | simp [nth, ren2, ren1, ren0], trivial⟩ (by repeat' (first | exact trivial | exact rfl | refine ⟨?_, ?_⟩)) trivial trivial (by kernel_rfl) (fun k hk => ?_)
  obtain ⟨hk, he⟩ := hk
  conv => whnf
  refine ⟨fun h => have h := of_decide_eq_true h; ?_, fun h => have h := of_decide_eq_false h; ?_⟩ <;> conv => whnf
  · have h : k < x.dones.length := by omega
    (repeat (refine ⟨by first | omega | (show _ ∧ _; omega) | ((repeat (first | rw [ByteArray.size_append] | rw [bsz] | rw [List.size_toArray] | rw [List.length_cons] | rw [List.length_nil])) <;> omega) | ((repeat rw [Int.toNat_natCast]) <;> first | omega | (show _ ∧ _; omega)) | (simp only [ByteArray.size_append, bsz, List.size_toArray, List.length_cons, List.length_nil]; omega) | (simp only [Int.toNat_natCast]; first | omega | (show _ ∧ _; omega)) | decide, ?_⟩; conv => whnf))
    refine ⟨fun hc => ?_, fun hc => ?_⟩ <;> conv => whnf
    · exact retW tbl_ok rfl rfl ⟨congrArg vb (any_of_getD h hc), trivial⟩
    · (repeat (refine ⟨by first | omega | (show _ ∧ _; omega) | ((repeat (first | rw [ByteArray.size_append] | rw [bsz] | rw [List.size_toArray] | rw [List.length_cons] | rw [List.length_nil])) <;> omega) | ((repeat rw [Int.toNat_natCast]) <;> first | omega | (show _ ∧ _; omega)) | (simp only [ByteArray.size_append, bsz, List.size_toArray, List.length_cons, List.length_nil]; omega) | (simp only [Int.toNat_natCast]; first | omega | (show _ ∧ _; omega)) | decide, ?_⟩; conv => whnf))
      refine loopE [] (k + 1) ⟨by omega, any_take_false he h hc⟩ (by omega) ⟨rfl, trivial⟩ trivial (by repeat' (first | exact trivial | exact rfl | refine ⟨?_, ?_⟩)) (by kernel_rfl) trivial (by kernel_rfl)
  · exact retW tbl_ok rfl rfl ⟨congrArg vb (by rw [take_all x.dones k (by omega)] at he; exact he), trivial⟩

theorem specWorkAt (x : GWorker) (e : Int) (h : x.w ≤ 16777216) : Meets Tryz.prog 221 [.agg x.c, .one (vi e)] [.one (vi (workAt x e))] := by
  simp only [GWorker.w] at h
  have h1 := ofEpoch_le x.queue e
  have h2 := ofEpoch_le x.staged e
  refine enterW tbl_ok false Tryz.func221 rfl (by decide) fun W => ?_
  conv => whnf
  first | (refine drawI 1 rfl [0, 1, 2, 5, 6, 7, 3, 4, 8, 9, 10, 11] (by kernel_rfl) (go tbl_ok false ?_); conv => whnf)
  refine callR (specOfEpoch x.queue e (by omega)) rfl (go tbl_ok false ?_)
  conv => whnf
  refine callR (specOfEpoch x.staged e (by omega)) rfl (go tbl_ok false ?_)
  conv => whnf
  (repeat (refine ⟨by first | omega | (show _ ∧ _; omega) | ((repeat (first | rw [ByteArray.size_append] | rw [bsz] | rw [List.size_toArray] | rw [List.length_cons] | rw [List.length_nil])) <;> omega) | ((repeat rw [Int.toNat_natCast]) <;> first | omega | (show _ ∧ _; omega)) | (simp only [ByteArray.size_append, bsz, List.size_toArray, List.length_cons, List.length_nil]; omega) | (simp only [Int.toNat_natCast]; first | omega | (show _ ∧ _; omega)) | decide, ?_⟩; conv => whnf))
  exact retW tbl_ok rfl rfl ⟨congrArg vi (by simp only [workAt]; omega), trivial⟩
theorem specPassiveAt (x : GWorker) (e : Int) (hx : x.w ≤ 16777216) : Meets Tryz.prog 175 [.agg x.c, .one (vi e)] [.one (vb (passiveAt x e))] := by
  refine enterW tbl_ok false Tryz.func175 rfl (by decide) fun W => ?_
  conv => whnf
  refine callR (specOpenAt x e hx) rfl (go tbl_ok false ?_)
  conv => whnf
  repeat' (first | (refine ite_f (by first | with_reducible rfl | assumption) ?_; conv => whnf) | (refine ite_t (by first | with_reducible rfl | assumption) ?_; conv => whnf) | (refine ⟨fun h => ?_, fun h => ?_⟩ <;> conv => whnf) | (refine ⟨by first | omega | (show _ ∧ _; omega) | ((repeat (first | rw [ByteArray.size_append] | rw [bsz] | rw [List.size_toArray] | rw [List.length_cons] | rw [List.length_nil])) <;> omega) | ((repeat rw [Int.toNat_natCast]) <;> first | omega | (show _ ∧ _; omega)) | (simp only [ByteArray.size_append, bsz, List.size_toArray, List.length_cons, List.length_nil]; omega) | (simp only [Int.toNat_natCast]; first | omega | (show _ ∧ _; omega)) | decide, ?_⟩; conv => whnf) | fail)
  all_goals first
    | (refine callR (specWorkAt x e hx) rfl (go tbl_ok false ?_); conv => whnf)
    | (refine retW tbl_ok rfl rfl ⟨?_, trivial⟩; (conv => whnf); refine congrArg vb ?_; simp_all [passiveAt]; done)
  repeat' (first | (refine ite_f (by first | with_reducible rfl | assumption) ?_; conv => whnf) | (refine ite_t (by first | with_reducible rfl | assumption) ?_; conv => whnf) | (refine ⟨fun h => ?_, fun h => ?_⟩ <;> conv => whnf) | (refine ⟨by first | omega | (show _ ∧ _; omega) | ((repeat (first | rw [ByteArray.size_append] | rw [bsz] | rw [List.size_toArray] | rw [List.length_cons] | rw [List.length_nil])) <;> omega) | ((repeat rw [Int.toNat_natCast]) <;> first | omega | (show _ ∧ _; omega)) | (simp only [ByteArray.size_append, bsz, List.size_toArray, List.length_cons, List.length_nil]; omega) | (simp only [Int.toNat_natCast]; first | omega | (show _ ∧ _; omega)) | decide, ?_⟩; conv => whnf) | fail)
  all_goals (refine retW tbl_ok rfl rfl ⟨?_, trivial⟩; (conv => whnf); refine congrArg vb ?_; simp_all [passiveAt])
theorem implWorkAt (x : GWorker) (e : Int) (h : x.w ≤ 16777216) : Meets Tryz.prog 185 [.agg x.c, .one (vi e)] [.one (vi (workAt x e))] := by
  simp only [GWorker.w] at h
  have h1 := ofEpoch_le x.queue e
  have h2 := ofEpoch_le x.staged e
  refine enterW tbl_ok false Tryz.func185 rfl (by decide) fun W => ?_
  conv => whnf
  first | (refine drawI 1 rfl [0, 1, 2, 5, 6, 7, 3, 4, 8, 9, 10, 11] (by kernel_rfl) (go tbl_ok false ?_); conv => whnf)
  refine callR (implOfEpoch x.queue e (by omega)) rfl (go tbl_ok false ?_)
  conv => whnf
  refine callR (implOfEpoch x.staged e (by omega)) rfl (go tbl_ok false ?_)
  conv => whnf
  (repeat (refine ⟨by first | omega | (show _ ∧ _; omega) | ((repeat (first | rw [ByteArray.size_append] | rw [bsz] | rw [List.size_toArray] | rw [List.length_cons] | rw [List.length_nil])) <;> omega) | ((repeat rw [Int.toNat_natCast]) <;> first | omega | (show _ ∧ _; omega)) | (simp only [ByteArray.size_append, bsz, List.size_toArray, List.length_cons, List.length_nil]; omega) | (simp only [Int.toNat_natCast]; first | omega | (show _ ∧ _; omega)) | decide, ?_⟩; conv => whnf))
  exact retW tbl_ok rfl rfl ⟨congrArg vi (by simp only [workAt]; omega), trivial⟩
theorem implPassiveAt (x : GWorker) (e : Int) (hx : x.w ≤ 16777216) : Meets Tryz.prog 138 [.agg x.c, .one (vi e)] [.one (vb (passiveAt x e))] := by
  refine enterW tbl_ok false Tryz.func138 rfl (by decide) fun W => ?_
  conv => whnf
  refine callR (implOpenAt x e hx) rfl (go tbl_ok false ?_)
  conv => whnf
  repeat' (first | (refine ite_f (by first | with_reducible rfl | assumption) ?_; conv => whnf) | (refine ite_t (by first | with_reducible rfl | assumption) ?_; conv => whnf) | (refine ⟨fun h => ?_, fun h => ?_⟩ <;> conv => whnf) | (refine ⟨by first | omega | (show _ ∧ _; omega) | ((repeat (first | rw [ByteArray.size_append] | rw [bsz] | rw [List.size_toArray] | rw [List.length_cons] | rw [List.length_nil])) <;> omega) | ((repeat rw [Int.toNat_natCast]) <;> first | omega | (show _ ∧ _; omega)) | (simp only [ByteArray.size_append, bsz, List.size_toArray, List.length_cons, List.length_nil]; omega) | (simp only [Int.toNat_natCast]; first | omega | (show _ ∧ _; omega)) | decide, ?_⟩; conv => whnf) | fail)
  all_goals first
    | (refine callR (implWorkAt x e hx) rfl (go tbl_ok false ?_); conv => whnf)
    | (refine retW tbl_ok rfl rfl ⟨?_, trivial⟩; (conv => whnf); refine congrArg vb ?_; simp_all [passiveAt]; done)
  repeat' (first | (refine ite_f (by first | with_reducible rfl | assumption) ?_; conv => whnf) | (refine ite_t (by first | with_reducible rfl | assumption) ?_; conv => whnf) | (refine ⟨fun h => ?_, fun h => ?_⟩ <;> conv => whnf) | (refine ⟨by first | omega | (show _ ∧ _; omega) | ((repeat (first | rw [ByteArray.size_append] | rw [bsz] | rw [List.size_toArray] | rw [List.length_cons] | rw [List.length_nil])) <;> omega) | ((repeat rw [Int.toNat_natCast]) <;> first | omega | (show _ ∧ _; omega)) | (simp only [ByteArray.size_append, bsz, List.size_toArray, List.length_cons, List.length_nil]; omega) | (simp only [Int.toNat_natCast]; first | omega | (show _ ∧ _; omega)) | decide, ?_⟩; conv => whnf) | fail)
  all_goals (refine retW tbl_ok rfl rfl ⟨?_, trivial⟩; (conv => whnf); refine congrArg vb ?_; simp_all [passiveAt])
end Go.Proofs.YtlbmkgkmbjadcaaGreat
