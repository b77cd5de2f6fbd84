/- Texts for the law FnExactReadScript: WSpl. No conditions. -/
import Derived.Test.YtcpjpkcahnldfaaGreatDoorWScM

set_option maxRecDepth 100000
namespace Go.Proofs.YtcpjpkcahnldfaaGreatDoor
open Go.Sx
theorem splitT (s : ByteArray) (hs : s.size ≤ 1048576) : MeetsT Tryz.prog Tab 37 [.one (vs s), .one (vs (⟨#[10]⟩ : ByteArray))] [.one (sStr (cutB s))] := by
  refine ⟨⟨_, Tryz.func37, by decide, rfl⟩, fun w hw vals hl hv => ?_⟩
  match vals, hl with
  | [v, v2], _ =>
    have h0 : v = .string s := rep_val (A := fun _ => False) (hv 0 _ rfl)
    have h1 : v2 = .string ⟨#[10]⟩ := rep_val (A := fun _ => False) (hv 1 _ rfl)
    subst h0 h1
    have hlen := cutB_len s
    obtain ⟨m, hm⟩ := hw.2.2.2.2
    refine (Any.strings_Split { lays146 with } lays146.i9 s ⟨#[10]⟩ m w (by omega) hm (by decide)).mono ?_
    rintro e w' ⟨rfl, rfl⟩
    rw [splitB_cut]
    have hn : Lib.countB s ⟨#[10]⟩ + 1 = (cutB s).length := by rw [← splitB_cut, Lib.splitB_all ⟨#[10]⟩ (by decide) 0 _ s rfl]
    rw [hn]
    refine ⟨below_alloc w _, [_], fun _ => [w.heap.size], rfl, rfl, fun i y hi => ?_, fun i hi => ⟨by simp, fun b hb => by rw [List.mem_singleton.1 hb]; exact Nat.le_refl _⟩, fun i j hi hj hne => by simp at hi hj; omega⟩
    have hsz : (((cutB s).map Value.string).toArray).size = (cutB s).length := by rw [List.size_toArray, List.length_map]
    match i, hi with
    | 0, hi =>
      simp only [List.getElem?_cons_zero, Option.some.injEq] at hi
      subst hi
      have heq1 : ∀ o : Obj, (w.alloc o).heap[w.heap.size]? = some o := fun o => Array.getElem?_push_size
      have hr : ∀ ty : TypeId, OwnRep (w.alloc (.cells ((cutB s).map Value.string).toArray ty)) (.sl (cutB s).length 1 fun i => [vs ((cutB s).getD i default)]) (.slice (some ⟨w.heap.size, 0 * 1, none⟩) (cutB s).length (cutB s).length) (w.heap.size :: (List.range ((cutB s).length * 1)).flatMap fun _ => []) :=
        fun ty => .sl (cutB s).length 1 _ w.heap.size 0 (cutB s).length ty _ (fun _ => []) (Nat.le_refl _) (by unfold maxLen; omega) (heq1 _) (by rw [Nat.zero_add, Nat.mul_one]; exact Nat.le_of_eq hsz.symm) (fun i hi => rfl) (fun i j c hi hj => by
          match j, hj with
          | 0, hj =>
            simp only [List.getElem?_cons_zero, Option.some.injEq] at hj
            subst hj
            have e : (((cutB s).map Value.string).toArray).getD ((0 + i) * 1 + 0) undef = .string ((cutB s).getD i default) := by
              simp [List.getD, hi]
            rw [e]
            exact .val _ rfl
          | j + 1, hj => simp at hj)
      have hf : (List.range ((cutB s).length * 1)).flatMap (fun _ => ([] : List Nat)) = [] := by simp
      simp only [hf] at hr
      exact hr _
    | i + 1, hi => simp at hi

structure JCut where
  i : Nat
  b : Nat
  out : List ByteArray
def CutI (s : ByteArray) (j : JCut) : Prop := j.i ≤ s.size + 1 ∧ j.out.length ≤ j.i ∧
  (j.i ≤ s.size → j.b ≤ j.i ∧ cutL [] s.data.toList = j.out.map (·.data.toList) ++ cutL (s.extract j.b j.i).data.toList (s.data.toList.drop j.i)) ∧ (¬ j.i ≤ s.size → j.out = cutB s)
theorem cutI_zero (s : ByteArray) : CutI s ⟨0, 0, []⟩ := ⟨Nat.zero_le _, Nat.le_refl _, fun _ => ⟨Nat.le_refl _, by
  rw [extract_list s 0 0 (Nat.zero_le _)]; rfl⟩, fun h => (h (Nat.zero_le _)).elim⟩
theorem toList_inj : ∀ {a b : List ByteArray}, a.map (·.data.toList) = b.map (·.data.toList) → a = b
  | [], [], _ => rfl
  | [], _ :: _, h => by simp at h
  | _ :: _, [], h => by simp at h
  | x :: a, y :: b, h => by
    simp only [List.map_cons, List.cons.injEq] at h
    rw [toList_inj h.2, show x = y from ByteArray.ext (Array.toList_inj.1 h.1)]
theorem cutI_end {s : ByteArray} {j : JCut} (h : CutI s j) (hi : j.i = s.size) : CutI s ⟨j.i + 1, j.i + 1, j.out ++ [s.extract j.b j.i]⟩ := by
  obtain ⟨h1, h2, h3, _⟩ := h
  refine ⟨by show j.i + 1 ≤ _; omega, by simp only [List.length_append, List.length_singleton]; omega, fun h => by have h : j.i + 1 ≤ s.size := h; omega, fun _ => ?_⟩
  obtain ⟨_, e⟩ := h3 (by omega)
  have hl : s.data.toList.length = s.size := Array.length_toList
  rw [List.drop_of_length_le (by omega), cutL] at e
  apply toList_inj
  rw [List.map_append, List.map_singleton, ← e, cutB, List.map_map]
  exact (List.map_id' _).symm
theorem cutI_hit {s : ByteArray} {j : JCut} (h : CutI s j) (hi : j.i < s.size) (hb : byteAt s j.i = 10) : CutI s ⟨j.i + 1, j.i + 1, j.out ++ [s.extract j.b j.i]⟩ := by
  obtain ⟨h1, h2, h3, _⟩ := h
  refine ⟨by show j.i + 1 ≤ _; omega, by simp only [List.length_append, List.length_singleton]; omega, fun _ => ⟨Nat.le_refl _, ?_⟩, fun h => absurd (show j.i + 1 ≤ s.size by omega) h⟩
  obtain ⟨_, e⟩ := h3 (by omega)
  rw [byteAt_get hi, cutL, if_pos hb] at e
  have hz : (s.extract (j.i + 1) (j.i + 1)).data.toList = [] := by rw [extract_list s _ _ (by omega)]; simp
  show _ = (j.out ++ [s.extract j.b j.i]).map (·.data.toList) ++ cutL (s.extract (j.i + 1) (j.i + 1)).data.toList _
  rw [e, hz, List.map_append, List.append_assoc]
  rfl
theorem cutI_skip {s : ByteArray} {j : JCut} (h : CutI s j) (hi : j.i < s.size) (hb : byteAt s j.i ≠ 10) : CutI s ⟨j.i + 1, j.b, j.out⟩ := by
  obtain ⟨h1, h2, h3, _⟩ := h
  refine ⟨by show j.i + 1 ≤ _; omega, by show j.out.length ≤ j.i + 1; omega, fun _ => ⟨?_, ?_⟩, fun h => absurd (show j.i + 1 ≤ s.size by omega) h⟩
  · have := (h3 (by omega)).1; show j.b ≤ j.i + 1; omega
  obtain ⟨hb', e⟩ := h3 (by omega)
  rw [byteAt_get hi, cutL, if_neg hb, extract_list s _ _ (by omega), ← seg_snoc hi hb', ← extract_list s _ _ (by omega)] at e
  exact e
theorem specCut (s : ByteArray) (hs : s.size ≤ 1048576) : Meets Tryz.prog 32 [.one (vs s)] [.one (sStr (cutB s))] := by
  refine enterW tbl_ok false Tryz.func32 rfl (by decide) fun W => ?_
  conv => whnf
  refine castW 0 (sStr []) rfl (cast_rows rfl (by repeat' (first | exact trivial | exact rfl | refine ⟨?_, ?_⟩))) ?_
  refine loopW tbl_ok false [6] (fun j : JCut => [(5, .c (vi j.i)), (4, .c (vi j.b))]) (fun j => []) (fun j => [⟨0, sStr j.out⟩]) (fun j => CutI s j) (fun j => s.size + 1 - j.i) (⟨0, 0, []⟩) (cutI_zero s) ⟨by first | rfl | simp [nth, ren2, ren1, ren0], by first | rfl | simp [nth, ren2, ren1, ren0], trivial⟩ trivial ⟨by first | rfl | exact (congrArg (fun l => slC _ _ l) (List.append_nil _)).symm | (show (_ : Cell) = _; simp) | simp, trivial⟩ (by first | exact trivial | exact ⟨rfl, trivial⟩) (by kernel_rfl) (fun j hj => ?_)
  conv => whnf
  have hj1 := hj.1
  have hj2 := hj.2.1
  refine ⟨fun h => have h := of_decide_eq_true h; ?_, fun h => have h := of_decide_eq_false h; ?_⟩ <;> conv => whnf
  · have h : j.i ≤ s.size := by omega
    (repeat (refine ⟨by first | omega | (show _ ∧ _; omega) | ((repeat (first | rw [ByteArray.size_append] | rw [bsz] | rw [List.size_toArray] | rw [List.length_cons] | rw [List.length_nil])) <;> omega) | ((repeat rw [Int.toNat_natCast]) <;> first | omega | (show _ ∧ _; omega)) | (simp only [ByteArray.size_append, bsz, List.size_toArray, List.length_cons, List.length_nil]; omega) | (simp only [Int.toNat_natCast]; first | omega | (show _ ∧ _; omega)) | decide, ?_⟩; conv => whnf))
    have hb := (hj.2.2.1 h).1
    refine ⟨fun c => have c := eq_of_beq c; ?_, fun c => have c := beq_eq_false_iff_ne.1 c; ?_⟩ <;> conv => whnf
    · have c : j.i = s.size := by omega
      repeat (first | (refine ite_f (by first | with_reducible rfl | assumption | (simp; done) | fail) ?_; conv => whnf) | (refine ite_t (by first | with_reducible rfl | assumption | (simp; done) | fail) ?_; conv => whnf) | (refine ⟨by first | omega | (show _ ∧ _; omega) | ((repeat (first | rw [ByteArray.size_append] | rw [bsz] | rw [List.size_toArray] | rw [List.length_cons] | rw [List.length_nil])) <;> omega) | ((repeat rw [Int.toNat_natCast]) <;> first | omega | (show _ ∧ _; omega)) | (simp only [ByteArray.size_append, bsz, List.size_toArray, List.length_cons, List.length_nil]; omega) | (simp only [Int.toNat_natCast]; first | omega | (show _ ∧ _; omega)) | decide, ?_⟩; conv => whnf))
      repeat (first | (refine ite_f (by first | with_reducible rfl | assumption | (simp; done) | fail) ?_; conv => whnf) | (refine ite_t (by first | with_reducible rfl | assumption | (simp; done) | fail) ?_; conv => whnf) | (refine ⟨by first | omega | (show _ ∧ _; omega) | ((repeat (first | rw [ByteArray.size_append] | rw [bsz] | rw [List.size_toArray] | rw [List.length_cons] | rw [List.length_nil])) <;> omega) | ((repeat rw [Int.toNat_natCast]) <;> first | omega | (show _ ∧ _; omega)) | (simp only [ByteArray.size_append, bsz, List.size_toArray, List.length_cons, List.length_nil]; omega) | (simp only [Int.toNat_natCast]; first | omega | (show _ ∧ _; omega)) | decide, ?_⟩; conv => whnf))
      refine substrW tbl_ok rfl rfl rfl rfl rfl rfl rfl ⟨by omega, by omega, by omega⟩ (go tbl_ok false ?_)
      conv => whnf
      refine appW tbl_ok rfl rfl rfl rfl rfl rfl rfl rfl rfl rfl rfl (sStr (j.out ++ [s.extract j.b j.i])) (slC_snoc rfl) (by intro h; cases h) (by omega) (go tbl_ok false ?_)
      conv => whnf
      (repeat (refine ⟨by first | omega | (show _ ∧ _; omega) | ((repeat (first | rw [ByteArray.size_append] | rw [bsz] | rw [List.size_toArray] | rw [List.length_cons] | rw [List.length_nil])) <;> omega) | ((repeat rw [Int.toNat_natCast]) <;> first | omega | (show _ ∧ _; omega)) | (simp only [ByteArray.size_append, bsz, List.size_toArray, List.length_cons, List.length_nil]; omega) | (simp only [Int.toNat_natCast]; first | omega | (show _ ∧ _; omega)) | decide, ?_⟩; conv => whnf))
      refine loopE [(0, 2)] (⟨j.i + 1, j.i + 1, j.out ++ [s.extract j.b j.i]⟩) (cutI_end hj c) (by show s.size + 1 - (j.i + 1) < _; omega) ⟨rfl, rfl, trivial⟩ ⟨rfl, trivial⟩ trivial (by kernel_rfl) (by first | exact trivial | exact ⟨rfl, trivial⟩) (by kernel_rfl)
    · have hlt : j.i < s.size := by omega
      repeat (first | (refine ite_f (by first | with_reducible rfl | assumption | (simp; done) | fail) ?_; conv => whnf) | (refine ite_t (by first | with_reducible rfl | assumption | (simp; done) | fail) ?_; conv => whnf) | (refine ⟨by first | omega | (show _ ∧ _; omega) | ((repeat (first | rw [ByteArray.size_append] | rw [bsz] | rw [List.size_toArray] | rw [List.length_cons] | rw [List.length_nil])) <;> omega) | ((repeat rw [Int.toNat_natCast]) <;> first | omega | (show _ ∧ _; omega)) | (simp only [ByteArray.size_append, bsz, List.size_toArray, List.length_cons, List.length_nil]; omega) | (simp only [Int.toNat_natCast]; first | omega | (show _ ∧ _; omega)) | decide, ?_⟩; conv => whnf))
      (repeat (refine ⟨by first | omega | (show _ ∧ _; omega) | ((repeat (first | rw [ByteArray.size_append] | rw [bsz] | rw [List.size_toArray] | rw [List.length_cons] | rw [List.length_nil])) <;> omega) | ((repeat rw [Int.toNat_natCast]) <;> first | omega | (show _ ∧ _; omega)) | (simp only [ByteArray.size_append, bsz, List.size_toArray, List.length_cons, List.length_nil]; omega) | (simp only [Int.toNat_natCast]; first | omega | (show _ ∧ _; omega)) | decide, ?_⟩; conv => whnf))
      refine ⟨fun e => have e := eq_of_beq e; ?_, fun e => have e := beq_eq_false_iff_ne.1 e; ?_⟩ <;> conv => whnf
      · have e : byteAt s j.i = 10 := UInt8.toNat_inj.1 (by show _ = 10; exact Int.ofNat.inj e)
        refine substrW tbl_ok rfl rfl rfl rfl rfl rfl rfl ⟨by omega, by omega, by omega⟩ (go tbl_ok false ?_)
        conv => whnf
        refine appW tbl_ok rfl rfl rfl rfl rfl rfl rfl rfl rfl rfl rfl (sStr (j.out ++ [s.extract j.b j.i])) (slC_snoc rfl) (by intro h; cases h) (by omega) (go tbl_ok false ?_)
        conv => whnf
        (repeat (refine ⟨by first | omega | (show _ ∧ _; omega) | ((repeat (first | rw [ByteArray.size_append] | rw [bsz] | rw [List.size_toArray] | rw [List.length_cons] | rw [List.length_nil])) <;> omega) | ((repeat rw [Int.toNat_natCast]) <;> first | omega | (show _ ∧ _; omega)) | (simp only [ByteArray.size_append, bsz, List.size_toArray, List.length_cons, List.length_nil]; omega) | (simp only [Int.toNat_natCast]; first | omega | (show _ ∧ _; omega)) | decide, ?_⟩; conv => whnf))
        refine loopE [(0, 2)] (⟨j.i + 1, j.i + 1, j.out ++ [s.extract j.b j.i]⟩) (cutI_hit hj hlt e) (by show s.size + 1 - (j.i + 1) < _; omega) ⟨rfl, rfl, trivial⟩ ⟨rfl, trivial⟩ trivial (by kernel_rfl) (by first | exact trivial | exact ⟨rfl, trivial⟩) (by kernel_rfl)
      · have e : byteAt s j.i ≠ 10 := fun c => e (by show ((byteAt s j.i).toNat : Int) = _; rw [c]; rfl)
        (repeat (refine ⟨by first | omega | (show _ ∧ _; omega) | ((repeat (first | rw [ByteArray.size_append] | rw [bsz] | rw [List.size_toArray] | rw [List.length_cons] | rw [List.length_nil])) <;> omega) | ((repeat rw [Int.toNat_natCast]) <;> first | omega | (show _ ∧ _; omega)) | (simp only [ByteArray.size_append, bsz, List.size_toArray, List.length_cons, List.length_nil]; omega) | (simp only [Int.toNat_natCast]; first | omega | (show _ ∧ _; omega)) | decide, ?_⟩; conv => whnf))
        refine loopE [] (⟨j.i + 1, j.b, j.out⟩) (cutI_skip hj hlt e) (by show s.size + 1 - (j.i + 1) < _; omega) ⟨rfl, rfl, trivial⟩ ⟨rfl, trivial⟩ trivial (by kernel_rfl) (by first | exact trivial | exact ⟨rfl, trivial⟩) (by kernel_rfl)
  · exact retW tbl_ok rfl rfl ⟨by exact congrArg sStr (hj.2.2.2 (by omega)), trivial⟩

end Go.Proofs.YtcpjpkcahnldfaaGreatDoor
