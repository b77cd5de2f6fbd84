/- Texts for the law FnLinesBack: WParts. No conditions. -/
import Derived.Test.YtcpjpkcahnldfaaGreatDoorWRd

set_option maxRecDepth 100000
namespace Go.Proofs.YtcpjpkcahnldfaaGreatDoor
open Go.Sx
theorem fieldsT (s : ByteArray) (hok : okB s) (hs : s.size ≤ 600) : MeetsT Tryz.prog Tab 77 [.one (vs s)] [.one (sStr (fieldsB s))] := by
  refine ⟨⟨_, Tryz.func77, by decide, rfl⟩, fun w hw vals hl hv => ?_⟩
  match vals, hl with
  | [v], _ =>
    have h0 : v = .string s := rep_val (A := fun _ => False) (hv 0 _ rfl)
    subst h0
    have hlen : (Lib.fields s.data.toList).length ≤ 601 := by
      have := stF_len s (s.size + 1)
      rw [stF_end s hok, fieldsB, List.length_map] at this
      omega
    refine (Any.strings_Fields_laid lays157 s w (by omega) (fun j b hj => by have := hok b (List.mem_of_getElem? hj); omega) hw.2.1).mono ?_
    rintro e w' ⟨rfl, rfl⟩
    have hn : (fieldsB s).length = (Lib.fields s.data.toList).length := by rw [fieldsB, List.length_map]
    refine ⟨below_alloc w _, [_], fun _ => [w.heap.size], rfl, rfl, fun i y hi => ?_, fun i hi => ⟨by simp, fun b hb => by rw [List.mem_singleton.1 hb]; exact Nat.le_refl _⟩, fun i j hi hj hne => by simp at hi hj; omega⟩
    have hsz : (((Lib.fields s.data.toList).map fun l => Value.string ⟨l.toArray⟩).toArray).size = (Lib.fields s.data.toList).length := by rw [List.size_toArray, List.length_map]
    match i, hi with
    | 0, hi =>
      simp only [List.getElem?_cons_zero, Option.some.injEq] at hi
      subst hi
      have heq1 : ∀ o : Obj, (w.alloc o).heap[w.heap.size]? = some o := fun o => Array.getElem?_push_size
      have hr : ∀ ty : TypeId, OwnRep (w.alloc (.cells ((Lib.fields s.data.toList).map fun l => Value.string ⟨l.toArray⟩).toArray ty)) (.sl (fieldsB s).length 1 fun i => [vs ((fieldsB s).getD i default)]) (.slice (some ⟨w.heap.size, 0 * 1, none⟩) (fieldsB s).length (fieldsB s).length) (w.heap.size :: (List.range ((fieldsB s).length * 1)).flatMap fun _ => []) :=
        fun ty => .sl (fieldsB s).length 1 _ w.heap.size 0 (fieldsB s).length ty _ (fun _ => []) (Nat.le_refl _) (by rw [hn]; unfold maxLen; omega) (heq1 _) (by rw [hn, Nat.zero_add, Nat.mul_one]; exact Nat.le_of_eq hsz.symm) (fun i hi => rfl) (fun i j c hi hj => by
          match j, hj with
          | 0, hj =>
            simp only [List.getElem?_cons_zero, Option.some.injEq] at hj
            subst hj
            have e : (((Lib.fields s.data.toList).map fun l => Value.string ⟨l.toArray⟩).toArray).getD ((0 + i) * 1 + 0) undef = .string ((fieldsB s).getD i default) := by
              have hi' : i < (Lib.fields s.data.toList).length := by rw [← hn]; exact hi
              simp [fieldsB, List.getD, hi']
            rw [e]
            exact .val _ rfl
          | j + 1, hj => simp at hj)
      have hf : (List.range ((fieldsB s).length * 1)).flatMap (fun _ => ([] : List Nat)) = [] := by simp
      simp only [hf] at hr
      rw [← hn]
      exact hr _
    | i + 1, hi => simp at hi

theorem implPartsOf (s : ByteArray) (hs : s.size ≤ 1048576) : MeetsT Tryz.prog Tab 38 [.one (vs s)] [.one (sStr (partsL s)), .one (vb (partsB s))] := by
  refine enterT tbl_ok false Tryz.func38 rfl (by decide) fun W hW => ?_
  conv => whnf
  refine ⟨fun h0 => have h0 := of_decide_eq_true h0; ?_, fun h0 => have h0 := of_decide_eq_false h0; ?_⟩ <;> conv => whnf
  · have hP : ¬ PartsP s := fun c => by have := c.1; omega
    refine nilR 2 1 (fun i => (fun b => [vs b]) (([] : List ByteArray).getD i default)) rfl ?_
    exact retW tbl_ok rfl rfl ⟨by (conv => whnf); rw [partsL_not hP]; rfl, congrArg vb (partsB_not hP), trivial⟩
  have hz := uptoB_zero s
  refine loopW tbl_ok false [] (fun k : Nat => [(4, .c (vi k))]) (fun k => []) (fun k => [])
    (fun k => k ≤ s.size ∧ UptoB s k) (fun k => s.size - k) 0 ⟨Nat.zero_le _, by first | rfl | assumption | simp⟩ ⟨by first | rfl | simp [nth, ren2, ren1, ren0], trivial⟩ trivial trivial trivial (by kernel_rfl) (fun k hk => ?_)
  obtain ⟨hk, he⟩ := hk
  conv => whnf
  refine ⟨fun h => have h := of_decide_eq_true h; ?_, fun h => have h := of_decide_eq_false h; ?_⟩ <;> conv => whnf
  · have hks : k < s.size := by omega
    have hu : (s.data.getD (k : Int).toNat 0).toNat < 256 := UInt8.toNat_lt _
    (repeat (refine ⟨by first | omega | (show _ ∧ _; omega) | ((repeat (first | rw [ByteArray.size_append] | rw [bsz] | rw [List.size_toArray] | rw [List.length_cons] | rw [List.length_nil])) <;> omega) | ((repeat rw [Int.toNat_natCast]) <;> first | omega | (show _ ∧ _; omega)) | (simp only [ByteArray.size_append, bsz, List.size_toArray, List.length_cons, List.length_nil]; omega) | (simp only [Int.toNat_natCast]; first | omega | (show _ ∧ _; omega)) | decide, ?_⟩; conv => whnf))
    refine callR (implIn ((byteAt s k).toNat : Int) 32 126) rfl (go tbl_ok false ?_)
    conv => whnf
    refine ⟨fun hc => ?_, fun hc => ?_⟩ <;> conv => whnf
    · have hx : within ((byteAt s k).toNat : Int) 32 126 = false := by simpa using hc
      have hx := Go.Sx.within_f.1 hx
      have hP := notParts hks (fun c => hx (by omega))
      refine nilR 2 1 (fun i => (fun b => [vs b]) (([] : List ByteArray).getD i default)) rfl ?_
      exact retW tbl_ok rfl rfl ⟨by (conv => whnf); rw [partsL_not hP]; rfl, congrArg vb (partsB_not hP), trivial⟩
    · have hx : within ((byteAt s k).toNat : Int) 32 126 = true := by simpa using hc
      have hx := Go.Sx.within_iff.1 hx
      have hnext := uptoB_succ he (fun _ => by omega)
      (repeat (refine ⟨by first | omega | (show _ ∧ _; omega) | ((repeat (first | rw [ByteArray.size_append] | rw [bsz] | rw [List.size_toArray] | rw [List.length_cons] | rw [List.length_nil])) <;> omega) | ((repeat rw [Int.toNat_natCast]) <;> first | omega | (show _ ∧ _; omega)) | (simp only [ByteArray.size_append, bsz, List.size_toArray, List.length_cons, List.length_nil]; omega) | (simp only [Int.toNat_natCast]; first | omega | (show _ ∧ _; omega)) | decide, ?_⟩; conv => whnf))
      refine loopE [] (k + 1) ⟨by omega, hnext⟩ (by omega) ⟨rfl, trivial⟩ trivial trivial (by kernel_rfl) trivial (by kernel_rfl)
  · have hok := okB_of he (by omega)
    have h600 : s.size ≤ 600 := by omega
    refine callWT (fieldsT s hok h600) tabStays hW rfl (go tbl_ok false ?_)
    conv => whnf
    refine ⟨fun h12 => have h12 := of_decide_eq_true h12; ?_, fun h12 => have h12 := of_decide_eq_false h12; ?_⟩ <;> conv => whnf
    · have hP : ¬ PartsP s := fun c => by have := c.2.2; omega
      refine nilR 2 1 (fun i => (fun b => [vs b]) (([] : List ByteArray).getD i default)) rfl ?_
      exact retW tbl_ok rfl rfl ⟨by (conv => whnf); rw [partsL_not hP]; rfl, congrArg vb (partsB_not hP), trivial⟩
    · have hP : PartsP s := ⟨h600, hok, by omega⟩
      exact retW tbl_ok rfl rfl ⟨congrArg sStr (partsL_is hP).symm, congrArg vb (partsB_is hP), trivial⟩
theorem specPartsOf (s : ByteArray) (hs : s.size ≤ 1048576) : Meets Tryz.prog 33 [.one (vs s)] [.one (sStr (partsL s)), .one (vb (partsB s))] := by
  refine enterW tbl_ok false Tryz.func33 rfl (by decide) fun W => ?_
  conv => whnf
  refine ⟨fun h0 => have h0 := of_decide_eq_true h0; ?_, fun h0 => have h0 := of_decide_eq_false h0; ?_⟩ <;> conv => whnf
  · have hP : ¬ PartsP s := fun c => by have := c.1; omega
    refine castR 0 (sStr []) rfl nil_cast ?_
    exact retW tbl_ok rfl rfl ⟨by (conv => whnf); exact congrArg sStr (partsL_not hP).symm, congrArg vb (partsB_not hP), trivial⟩
  have hz := uptoB_zero s
  refine castW 0 (sStr []) rfl nil_cast ?_
  refine loopW tbl_ok false [7] (fun k : Nat => [(5, .c (vi (stF s k).2)), (6, .c (vi k))]) (fun k => []) (fun k => [⟨0, sStr (stF s k).1⟩])
    (fun k => k ≤ (s.size + 1) ∧ UptoB s k) (fun k => (s.size + 1) - k) 0 ⟨Nat.zero_le _, by first | rfl | assumption | simp⟩ ⟨by first | rfl | simp [nth, ren2, ren1, ren0], by first | rfl | simp [nth, ren2, ren1, ren0], trivial⟩ trivial ⟨by first | rfl | exact (congrArg (fun l => slC _ _ l) (List.append_nil _)).symm | (show (_ : Cell) = _; simp) | simp, trivial⟩ trivial (by kernel_rfl) (fun k hk => ?_)
  obtain ⟨hk, he⟩ := hk
  conv => whnf
  refine ⟨fun h => have h := of_decide_eq_true h; ?_, fun h => have h := of_decide_eq_false h; ?_⟩ <;> conv => whnf
  · have hle := stF_le s k
    have hlen := stF_len s k
    repeat' (first | (refine ite_f (by first | with_reducible rfl | assumption) ?_; conv => whnf) | (refine ite_t (by first | with_reducible rfl | assumption) ?_; conv => whnf) | (refine ⟨fun h => ?_, fun h => ?_⟩ <;> conv => whnf) | (refine ⟨by first | omega | (show _ ∧ _; omega) | ((repeat (first | rw [ByteArray.size_append] | rw [bsz] | rw [List.size_toArray] | rw [List.length_cons] | rw [List.length_nil])) <;> omega) | ((repeat rw [Int.toNat_natCast]) <;> first | omega | (show _ ∧ _; omega)) | (simp only [ByteArray.size_append, bsz, List.size_toArray, List.length_cons, List.length_nil]; omega) | (simp only [Int.toNat_natCast]; first | omega | (show _ ∧ _; omega)) | decide | (simp only [beq_iff_eq, beq_eq_false_iff_ne, bne_iff_ne, bne_eq_false_iff_eq, Bool.not_eq_true', Bool.not_eq_false', Go.Sx.within_iff, Go.Sx.within_f, decide_eq_true_eq, decide_eq_false_iff_not, ne_eq, Int.not_lt, Int.not_le, ge_iff_le, gt_iff_lt, Int.toNat_zero, Int.toNat_one, Int.toNat_natCast] at * <;> first | omega | (show _ ∧ _; omega)), ?_⟩; conv => whnf) | fail)
    · have hx : ((byteAt s k).toNat : Int) < 32 := of_decide_eq_true h
      have hks : k < s.size := by simp only [decide_eq_true_eq] at *; omega
      have hP := notParts hks (fun c => by omega)
      refine castR 1 (sStr []) rfl nil_cast ?_
      exact retW tbl_ok rfl rfl ⟨by (conv => whnf); exact congrArg sStr (partsL_not hP).symm, congrArg vb (partsB_not hP), trivial⟩
    · have hx : ((byteAt s k).toNat : Int) > 126 := of_decide_eq_true h
      have hks : k < s.size := by simp only [decide_eq_true_eq] at *; omega
      have hP := notParts hks (fun c => by omega)
      refine castR 1 (sStr []) rfl nil_cast ?_
      exact retW tbl_ok rfl rfl ⟨by (conv => whnf); exact congrArg sStr (partsL_not hP).symm, congrArg vb (partsB_not hP), trivial⟩
    · rename_i g0 g1 g2
      have hks : k < s.size := by have := of_decide_eq_true g0; omega
      have x1 : ¬ ((byteAt s k).toNat : Int) < 32 := of_decide_eq_false g1
      have x2 : ¬ ((byteAt s k).toNat : Int) > 126 := of_decide_eq_false g2
      have x3 : ((byteAt s k).toNat : Int) ≠ 32 := bne_iff_ne.1 h
      have hne : byteAt s k ≠ 32 := fun e => x3 (by rw [e]; rfl)
      have hnext := uptoB_succ he (fun _ => by omega)
      have hst := stF_skip hks hne
      (repeat (refine ⟨by first | omega | (show _ ∧ _; omega) | ((repeat (first | rw [ByteArray.size_append] | rw [bsz] | rw [List.size_toArray] | rw [List.length_cons] | rw [List.length_nil])) <;> omega) | ((repeat rw [Int.toNat_natCast]) <;> first | omega | (show _ ∧ _; omega)) | (simp only [ByteArray.size_append, bsz, List.size_toArray, List.length_cons, List.length_nil]; omega) | (simp only [Int.toNat_natCast]; first | omega | (show _ ∧ _; omega)) | decide, ?_⟩; conv => whnf))
      refine loopE [] (k + 1) ⟨by omega, hnext⟩ (by omega) ⟨congrArg (fun z : List ByteArray × Nat => AV.c (vi (z.2 : Nat))) hst.symm, rfl, trivial⟩ ⟨congrArg (fun z : List ByteArray × Nat => sStr z.1) hst.symm, trivial⟩ trivial (by kernel_rfl) trivial (by kernel_rfl)
    · rename_i g0 g1 g2 g3
      have hks : k < s.size := by have := of_decide_eq_true g0; omega
      have x1 : ¬ ((byteAt s k).toNat : Int) < 32 := of_decide_eq_false g1
      have x2 : ¬ ((byteAt s k).toNat : Int) > 126 := of_decide_eq_false g2
      have x3 : ((byteAt s k).toNat : Int) = 32 := bne_eq_false_iff_eq.1 g3
      have heq : byteAt s k = 32 := UInt8.toNat_inj.1 (by show _ = 32; omega)
      have hb : (stF s k).2 < k := by have := of_decide_eq_true h; omega
      have hnext := uptoB_succ he (fun _ => by omega)
      have hst := stF_add (fun c => c.2 heq) hb
      refine substrW tbl_ok rfl rfl rfl rfl rfl rfl rfl ⟨by omega, by omega, by omega⟩ (go tbl_ok false ?_)
      conv => whnf
      refine appW tbl_ok rfl rfl rfl rfl rfl rfl rfl rfl rfl rfl rfl (sStr ((stF s k).1 ++ [s.extract (stF s k).2 k])) (slC_snoc rfl) (by intro h; cases h) (by omega) (go tbl_ok false ?_)
      conv => whnf
      (repeat (refine ⟨by first | omega | (show _ ∧ _; omega) | ((repeat (first | rw [ByteArray.size_append] | rw [bsz] | rw [List.size_toArray] | rw [List.length_cons] | rw [List.length_nil])) <;> omega) | ((repeat rw [Int.toNat_natCast]) <;> first | omega | (show _ ∧ _; omega)) | (simp only [ByteArray.size_append, bsz, List.size_toArray, List.length_cons, List.length_nil]; omega) | (simp only [Int.toNat_natCast]; first | omega | (show _ ∧ _; omega)) | decide, ?_⟩; conv => whnf))
      refine loopE [(0, 2)] (k + 1) ⟨by omega, hnext⟩ (by omega) ⟨congrArg (fun z : List ByteArray × Nat => AV.c (vi (z.2 : Nat))) hst.symm, rfl, trivial⟩ ⟨congrArg (fun z : List ByteArray × Nat => sStr z.1) hst.symm, trivial⟩ trivial (by kernel_rfl) trivial (by kernel_rfl)
    · rename_i g0 g1 g2 g3
      have hks : k < s.size := by have := of_decide_eq_true g0; omega
      have x1 : ¬ ((byteAt s k).toNat : Int) < 32 := of_decide_eq_false g1
      have x2 : ¬ ((byteAt s k).toNat : Int) > 126 := of_decide_eq_false g2
      have x3 : ((byteAt s k).toNat : Int) = 32 := bne_eq_false_iff_eq.1 g3
      have heq : byteAt s k = 32 := UInt8.toNat_inj.1 (by show _ = 32; omega)
      have hb : ¬ (stF s k).2 < k := by have := of_decide_eq_false h; omega
      have hnext := uptoB_succ he (fun _ => by omega)
      have hst := stF_none (fun c => c.2 heq) hb
      (repeat (refine ⟨by first | omega | (show _ ∧ _; omega) | ((repeat (first | rw [ByteArray.size_append] | rw [bsz] | rw [List.size_toArray] | rw [List.length_cons] | rw [List.length_nil])) <;> omega) | ((repeat rw [Int.toNat_natCast]) <;> first | omega | (show _ ∧ _; omega)) | (simp only [ByteArray.size_append, bsz, List.size_toArray, List.length_cons, List.length_nil]; omega) | (simp only [Int.toNat_natCast]; first | omega | (show _ ∧ _; omega)) | decide, ?_⟩; conv => whnf))
      refine loopE [] (k + 1) ⟨by omega, hnext⟩ (by omega) ⟨congrArg (fun z : List ByteArray × Nat => AV.c (vi (z.2 : Nat))) hst.symm, rfl, trivial⟩ ⟨congrArg (fun z : List ByteArray => sStr z) (congrArg Prod.fst hst).symm, trivial⟩ trivial (by kernel_rfl) trivial (by kernel_rfl)
    · rename_i g0
      have hks : ¬ k < s.size := by have := of_decide_eq_false g0; omega
      have hb : (stF s k).2 < k := by have := of_decide_eq_true h; omega
      have hnext := uptoB_succ he (fun c => absurd c hks)
      have hst := stF_add (fun c => hks c.1) hb
      refine substrW tbl_ok rfl rfl rfl rfl rfl rfl rfl ⟨by omega, by omega, by omega⟩ (go tbl_ok false ?_)
      conv => whnf
      refine appW tbl_ok rfl rfl rfl rfl rfl rfl rfl rfl rfl rfl rfl (sStr ((stF s k).1 ++ [s.extract (stF s k).2 k])) (slC_snoc rfl) (by intro h; cases h) (by omega) (go tbl_ok false ?_)
      conv => whnf
      (repeat (refine ⟨by first | omega | (show _ ∧ _; omega) | ((repeat (first | rw [ByteArray.size_append] | rw [bsz] | rw [List.size_toArray] | rw [List.length_cons] | rw [List.length_nil])) <;> omega) | ((repeat rw [Int.toNat_natCast]) <;> first | omega | (show _ ∧ _; omega)) | (simp only [ByteArray.size_append, bsz, List.size_toArray, List.length_cons, List.length_nil]; omega) | (simp only [Int.toNat_natCast]; first | omega | (show _ ∧ _; omega)) | decide, ?_⟩; conv => whnf))
      refine loopE [(0, 2)] (k + 1) ⟨by omega, hnext⟩ (by omega) ⟨congrArg (fun z : List ByteArray × Nat => AV.c (vi (z.2 : Nat))) hst.symm, rfl, trivial⟩ ⟨congrArg (fun z : List ByteArray × Nat => sStr z.1) hst.symm, trivial⟩ trivial (by kernel_rfl) trivial (by kernel_rfl)
    · rename_i g0
      have hks : ¬ k < s.size := by have := of_decide_eq_false g0; omega
      have hb : ¬ (stF s k).2 < k := by have := of_decide_eq_false h; omega
      have hnext := uptoB_succ he (fun c => absurd c hks)
      have hst := stF_none (fun c => hks c.1) hb
      (repeat (refine ⟨by first | omega | (show _ ∧ _; omega) | ((repeat (first | rw [ByteArray.size_append] | rw [bsz] | rw [List.size_toArray] | rw [List.length_cons] | rw [List.length_nil])) <;> omega) | ((repeat rw [Int.toNat_natCast]) <;> first | omega | (show _ ∧ _; omega)) | (simp only [ByteArray.size_append, bsz, List.size_toArray, List.length_cons, List.length_nil]; omega) | (simp only [Int.toNat_natCast]; first | omega | (show _ ∧ _; omega)) | decide, ?_⟩; conv => whnf))
      refine loopE [] (k + 1) ⟨by omega, hnext⟩ (by omega) ⟨congrArg (fun z : List ByteArray × Nat => AV.c (vi (z.2 : Nat))) hst.symm, rfl, trivial⟩ ⟨congrArg (fun z : List ByteArray => sStr z) (congrArg Prod.fst hst).symm, trivial⟩ trivial (by kernel_rfl) trivial (by kernel_rfl)
  · have e : k = s.size + 1 := by omega
    have hok := okB_of he (by omega)
    have hend : (stF s k).1 = fieldsB s := by rw [e]; exact stF_end s hok
    rw [hend]
    refine ⟨fun h12 => have h12 := of_decide_eq_true h12; ?_, fun h12 => have h12 := of_decide_eq_false h12; ?_⟩ <;> conv => whnf
    · have hP : ¬ PartsP s := fun c => by have := c.2.2; omega
      refine castR 1 (sStr []) rfl nil_cast ?_
      exact retW tbl_ok rfl rfl ⟨by (conv => whnf); exact congrArg sStr (partsL_not hP).symm, congrArg vb (partsB_not hP), trivial⟩
    · have hP : PartsP s := ⟨by omega, hok, by omega⟩
      exact retW tbl_ok rfl rfl ⟨congrArg sStr (partsL_is hP).symm, congrArg vb (partsB_is hP), trivial⟩

end Go.Proofs.YtcpjpkcahnldfaaGreatDoor
