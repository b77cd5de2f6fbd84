/- Texts for the law FnExactSplitInputs: H1. No conditions. -/
import Derived.Test.YtbmnagjpkhlncaaEng3
import Derived.Test.YtbmnagjpkhlncaaProg
import Derived.KernelRfl

set_option maxRecDepth 100000
namespace Go.Proofs.Ytbmnagjpkhlncaa
open Go.Sx
/-- What the program says of its types, as the executor reads it. -/
def tbl : List (TypeId × TI) := [
  (2, { agg := false, size := 1, bytes := 8, zero := [Value.int IntKind.i64 (0)], fields := [], elem := none, str := false, flat := some [CK.int IntKind.i64] }),
  (3, { agg := false, size := 1, bytes := 8, zero := [Value.int IntKind.i64 (0)], fields := [], elem := none, str := false, flat := some [CK.int IntKind.i64] }),
  (4, { agg := false, size := 1, bytes := 1, zero := [Value.bool false], fields := [], elem := none, str := false, flat := some [CK.bool] }),
  (5, { agg := false, size := 1, bytes := 1, zero := [Value.int IntKind.u8 (0)], fields := [], elem := none, str := false, flat := some [CK.int IntKind.u8] }),
  (9, { agg := false, size := 1, bytes := 16, zero := [Value.string ByteArray.empty], fields := [], elem := none, str := true, flat := none }),
  (12, { agg := false, size := 1, bytes := 8, zero := [Value.int IntKind.u64 (0)], fields := [], elem := none, str := false, flat := some [CK.int IntKind.u64] }),
  (21, { agg := false, size := 1, bytes := 4, zero := [Value.int IntKind.i32 (0)], fields := [], elem := none, str := false, flat := some [CK.int IntKind.i32] }),
  (22, { agg := false, size := 1, bytes := 24, zero := [Value.slice none 0 0], fields := [], elem := some 9, str := false, flat := none }),
  (28, { agg := false, size := 1, bytes := 24, zero := [Value.slice none 0 0], fields := [], elem := some 78, str := false, flat := none }),
  (31, { agg := false, size := 1, bytes := 24, zero := [Value.slice none 0 0], fields := [], elem := some 74, str := false, flat := none }),
  (35, { agg := false, size := 1, bytes := 24, zero := [Value.slice none 0 0], fields := [], elem := some 84, str := false, flat := none }),
  (37, { agg := false, size := 1, bytes := 24, zero := [Value.slice none 0 0], fields := [], elem := some 82, str := false, flat := none }),
  (43, { agg := false, size := 1, bytes := 24, zero := [Value.slice none 0 0], fields := [], elem := some 31, str := false, flat := none }),
  (49, { agg := false, size := 1, bytes := 24, zero := [Value.slice none 0 0], fields := [], elem := some 97, str := false, flat := none }),
  (50, { agg := true, size := 3, bytes := 40, zero := [Value.slice none 0 0, Value.int IntKind.i64 (0), Value.int IntKind.i64 (0)], fields := [(0, 49), (1, 3), (2, 3)], elem := none, str := false, flat := none }),
  (51, { agg := true, size := 3, bytes := 40, zero := [Value.slice none 0 0, Value.int IntKind.i64 (0), Value.int IntKind.i64 (0)], fields := [(0, 49), (1, 3), (2, 3)], elem := none, str := false, flat := none }),
  (53, { agg := false, size := 1, bytes := 24, zero := [Value.slice none 0 0], fields := [], elem := some 98, str := false, flat := none }),
  (54, { agg := true, size := 3, bytes := 40, zero := [Value.slice none 0 0, Value.int IntKind.i64 (0), Value.int IntKind.i64 (0)], fields := [(0, 53), (1, 3), (2, 3)], elem := none, str := false, flat := none }),
  (55, { agg := true, size := 3, bytes := 40, zero := [Value.slice none 0 0, Value.int IntKind.i64 (0), Value.int IntKind.i64 (0)], fields := [(0, 53), (1, 3), (2, 3)], elem := none, str := false, flat := none }),
  (61, { agg := true, size := 6, bytes := 96, zero := [Value.slice none 0 0, Value.int IntKind.i64 (0), Value.int IntKind.i64 (0), Value.slice none 0 0, Value.slice none 0 0, Value.int IntKind.i64 (0)], fields := [(0, 51), (3, 28), (4, 35), (5, 3)], elem := none, str := false, flat := none }),
  (62, { agg := true, size := 6, bytes := 96, zero := [Value.slice none 0 0, Value.int IntKind.i64 (0), Value.int IntKind.i64 (0), Value.slice none 0 0, Value.slice none 0 0, Value.int IntKind.i64 (0)], fields := [(0, 51), (3, 28), (4, 35), (5, 3)], elem := none, str := false, flat := none }),
  (65, { agg := true, size := 6, bytes := 96, zero := [Value.slice none 0 0, Value.int IntKind.i64 (0), Value.int IntKind.i64 (0), Value.slice none 0 0, Value.slice none 0 0, Value.int IntKind.i64 (0)], fields := [(0, 55), (3, 31), (4, 37), (5, 3)], elem := none, str := false, flat := none }),
  (66, { agg := true, size := 6, bytes := 96, zero := [Value.slice none 0 0, Value.int IntKind.i64 (0), Value.int IntKind.i64 (0), Value.slice none 0 0, Value.slice none 0 0, Value.int IntKind.i64 (0)], fields := [(0, 55), (3, 31), (4, 37), (5, 3)], elem := none, str := false, flat := none }),
  (69, { agg := false, size := 1, bytes := 24, zero := [Value.slice none 0 0], fields := [], elem := some 5, str := false, flat := none }),
  (71, { agg := true, size := 2, bytes := 16, zero := [Value.int IntKind.i64 (0), Value.int IntKind.i64 (0)], fields := [(0, 3), (1, 3)], elem := none, str := false, flat := some [CK.int IntKind.i64, CK.int IntKind.i64] }),
  (72, { agg := true, size := 2, bytes := 16, zero := [Value.int IntKind.i64 (0), Value.int IntKind.i64 (0)], fields := [(0, 3), (1, 3)], elem := none, str := false, flat := some [CK.int IntKind.i64, CK.int IntKind.i64] }),
  (73, { agg := true, size := 5, bytes := 40, zero := [Value.int IntKind.i64 (0), Value.int IntKind.i64 (0), Value.int IntKind.i64 (0), Value.int IntKind.i64 (0), Value.int IntKind.i64 (0)], fields := [(0, 3), (1, 72), (3, 3), (4, 3)], elem := none, str := false, flat := some [CK.int IntKind.i64, CK.int IntKind.i64, CK.int IntKind.i64, CK.int IntKind.i64, CK.int IntKind.i64] }),
  (74, { agg := true, size := 5, bytes := 40, zero := [Value.int IntKind.i64 (0), Value.int IntKind.i64 (0), Value.int IntKind.i64 (0), Value.int IntKind.i64 (0), Value.int IntKind.i64 (0)], fields := [(0, 3), (1, 72), (3, 3), (4, 3)], elem := none, str := false, flat := some [CK.int IntKind.i64, CK.int IntKind.i64, CK.int IntKind.i64, CK.int IntKind.i64, CK.int IntKind.i64] }),
  (76, { agg := true, size := 2, bytes := 16, zero := [Value.int IntKind.i64 (0), Value.int IntKind.i64 (0)], fields := [(0, 3), (1, 3)], elem := none, str := false, flat := some [CK.int IntKind.i64, CK.int IntKind.i64] }),
  (77, { agg := true, size := 5, bytes := 40, zero := [Value.int IntKind.i64 (0), Value.int IntKind.i64 (0), Value.int IntKind.i64 (0), Value.int IntKind.i64 (0), Value.int IntKind.i64 (0)], fields := [(0, 3), (1, 76), (3, 3), (4, 3)], elem := none, str := false, flat := some [CK.int IntKind.i64, CK.int IntKind.i64, CK.int IntKind.i64, CK.int IntKind.i64, CK.int IntKind.i64] }),
  (78, { agg := true, size := 5, bytes := 40, zero := [Value.int IntKind.i64 (0), Value.int IntKind.i64 (0), Value.int IntKind.i64 (0), Value.int IntKind.i64 (0), Value.int IntKind.i64 (0)], fields := [(0, 3), (1, 76), (3, 3), (4, 3)], elem := none, str := false, flat := some [CK.int IntKind.i64, CK.int IntKind.i64, CK.int IntKind.i64, CK.int IntKind.i64, CK.int IntKind.i64] }),
  (81, { agg := true, size := 3, bytes := 24, zero := [Value.int IntKind.i64 (0), Value.int IntKind.i64 (0), Value.int IntKind.i64 (0)], fields := [(0, 3), (1, 3), (2, 3)], elem := none, str := false, flat := some [CK.int IntKind.i64, CK.int IntKind.i64, CK.int IntKind.i64] }),
  (82, { agg := true, size := 3, bytes := 24, zero := [Value.int IntKind.i64 (0), Value.int IntKind.i64 (0), Value.int IntKind.i64 (0)], fields := [(0, 3), (1, 3), (2, 3)], elem := none, str := false, flat := some [CK.int IntKind.i64, CK.int IntKind.i64, CK.int IntKind.i64] }),
  (84, { agg := true, size := 3, bytes := 24, zero := [Value.int IntKind.i64 (0), Value.int IntKind.i64 (0), Value.int IntKind.i64 (0)], fields := [(0, 3), (1, 3), (2, 3)], elem := none, str := false, flat := some [CK.int IntKind.i64, CK.int IntKind.i64, CK.int IntKind.i64] }),
  (95, { agg := false, size := 1, bytes := 24, zero := [Value.slice none 0 0], fields := [], elem := some 3, str := false, flat := none }),
  (96, { agg := true, size := 4, bytes := 48, zero := [Value.int IntKind.i64 (0), Value.int IntKind.i64 (0), Value.int IntKind.i64 (0), Value.slice none 0 0], fields := [(0, 3), (1, 3), (2, 3), (3, 95)], elem := none, str := false, flat := none }),
  (97, { agg := true, size := 4, bytes := 48, zero := [Value.int IntKind.i64 (0), Value.int IntKind.i64 (0), Value.int IntKind.i64 (0), Value.slice none 0 0], fields := [(0, 3), (1, 3), (2, 3), (3, 95)], elem := none, str := false, flat := none }),
  (98, { agg := true, size := 4, bytes := 48, zero := [Value.int IntKind.i64 (0), Value.int IntKind.i64 (0), Value.int IntKind.i64 (0), Value.slice none 0 0], fields := [(0, 3), (1, 3), (2, 3), (3, 95)], elem := none, str := false, flat := none }),
  (113, { agg := false, size := 1, bytes := 4, zero := [Value.int IntKind.u32 (0)], fields := [], elem := none, str := false, flat := some [CK.int IntKind.u32] }),
  (117, { agg := false, size := 1, bytes := 8, zero := [Value.pointer none], fields := [], elem := none, str := false, flat := none })]

theorem tbl_ok : TblOk Try.prog tbl :=
  (.cons (by kernel_rfl) (.cons (by kernel_rfl) (.cons (by kernel_rfl) (.cons (by kernel_rfl) (.cons (by kernel_rfl) (.cons (by kernel_rfl) (.cons (by kernel_rfl) (.cons (by kernel_rfl) (.cons (by kernel_rfl) (.cons (by kernel_rfl) (.cons (by kernel_rfl) (.cons (by kernel_rfl) (.cons (by kernel_rfl) (.cons (by kernel_rfl) (.cons (by kernel_rfl) (.cons (by kernel_rfl) (.cons (by kernel_rfl) (.cons (by kernel_rfl) (.cons (by kernel_rfl) (.cons (by kernel_rfl) (.cons (by kernel_rfl) (.cons (by kernel_rfl) (.cons (by kernel_rfl) (.cons (by kernel_rfl) (.cons (by kernel_rfl) (.cons (by kernel_rfl) (.cons (by kernel_rfl) (.cons (by kernel_rfl) (.cons (by kernel_rfl) (.cons (by kernel_rfl) (.cons (by kernel_rfl) (.cons (by kernel_rfl) (.cons (by kernel_rfl) (.cons (by kernel_rfl) (.cons (by kernel_rfl) (.cons (by kernel_rfl) (.cons (by kernel_rfl) (.cons (by kernel_rfl) (.cons (by kernel_rfl) (.cons (by kernel_rfl) .nil))))))))))))))))))))))))))))))))))))))))
theorem szStringS (xs : List ByteArray) (left : Int) (ho : xs.length ≤ maxLen ∧ ∀ y ∈ xs, y.size ≤ maxLen) (h0 : 0 ≤ left) (h1 : left ≤ 1048576) : Meets Try.prog 10 [.one (sStr xs), .one (vi left)] [.one (vi (szR (wS (fun b => b.size) xs) left))] := by
  have hl : xs.length ≤ 9223372036854775807 := ho.1
  refine enterW tbl_ok false Try.func10 rfl (by decide) fun W => ?_
  conv => whnf
  refine ⟨by simp only [inR]; omega, ?_⟩
  conv => whnf
  refine ⟨fun h => ?_, fun h => ?_⟩ <;> simp only [decide_eq_true_eq, decide_eq_false_iff_not] at h <;> conv => whnf
  · refine retW tbl_ok rfl rfl ⟨?_, trivial⟩
    conv => whnf
    rw [szR_neg (by rw [wS_eq]; omega)]
  refine loopW tbl_ok false [] (fun k : Nat => [(1, .c (vi (left - xs.length - (((xs.take k).map (fun b : ByteArray => b.size)).sum : Nat)))), (5, .c (vi k))]) (fun _ => []) (fun _ => [])
    (fun k => k ≤ xs.length ∧ 0 ≤ left - xs.length - (((xs.take k).map (fun b : ByteArray => b.size)).sum : Nat)) (fun k => xs.length - k) 0 ⟨Nat.zero_le _, by simp; omega⟩ ⟨by simp [nth, ren2, ren1, ren0], rfl, trivial⟩ trivial trivial trivial (by kernel_rfl) (fun k hk => ?_)
  obtain ⟨hk, hp⟩ := hk
  conv => whnf
  refine ⟨fun h => ?_, fun h => ?_⟩ <;> simp only [decide_eq_true_eq, decide_eq_false_iff_not] at h <;> conv => whnf
  · have h : k < xs.length := by omega
    have hle := wS_take_le (fun b : ByteArray => b.size) xs k h
    have hst := wS_take (fun b : ByteArray => b.size) xs k h
    refine ⟨by omega, ?_⟩
    conv => whnf
    have hm : (xs.getD k default).size ≤ 9223372036854775807 := ho.2 _ (by rw [List.getD, List.getElem?_eq_getElem h]; exact List.getElem_mem h)
    refine ⟨by simp only [inR, Int.toNat_natCast]; omega, ?_⟩
    conv => whnf
    refine ⟨fun h' => ?_, fun h' => ?_⟩ <;> simp only [decide_eq_true_eq, decide_eq_false_iff_not, Int.toNat_natCast] at h' <;> conv => whnf
    · refine retW tbl_ok rfl rfl ⟨?_, trivial⟩
      conv => whnf
      rw [szR_neg (by rw [wS_eq]; omega)]
    · refine ⟨by simp only [inR]; omega, ?_⟩
      conv => whnf
      refine loopE [] (k + 1) ⟨by omega, by omega⟩ (by omega) ⟨?_, rfl, trivial⟩ trivial trivial (by kernel_rfl) trivial (by kernel_rfl)
      conv => whnf
      exact congrArg (fun n => AV.c (vi n)) (by simp only [Int.toNat_natCast]; omega)
  · refine retW tbl_ok rfl rfl ⟨?_, trivial⟩
    conv => whnf
    have := wS_all (fun b : ByteArray => b.size) xs k (by omega)
    rw [szR_pos (by rw [wS_eq]; omega)]
    exact congrArg vi (by rw [wS_eq]; omega)

theorem toStringS (xs : List ByteArray) (hx : xs.length ≤ 1048576) : Meets Try.prog 12 [.one (sStr xs)] [.one (sStr xs)] := by
  have hl := hx
  refine enterW tbl_ok false Try.func12 rfl (by decide) fun W => ?_
  conv => whnf
  refine ⟨by omega, ?_⟩
  conv => whnf
  refine castW 0 (sStr (List.replicate xs.length default)) rfl (cast_make (α := ByteArray) (e := (fun b => [vs b])) xs.length ⟨.inl rfl, trivial⟩) ?_
  refine loopW tbl_ok false [] (fun k : Nat => [(4, .c (vi k))]) (fun _ => []) (fun k => [⟨0, sStr (xs.take k ++ List.replicate (xs.length - k) default)⟩])
    (fun k => k ≤ xs.length) (fun k => xs.length - k) 0 (Nat.zero_le _) ⟨rfl, trivial⟩ trivial ⟨?_, trivial⟩ trivial (by kernel_rfl) (fun k hk => ?_)
  · conv => whnf
    exact rep_start (e := (fun b => [vs b])) xs
  conv => whnf
  refine ⟨fun h => ?_, fun h => ?_⟩ <;> simp at h <;> conv => whnf
  · refine ⟨by omega, ?_⟩
    conv => whnf
    refine ⟨by simp; omega, ?_⟩
    conv => whnf
    refine storeW tbl_ok rfl rfl rfl rfl rfl rfl rfl rfl _ (slC_set (xs := xs.take k ++ List.replicate (xs.length - k) default) (x := xs.getD k default) (e := (fun b => [vs b])) (by simp; omega) ?_) (go tbl_ok false ?_)
    · rfl
    conv => whnf
    refine ⟨by simp only [inR]; omega, ?_⟩
    conv => whnf
    refine loopE [] (k + 1) (by omega) (by omega) ⟨rfl, trivial⟩ ⟨?_, trivial⟩ trivial (by kernel_rfl) trivial (by kernel_rfl)
    conv => whnf
    exact congrArg (slC 1 (fun b => [vs b])) (take_rep_set xs k default h)
  · exact retW tbl_ok rfl rfl ⟨by conv => whnf
                                  rw [take_rep_end _ _ _ (by omega)], trivial⟩

theorem eqStringS (xs : List ByteArray) (hx : xs.length ≤ 1048576) : Meets Try.prog 14 [.one (sStr xs), .one (sStr xs)] [.one (vb true)] := by
  have hl := hx
  refine enterW tbl_ok false Try.func14 rfl (by decide) fun W => ?_
  conv => whnf
  refine ⟨fun h => ?_, fun _ => ?_⟩ <;> conv => whnf
  · simp at h
  refine loopW tbl_ok false [] (fun k : Nat => [(5, .c (vi k))]) (fun _ => []) (fun _ => [])
    (fun k => k ≤ xs.length) (fun k => xs.length - k) 0 (Nat.zero_le _) ⟨rfl, trivial⟩ trivial trivial trivial (by kernel_rfl) (fun k hk => ?_)
  conv => whnf
  refine ⟨fun h => ?_, fun h => ?_⟩ <;> simp at h <;> conv => whnf
  · refine drawW rfl [0, 1, 2, 3, 4, 5, 6, 7, 8] (by kernel_rfl) (go tbl_ok false ?_)
    conv => whnf
    refine ⟨by omega, ?_⟩
    conv => whnf
    refine ⟨by omega, ?_⟩
    conv => whnf
    refine ⟨fun h' => ?_, fun _ => ?_⟩ <;> conv => whnf
    · simp [ba_self] at h'
    refine ⟨by simp only [inR]; omega, ?_⟩
    conv => whnf
    exact loopE [] (k + 1) (by omega) (by omega) ⟨rfl, trivial⟩ trivial trivial (by kernel_rfl) trivial (by kernel_rfl)
  · exact retW tbl_ok rfl rfl ⟨rfl, trivial⟩

theorem szRecordS (xs : List GRecord) (left : Int) (ho : xs.length ≤ maxLen) (h0 : 0 ≤ left) (h1 : left ≤ 1048576) : Meets Try.prog 15 [.one (sGRecord xs), .one (vi left)] [.one (vi (szR (xs.length) left))] := by
  have hl : xs.length ≤ 9223372036854775807 := ho
  refine enterW tbl_ok false Try.func15 rfl (by decide) fun W => ?_
  conv => whnf
  refine ⟨by simp only [inR]; omega, ?_⟩
  conv => whnf
  refine ⟨fun h => ?_, fun h => ?_⟩ <;> simp only [decide_eq_true_eq, decide_eq_false_iff_not] at h <;> conv => whnf
  · refine retW tbl_ok rfl rfl ⟨?_, trivial⟩
    conv => whnf
    rw [szR_neg (by omega)]
  · refine retW tbl_ok rfl rfl ⟨?_, trivial⟩
    conv => whnf
    rw [szR_pos (by omega)]

theorem toStamp (x : GStamp) : Meets Try.prog 70 [.agg x.c] [.agg x.c] := by
  refine enterW tbl_ok false Try.func70 rfl (by decide) fun W => ?_
  conv => whnf
  exact retW tbl_ok rfl rfl ⟨⟨rfl, rfl, trivial⟩, trivial⟩

theorem toRecord (x : GRecord) : Meets Try.prog 48 [.agg x.c] [.agg x.c] := by
  refine enterW tbl_ok false Try.func48 rfl (by decide) fun W => ?_
  conv => whnf
  refine callW (toStamp x.stamp) rfl (go tbl_ok false ?_)
  conv => whnf
  exact retW tbl_ok rfl rfl ⟨⟨rfl, rfl, rfl, rfl, rfl, trivial⟩, trivial⟩

theorem toRecordS (xs : List GRecord) (hx : xs.length ≤ 1048576) : Meets Try.prog 17 [.one (sGRecord xs)] [.one (sGRecord xs)] := by
  have hl := hx
  refine enterW tbl_ok false Try.func17 rfl (by decide) fun W => ?_
  conv => whnf
  refine ⟨by omega, ?_⟩
  conv => whnf
  refine castW 0 (sGRecord (List.replicate xs.length default)) rfl (cast_make (α := GRecord) (e := GRecord.c) xs.length ⟨.inl rfl, .inl rfl, .inl rfl, .inl rfl, .inl rfl, trivial⟩) ?_
  refine loopW tbl_ok false [] (fun k : Nat => [(4, .c (vi k))]) (fun _ => []) (fun k => [⟨0, sGRecord (xs.take k ++ List.replicate (xs.length - k) default)⟩])
    (fun k => k ≤ xs.length) (fun k => xs.length - k) 0 (Nat.zero_le _) ⟨rfl, trivial⟩ trivial ⟨?_, trivial⟩ trivial (by kernel_rfl) (fun k hk => ?_)
  · conv => whnf
    exact rep_start (e := GRecord.c) xs
  conv => whnf
  refine ⟨fun h => ?_, fun h => ?_⟩ <;> simp at h <;> conv => whnf
  · refine ⟨by omega, ?_⟩
    conv => whnf
    refine callW (toRecord (xs.getD k default)) rfl (go tbl_ok false ?_)
    conv => whnf
    refine ⟨by simp; omega, ?_⟩
    conv => whnf
    refine storeW tbl_ok rfl rfl rfl rfl rfl rfl rfl rfl _ (slC_set (xs := xs.take k ++ List.replicate (xs.length - k) default) (x := xs.getD k default) (e := GRecord.c) (by simp; omega) ?_) (go tbl_ok false ?_)
    · rfl
    conv => whnf
    refine ⟨by simp only [inR]; omega, ?_⟩
    conv => whnf
    refine loopE [] (k + 1) (by omega) (by omega) ⟨rfl, trivial⟩ ⟨?_, trivial⟩ trivial (by kernel_rfl) trivial (by kernel_rfl)
    conv => whnf
    exact congrArg (slC 5 GRecord.c) (take_rep_set xs k default h)
  · exact retW tbl_ok rfl rfl ⟨by conv => whnf
                                  rw [take_rep_end _ _ _ (by omega)], trivial⟩

theorem eqStamp (x : GStamp) : Meets Try.prog 71 [.agg x.c, .agg x.c] [.one (vb true)] := by
  refine enterW tbl_ok false Try.func71 rfl (by decide) fun W => ?_
  conv => whnf
  refine ⟨fun h => ?_, fun _ => ?_⟩ <;> conv => whnf
  · simp at h
  refine ⟨fun h => ?_, fun _ => ?_⟩ <;> conv => whnf
  · simp at h
  exact retW tbl_ok rfl rfl ⟨rfl, trivial⟩

theorem eqRecord (x : GRecord) : Meets Try.prog 49 [.agg x.c, .agg x.c] [.one (vb true)] := by
  refine enterW tbl_ok false Try.func49 rfl (by decide) fun W => ?_
  conv => whnf
  refine ⟨fun h => ?_, fun _ => ?_⟩ <;> conv => whnf
  · simp at h
  refine callR (eqStamp x.stamp) rfl (go tbl_ok false ?_)
  conv => whnf
  refine ⟨fun h => ?_, fun _ => ?_⟩ <;> conv => whnf
  · simp at h
  refine ⟨fun h => ?_, fun _ => ?_⟩ <;> conv => whnf
  · simp at h
  refine ⟨fun h => ?_, fun _ => ?_⟩ <;> conv => whnf
  · simp at h
  exact retW tbl_ok rfl rfl ⟨rfl, trivial⟩

theorem eqRecordS (xs : List GRecord) (hx : xs.length ≤ 1048576) : Meets Try.prog 19 [.one (sGRecord xs), .one (sGRecord xs)] [.one (vb true)] := by
  have hl := hx
  refine enterW tbl_ok false Try.func19 rfl (by decide) fun W => ?_
  conv => whnf
  refine ⟨fun h => ?_, fun _ => ?_⟩ <;> conv => whnf
  · simp at h
  refine loopW tbl_ok false [] (fun k : Nat => [(5, .c (vi k))]) (fun _ => []) (fun _ => [])
    (fun k => k ≤ xs.length) (fun k => xs.length - k) 0 (Nat.zero_le _) ⟨rfl, trivial⟩ trivial trivial trivial (by kernel_rfl) (fun k hk => ?_)
  conv => whnf
  refine ⟨fun h => ?_, fun h => ?_⟩ <;> simp at h <;> conv => whnf
  · refine drawW rfl [0, 1, 2, 3, 4, 5, 6, 7, 8, 9] (by kernel_rfl) (go tbl_ok false ?_)
    conv => whnf
    refine ⟨by omega, ?_⟩
    conv => whnf
    refine ⟨by omega, ?_⟩
    conv => whnf
    refine callR (eqRecord (xs.getD k default)) rfl (go tbl_ok false ?_)
    conv => whnf
    refine ⟨fun h' => ?_, fun _ => ?_⟩ <;> conv => whnf
    · simp at h'
    refine ⟨by simp only [inR]; omega, ?_⟩
    conv => whnf
    exact loopE [] (k + 1) (by omega) (by omega) ⟨rfl, trivial⟩ trivial trivial (by kernel_rfl) trivial (by kernel_rfl)
  · exact retW tbl_ok rfl rfl ⟨rfl, trivial⟩

theorem szPickS (xs : List GPick) (left : Int) (ho : xs.length ≤ maxLen) (h0 : 0 ≤ left) (h1 : left ≤ 1048576) : Meets Try.prog 20 [.one (sGPick xs), .one (vi left)] [.one (vi (szR (xs.length) left))] := by
  have hl : xs.length ≤ 9223372036854775807 := ho
  refine enterW tbl_ok false Try.func20 rfl (by decide) fun W => ?_
  conv => whnf
  refine ⟨by simp only [inR]; omega, ?_⟩
  conv => whnf
  refine ⟨fun h => ?_, fun h => ?_⟩ <;> simp only [decide_eq_true_eq, decide_eq_false_iff_not] at h <;> conv => whnf
  · refine retW tbl_ok rfl rfl ⟨?_, trivial⟩
    conv => whnf
    rw [szR_neg (by omega)]
  · refine retW tbl_ok rfl rfl ⟨?_, trivial⟩
    conv => whnf
    rw [szR_pos (by omega)]

theorem toPick (x : GPick) : Meets Try.prog 51 [.agg x.c] [.agg x.c] := by
  refine enterW tbl_ok false Try.func51 rfl (by decide) fun W => ?_
  conv => whnf
  exact retW tbl_ok rfl rfl ⟨⟨rfl, rfl, rfl, trivial⟩, trivial⟩

theorem toPickS (xs : List GPick) (hx : xs.length ≤ 1048576) : Meets Try.prog 22 [.one (sGPick xs)] [.one (sGPick xs)] := by
  have hl := hx
  refine enterW tbl_ok false Try.func22 rfl (by decide) fun W => ?_
  conv => whnf
  refine ⟨by omega, ?_⟩
  conv => whnf
  refine castW 0 (sGPick (List.replicate xs.length default)) rfl (cast_make (α := GPick) (e := GPick.c) xs.length ⟨.inl rfl, .inl rfl, .inl rfl, trivial⟩) ?_
  refine loopW tbl_ok false [] (fun k : Nat => [(4, .c (vi k))]) (fun _ => []) (fun k => [⟨0, sGPick (xs.take k ++ List.replicate (xs.length - k) default)⟩])
    (fun k => k ≤ xs.length) (fun k => xs.length - k) 0 (Nat.zero_le _) ⟨rfl, trivial⟩ trivial ⟨?_, trivial⟩ trivial (by kernel_rfl) (fun k hk => ?_)
  · conv => whnf
    exact rep_start (e := GPick.c) xs
  conv => whnf
  refine ⟨fun h => ?_, fun h => ?_⟩ <;> simp at h <;> conv => whnf
  · refine ⟨by omega, ?_⟩
    conv => whnf
    refine callW (toPick (xs.getD k default)) rfl (go tbl_ok false ?_)
    conv => whnf
    refine ⟨by simp; omega, ?_⟩
    conv => whnf
    refine storeW tbl_ok rfl rfl rfl rfl rfl rfl rfl rfl _ (slC_set (xs := xs.take k ++ List.replicate (xs.length - k) default) (x := xs.getD k default) (e := GPick.c) (by simp; omega) ?_) (go tbl_ok false ?_)
    · rfl
    conv => whnf
    refine ⟨by simp only [inR]; omega, ?_⟩
    conv => whnf
    refine loopE [] (k + 1) (by omega) (by omega) ⟨rfl, trivial⟩ ⟨?_, trivial⟩ trivial (by kernel_rfl) trivial (by kernel_rfl)
    conv => whnf
    exact congrArg (slC 3 GPick.c) (take_rep_set xs k default h)
  · exact retW tbl_ok rfl rfl ⟨by conv => whnf
                                  rw [take_rep_end _ _ _ (by omega)], trivial⟩

theorem eqPick (x : GPick) : Meets Try.prog 52 [.agg x.c, .agg x.c] [.one (vb true)] := by
  refine enterW tbl_ok false Try.func52 rfl (by decide) fun W => ?_
  conv => whnf
  refine ⟨fun h => ?_, fun _ => ?_⟩ <;> conv => whnf
  · simp at h
  refine ⟨fun h => ?_, fun _ => ?_⟩ <;> conv => whnf
  · simp at h
  refine ⟨fun h => ?_, fun _ => ?_⟩ <;> conv => whnf
  · simp at h
  exact retW tbl_ok rfl rfl ⟨rfl, trivial⟩

theorem eqPickS (xs : List GPick) (hx : xs.length ≤ 1048576) : Meets Try.prog 24 [.one (sGPick xs), .one (sGPick xs)] [.one (vb true)] := by
  have hl := hx
  refine enterW tbl_ok false Try.func24 rfl (by decide) fun W => ?_
  conv => whnf
  refine ⟨fun h => ?_, fun _ => ?_⟩ <;> conv => whnf
  · simp at h
  refine loopW tbl_ok false [] (fun k : Nat => [(5, .c (vi k))]) (fun _ => []) (fun _ => [])
    (fun k => k ≤ xs.length) (fun k => xs.length - k) 0 (Nat.zero_le _) ⟨rfl, trivial⟩ trivial trivial trivial (by kernel_rfl) (fun k hk => ?_)
  conv => whnf
  refine ⟨fun h => ?_, fun h => ?_⟩ <;> simp at h <;> conv => whnf
  · refine drawW rfl [0, 1, 2, 3, 4, 5, 6, 7, 8, 9] (by kernel_rfl) (go tbl_ok false ?_)
    conv => whnf
    refine ⟨by omega, ?_⟩
    conv => whnf
    refine ⟨by omega, ?_⟩
    conv => whnf
    refine callR (eqPick (xs.getD k default)) rfl (go tbl_ok false ?_)
    conv => whnf
    refine ⟨fun h' => ?_, fun _ => ?_⟩ <;> conv => whnf
    · simp at h'
    refine ⟨by simp only [inR]; omega, ?_⟩
    conv => whnf
    exact loopE [] (k + 1) (by omega) (by omega) ⟨rfl, trivial⟩ trivial trivial (by kernel_rfl) trivial (by kernel_rfl)
  · exact retW tbl_ok rfl rfl ⟨rfl, trivial⟩

theorem eqRecordSS (xs : List (List GRecord)) (hx : xs.length ≤ 1048576 ∧ ∀ y ∈ xs, y.length ≤ 1048576) : Meets Try.prog 29 [.one (slC 1 (fun y => [sGRecord y]) xs), .one (slC 1 (fun y => [sGRecord y]) xs)] [.one (vb true)] := by
  have hl := hx.1
  refine enterW tbl_ok false Try.func29 rfl (by decide) fun W => ?_
  conv => whnf
  refine ⟨fun h => ?_, fun _ => ?_⟩ <;> conv => whnf
  · simp at h
  refine loopW tbl_ok false [] (fun k : Nat => [(5, .c (vi k))]) (fun _ => []) (fun _ => [])
    (fun k => k ≤ xs.length) (fun k => xs.length - k) 0 (Nat.zero_le _) ⟨rfl, trivial⟩ trivial trivial trivial (by kernel_rfl) (fun k hk => ?_)
  conv => whnf
  refine ⟨fun h => ?_, fun h => ?_⟩ <;> simp at h <;> conv => whnf
  · refine drawW rfl [0, 1, 2, 3, 4, 5, 6, 7, 8, 9] (by kernel_rfl) (go tbl_ok false ?_)
    conv => whnf
    refine ⟨by omega, ?_⟩
    conv => whnf
    refine ⟨by omega, ?_⟩
    conv => whnf
    refine callR (eqRecordS (xs.getD k default) (hx.2 _ (getD_mem h))) rfl (go tbl_ok false ?_)
    conv => whnf
    refine ⟨fun h' => ?_, fun _ => ?_⟩ <;> conv => whnf
    · simp at h'
    refine ⟨by simp only [inR]; omega, ?_⟩
    conv => whnf
    exact loopE [] (k + 1) (by omega) (by omega) ⟨rfl, trivial⟩ trivial trivial (by kernel_rfl) trivial (by kernel_rfl)
  · exact retW tbl_ok rfl rfl ⟨rfl, trivial⟩

theorem szIntS (xs : List Int) (left : Int) (ho : xs.length ≤ maxLen) (h0 : 0 ≤ left) (h1 : left ≤ 1048576) : Meets Try.prog 81 [.one (sInt xs), .one (vi left)] [.one (vi (szR (xs.length) left))] := by
  have hl : xs.length ≤ 9223372036854775807 := ho
  refine enterW tbl_ok false Try.func81 rfl (by decide) fun W => ?_
  conv => whnf
  refine ⟨by simp only [inR]; omega, ?_⟩
  conv => whnf
  refine ⟨fun h => ?_, fun h => ?_⟩ <;> simp only [decide_eq_true_eq, decide_eq_false_iff_not] at h <;> conv => whnf
  · refine retW tbl_ok rfl rfl ⟨?_, trivial⟩
    conv => whnf
    rw [szR_neg (by omega)]
  · refine retW tbl_ok rfl rfl ⟨?_, trivial⟩
    conv => whnf
    rw [szR_pos (by omega)]

theorem szNode (x : GNode) (left : Int) (ho : x.ok) (h0 : 0 ≤ left) (h1 : left ≤ 1048576) : Meets Try.prog 72 [.agg x.c, .one (vi left)] [.one (vi (szR x.w left))] := by
  have hw : x.w = x.outs.length := rfl
  obtain ⟨o_kind, o_a, o_b, o_outs⟩ := ho
  refine enterW tbl_ok false Try.func72 rfl (by decide) fun W => ?_
  conv => whnf
  refine callR (szIntS x.outs (left) o_outs.1 (by omega) (by omega)) rfl (go tbl_ok false ?_)
  conv => whnf
  refine ⟨fun h => ?_, fun h => ?_⟩ <;> simp only [decide_eq_true_eq, decide_eq_false_iff_not] at h <;> conv => whnf
  · refine retW tbl_ok rfl rfl ⟨?_, trivial⟩
    conv => whnf
    have h := szR_lt h (by omega)
    rw [szR_neg (by omega)]
  have h_outs := szR_ge h
  rw [szR_pos h_outs]
  refine retW tbl_ok rfl rfl ⟨?_, trivial⟩
  conv => whnf
  rw [szR_pos (by omega)]
  exact congrArg vi (by omega)

theorem szNodeS (xs : List GNode) (left : Int) (ho : xs.length ≤ maxLen ∧ ∀ y ∈ xs, GNode.ok y) (h0 : 0 ≤ left) (h1 : left ≤ 1048576) : Meets Try.prog 58 [.one (sGNode xs), .one (vi left)] [.one (vi (szR (wS GNode.w xs) left))] := by
  have hl : xs.length ≤ 9223372036854775807 := ho.1
  refine enterW tbl_ok false Try.func58 rfl (by decide) fun W => ?_
  conv => whnf
  refine ⟨by simp only [inR]; omega, ?_⟩
  conv => whnf
  refine ⟨fun h => ?_, fun h => ?_⟩ <;> simp only [decide_eq_true_eq, decide_eq_false_iff_not] at h <;> conv => whnf
  · refine retW tbl_ok rfl rfl ⟨?_, trivial⟩
    conv => whnf
    rw [szR_neg (by rw [wS_eq]; omega)]
  refine loopW tbl_ok false [] (fun k : Nat => [(1, .c (vi (left - xs.length - (((xs.take k).map GNode.w).sum : Nat)))), (5, .c (vi k))]) (fun _ => []) (fun _ => [])
    (fun k => k ≤ xs.length ∧ 0 ≤ left - xs.length - (((xs.take k).map GNode.w).sum : Nat)) (fun k => xs.length - k) 0 ⟨Nat.zero_le _, by simp; omega⟩ ⟨by simp [nth, ren2, ren1, ren0], rfl, trivial⟩ trivial trivial trivial (by kernel_rfl) (fun k hk => ?_)
  obtain ⟨hk, hp⟩ := hk
  conv => whnf
  refine ⟨fun h => ?_, fun h => ?_⟩ <;> simp only [decide_eq_true_eq, decide_eq_false_iff_not] at h <;> conv => whnf
  · have h : k < xs.length := by omega
    have hle := wS_take_le GNode.w xs k h
    have hst := wS_take GNode.w xs k h
    refine ⟨by omega, ?_⟩
    conv => whnf
    refine callR (szNode (xs.getD k default) _ (ho.2 _ (by rw [List.getD, List.getElem?_eq_getElem h]; exact List.getElem_mem h)) hp (by omega)) rfl (go tbl_ok false ?_)
    conv => whnf
    refine ⟨fun h' => ?_, fun h' => ?_⟩ <;> simp only [decide_eq_true_eq, decide_eq_false_iff_not] at h' <;> conv => whnf
    · refine retW tbl_ok rfl rfl ⟨?_, trivial⟩
      conv => whnf
      have h' := szR_lt h' hp
      rw [szR_neg (by rw [wS_eq]; omega)]
    · have h' := szR_ge h'
      refine ⟨by simp only [inR]; omega, ?_⟩
      conv => whnf
      refine loopE [] (k + 1) ⟨by omega, by omega⟩ (by omega) ⟨?_, rfl, trivial⟩ trivial trivial (by kernel_rfl) trivial (by kernel_rfl)
      conv => whnf
      rw [szR_pos h']
      exact congrArg (fun n => AV.c (vi n)) (by omega)
  · refine retW tbl_ok rfl rfl ⟨?_, trivial⟩
    conv => whnf
    have := wS_all GNode.w xs k (by omega)
    rw [szR_pos (by rw [wS_eq]; omega)]
    exact congrArg vi (by rw [wS_eq]; omega)

theorem szGraph (x : GGraph) (left : Int) (ho : x.ok) (h0 : 0 ≤ left) (h1 : left ≤ 1048576) : Meets Try.prog 33 [.agg x.c, .one (vi left)] [.one (vi (szR x.w left))] := by
  have hw : x.w = wS GNode.w x.nodes := rfl
  obtain ⟨o_nodes, o_workers, o_cap⟩ := ho
  refine enterW tbl_ok false Try.func33 rfl (by decide) fun W => ?_
  conv => whnf
  refine callR (szNodeS x.nodes (left) o_nodes (by omega) (by omega)) rfl (go tbl_ok false ?_)
  conv => whnf
  refine ⟨fun h => ?_, fun h => ?_⟩ <;> simp only [decide_eq_true_eq, decide_eq_false_iff_not] at h <;> conv => whnf
  · refine retW tbl_ok rfl rfl ⟨?_, trivial⟩
    conv => whnf
    have h := szR_lt h (by omega)
    rw [szR_neg (by omega)]
  have h_nodes := szR_ge h
  rw [szR_pos h_nodes]
  refine retW tbl_ok rfl rfl ⟨?_, trivial⟩
  conv => whnf
  rw [szR_pos (by omega)]
  exact congrArg vi (by omega)

theorem toIntS (xs : List Int) (hx : xs.length ≤ 1048576) : Meets Try.prog 82 [.one (sInt xs)] [.one (sInt xs)] := by
  have hl := hx
  refine enterW tbl_ok false Try.func82 rfl (by decide) fun W => ?_
  conv => whnf
  refine ⟨by omega, ?_⟩
  conv => whnf
  refine castW 0 (sInt (List.replicate xs.length default)) rfl (cast_make (α := Int) (e := (fun n => [vi n])) xs.length ⟨.inl rfl, trivial⟩) ?_
  refine loopW tbl_ok false [] (fun k : Nat => [(4, .c (vi k))]) (fun _ => []) (fun k => [⟨0, sInt (xs.take k ++ List.replicate (xs.length - k) default)⟩])
    (fun k => k ≤ xs.length) (fun k => xs.length - k) 0 (Nat.zero_le _) ⟨rfl, trivial⟩ trivial ⟨?_, trivial⟩ trivial (by kernel_rfl) (fun k hk => ?_)
  · conv => whnf
    exact rep_start (e := (fun n => [vi n])) xs
  conv => whnf
  refine ⟨fun h => ?_, fun h => ?_⟩ <;> simp at h <;> conv => whnf
  · refine ⟨by omega, ?_⟩
    conv => whnf
    refine ⟨by simp; omega, ?_⟩
    conv => whnf
    refine storeW tbl_ok rfl rfl rfl rfl rfl rfl rfl rfl _ (slC_set (xs := xs.take k ++ List.replicate (xs.length - k) default) (x := xs.getD k default) (e := (fun n => [vi n])) (by simp; omega) ?_) (go tbl_ok false ?_)
    · rfl
    conv => whnf
    refine ⟨by simp only [inR]; omega, ?_⟩
    conv => whnf
    refine loopE [] (k + 1) (by omega) (by omega) ⟨rfl, trivial⟩ ⟨?_, trivial⟩ trivial (by kernel_rfl) trivial (by kernel_rfl)
    conv => whnf
    exact congrArg (slC 1 (fun n => [vi n])) (take_rep_set xs k default h)
  · exact retW tbl_ok rfl rfl ⟨by conv => whnf
                                  rw [take_rep_end _ _ _ (by omega)], trivial⟩

theorem toNode (x : GNode) (h : x.w ≤ 1048576) : Meets Try.prog 73 [.agg x.c] [.agg x.c] := by
  refine enterW tbl_ok false Try.func73 rfl (by decide) fun W => ?_
  conv => whnf
  refine callW (toIntS x.outs (by simp only [GNode.w] at h; omega)) rfl (go tbl_ok false ?_)
  conv => whnf
  exact retW tbl_ok rfl rfl ⟨⟨rfl, rfl, rfl, rfl, trivial⟩, trivial⟩

theorem toNodeS (xs : List GNode) (hx : wS GNode.w xs ≤ 1048576) : Meets Try.prog 60 [.one (sGNode xs)] [.one (sGNode xs)] := by
  have hl : xs.length ≤ 1048576 := by simp only [wS] at hx; omega
  refine enterW tbl_ok false Try.func60 rfl (by decide) fun W => ?_
  conv => whnf
  refine ⟨by omega, ?_⟩
  conv => whnf
  refine castW 0 (sGNode (List.replicate xs.length default)) rfl (cast_make (α := GNode) (e := GNode.c) xs.length ⟨.inl rfl, .inl rfl, .inl rfl, .nil _ _, trivial⟩) ?_
  refine loopW tbl_ok false [] (fun k : Nat => [(4, .c (vi k))]) (fun _ => []) (fun k => [⟨0, sGNode (xs.take k ++ List.replicate (xs.length - k) default)⟩])
    (fun k => k ≤ xs.length) (fun k => xs.length - k) 0 (Nat.zero_le _) ⟨rfl, trivial⟩ trivial ⟨?_, trivial⟩ trivial (by kernel_rfl) (fun k hk => ?_)
  · conv => whnf
    exact rep_start (e := GNode.c) xs
  conv => whnf
  refine ⟨fun h => ?_, fun h => ?_⟩ <;> simp at h <;> conv => whnf
  · refine ⟨by omega, ?_⟩
    conv => whnf
    refine callW (toNode (xs.getD k default) (by have := wS_take_le GNode.w xs k h; simp only [wS] at hx; omega)) rfl (go tbl_ok false ?_)
    conv => whnf
    refine ⟨by simp; omega, ?_⟩
    conv => whnf
    refine storeW tbl_ok rfl rfl rfl rfl rfl rfl rfl rfl _ (slC_set (xs := xs.take k ++ List.replicate (xs.length - k) default) (x := xs.getD k default) (e := GNode.c) (by simp; omega) ?_) (go tbl_ok false ?_)
    · rfl
    conv => whnf
    refine ⟨by simp only [inR]; omega, ?_⟩
    conv => whnf
    refine loopE [] (k + 1) (by omega) (by omega) ⟨rfl, trivial⟩ ⟨?_, trivial⟩ trivial (by kernel_rfl) trivial (by kernel_rfl)
    conv => whnf
    exact congrArg (slC 4 GNode.c) (take_rep_set xs k default h)
  · exact retW tbl_ok rfl rfl ⟨by conv => whnf
                                  rw [take_rep_end _ _ _ (by omega)], trivial⟩

theorem toGraph (x : GGraph) (h : x.w ≤ 1048576) : Meets Try.prog 35 [.agg x.c] [.agg x.c] := by
  refine enterW tbl_ok false Try.func35 rfl (by decide) fun W => ?_
  conv => whnf
  refine callW (toNodeS x.nodes (by simp only [GGraph.w] at h; omega)) rfl (go tbl_ok false ?_)
  conv => whnf
  exact retW tbl_ok rfl rfl ⟨⟨rfl, rfl, rfl, trivial⟩, trivial⟩

theorem eqIntS (xs : List Int) (hx : xs.length ≤ 1048576) : Meets Try.prog 83 [.one (sInt xs), .one (sInt xs)] [.one (vb true)] := by
  have hl := hx
  refine enterW tbl_ok false Try.func83 rfl (by decide) fun W => ?_
  conv => whnf
  refine ⟨fun h => ?_, fun _ => ?_⟩ <;> conv => whnf
  · simp at h
  refine loopW tbl_ok false [] (fun k : Nat => [(5, .c (vi k))]) (fun _ => []) (fun _ => [])
    (fun k => k ≤ xs.length) (fun k => xs.length - k) 0 (Nat.zero_le _) ⟨rfl, trivial⟩ trivial trivial trivial (by kernel_rfl) (fun k hk => ?_)
  conv => whnf
  refine ⟨fun h => ?_, fun h => ?_⟩ <;> simp at h <;> conv => whnf
  · refine drawW rfl [0, 1, 2, 3, 4, 5, 6, 7, 8] (by kernel_rfl) (go tbl_ok false ?_)
    conv => whnf
    refine ⟨by omega, ?_⟩
    conv => whnf
    refine ⟨by omega, ?_⟩
    conv => whnf
    refine ⟨fun h' => ?_, fun _ => ?_⟩ <;> conv => whnf
    · simp at h'
    refine ⟨by simp only [inR]; omega, ?_⟩
    conv => whnf
    exact loopE [] (k + 1) (by omega) (by omega) ⟨rfl, trivial⟩ trivial trivial (by kernel_rfl) trivial (by kernel_rfl)
  · exact retW tbl_ok rfl rfl ⟨rfl, trivial⟩

theorem eqNode (x : GNode) (h : x.w ≤ 1048576) : Meets Try.prog 75 [.agg x.c, .agg x.c] [.one (vb true)] := by
  refine enterW tbl_ok false Try.func75 rfl (by decide) fun W => ?_
  conv => whnf
  refine ⟨fun h => ?_, fun _ => ?_⟩ <;> conv => whnf
  · simp at h
  refine ⟨fun h => ?_, fun _ => ?_⟩ <;> conv => whnf
  · simp at h
  refine ⟨fun h => ?_, fun _ => ?_⟩ <;> conv => whnf
  · simp at h
  refine callR (eqIntS x.outs (by simp only [GNode.w] at h; omega)) rfl (go tbl_ok false ?_)
  conv => whnf
  refine ⟨fun h => ?_, fun _ => ?_⟩ <;> conv => whnf
  · simp at h
  exact retW tbl_ok rfl rfl ⟨rfl, trivial⟩

theorem eqNodeS (xs : List GNode) (hx : wS GNode.w xs ≤ 1048576) : Meets Try.prog 62 [.one (sGNode xs), .one (sGNode xs)] [.one (vb true)] := by
  have hl : xs.length ≤ 1048576 := by simp only [wS] at hx; omega
  refine enterW tbl_ok false Try.func62 rfl (by decide) fun W => ?_
  conv => whnf
  refine ⟨fun h => ?_, fun _ => ?_⟩ <;> conv => whnf
  · simp at h
  refine loopW tbl_ok false [] (fun k : Nat => [(5, .c (vi k))]) (fun _ => []) (fun _ => [])
    (fun k => k ≤ xs.length) (fun k => xs.length - k) 0 (Nat.zero_le _) ⟨rfl, trivial⟩ trivial trivial trivial (by kernel_rfl) (fun k hk => ?_)
  conv => whnf
  refine ⟨fun h => ?_, fun h => ?_⟩ <;> simp at h <;> conv => whnf
  · refine drawW rfl [0, 1, 2, 3, 4, 5, 6, 7, 8, 9] (by kernel_rfl) (go tbl_ok false ?_)
    conv => whnf
    refine ⟨by omega, ?_⟩
    conv => whnf
    refine ⟨by omega, ?_⟩
    conv => whnf
    refine callR (eqNode (xs.getD k default) (by have := wS_take_le GNode.w xs k h; simp only [wS] at hx; omega)) rfl (go tbl_ok false ?_)
    conv => whnf
    refine ⟨fun h' => ?_, fun _ => ?_⟩ <;> conv => whnf
    · simp at h'
    refine ⟨by simp only [inR]; omega, ?_⟩
    conv => whnf
    exact loopE [] (k + 1) (by omega) (by omega) ⟨rfl, trivial⟩ trivial trivial (by kernel_rfl) trivial (by kernel_rfl)
  · exact retW tbl_ok rfl rfl ⟨rfl, trivial⟩

theorem eqGraph (x : GGraph) (h : x.w ≤ 1048576) : Meets Try.prog 37 [.agg x.c, .agg x.c] [.one (vb true)] := by
  refine enterW tbl_ok false Try.func37 rfl (by decide) fun W => ?_
  conv => whnf
  refine callR (eqNodeS x.nodes (by simp only [GGraph.w] at h; omega)) rfl (go tbl_ok false ?_)
  conv => whnf
  refine ⟨fun h => ?_, fun _ => ?_⟩ <;> conv => whnf
  · simp at h
  refine ⟨fun h => ?_, fun _ => ?_⟩ <;> conv => whnf
  · simp at h
  refine ⟨fun h => ?_, fun _ => ?_⟩ <;> conv => whnf
  · simp at h
  exact retW tbl_ok rfl rfl ⟨rfl, trivial⟩

theorem szScript (x : GScript) (left : Int) (ho : x.ok) (h0 : 0 ≤ left) (h1 : left ≤ 1048576) : Meets Try.prog 42 [.agg x.c, .one (vi left)] [.one (vi (szR x.w left))] := by
  have hw : x.w = x.graph.w + x.inputs.length + x.picks.length := rfl
  obtain ⟨o_graph, o_inputs, o_picks, o_rounds⟩ := ho
  refine enterW tbl_ok false Try.func42 rfl (by decide) fun W => ?_
  conv => whnf
  refine callR (szGraph x.graph (left) o_graph (by omega) (by omega)) rfl (go tbl_ok false ?_)
  conv => whnf
  refine ⟨fun h => ?_, fun h => ?_⟩ <;> simp only [decide_eq_true_eq, decide_eq_false_iff_not] at h <;> conv => whnf
  · refine retW tbl_ok rfl rfl ⟨?_, trivial⟩
    conv => whnf
    have h := szR_lt h (by omega)
    rw [szR_neg (by omega)]
  have h_graph := szR_ge h
  rw [szR_pos h_graph]
  refine callR (szRecordS x.inputs (left - (x.graph.w : Nat)) o_inputs.1 (by omega) (by omega)) rfl (go tbl_ok false ?_)
  conv => whnf
  refine ⟨fun h => ?_, fun h => ?_⟩ <;> simp only [decide_eq_true_eq, decide_eq_false_iff_not] at h <;> conv => whnf
  · refine retW tbl_ok rfl rfl ⟨?_, trivial⟩
    conv => whnf
    have h := szR_lt h (by omega)
    rw [szR_neg (by omega)]
  have h_inputs := szR_ge h
  rw [szR_pos h_inputs]
  refine callR (szPickS x.picks (left - (x.graph.w : Nat) - (x.inputs.length : Nat)) o_picks.1 (by omega) (by omega)) rfl (go tbl_ok false ?_)
  conv => whnf
  refine ⟨fun h => ?_, fun h => ?_⟩ <;> simp only [decide_eq_true_eq, decide_eq_false_iff_not] at h <;> conv => whnf
  · refine retW tbl_ok rfl rfl ⟨?_, trivial⟩
    conv => whnf
    have h := szR_lt h (by omega)
    rw [szR_neg (by omega)]
  have h_picks := szR_ge h
  rw [szR_pos h_picks]
  refine retW tbl_ok rfl rfl ⟨?_, trivial⟩
  conv => whnf
  rw [szR_pos (by omega)]
  exact congrArg vi (by omega)

theorem toScript (x : GScript) (h : x.w ≤ 1048576) : Meets Try.prog 44 [.agg x.c] [.agg x.c] := by
  refine enterW tbl_ok false Try.func44 rfl (by decide) fun W => ?_
  conv => whnf
  refine callW (toGraph x.graph (by simp only [GScript.w] at h; omega)) rfl (go tbl_ok false ?_)
  conv => whnf
  refine callW (toRecordS x.inputs (by simp only [GScript.w] at h; omega)) rfl (go tbl_ok false ?_)
  conv => whnf
  refine callW (toPickS x.picks (by simp only [GScript.w] at h; omega)) rfl (go tbl_ok false ?_)
  conv => whnf
  exact retW tbl_ok rfl rfl ⟨⟨rfl, rfl, rfl, rfl, rfl, rfl, trivial⟩, trivial⟩

theorem eqScript (x : GScript) (h : x.w ≤ 1048576) : Meets Try.prog 46 [.agg x.c, .agg x.c] [.one (vb true)] := by
  refine enterW tbl_ok false Try.func46 rfl (by decide) fun W => ?_
  conv => whnf
  refine callR (eqGraph x.graph (by simp only [GScript.w] at h; omega)) rfl (go tbl_ok false ?_)
  conv => whnf
  refine ⟨fun h => ?_, fun _ => ?_⟩ <;> conv => whnf
  · simp at h
  refine callR (eqRecordS x.inputs (by simp only [GScript.w] at h; omega)) rfl (go tbl_ok false ?_)
  conv => whnf
  refine ⟨fun h => ?_, fun _ => ?_⟩ <;> conv => whnf
  · simp at h
  refine callR (eqPickS x.picks (by simp only [GScript.w] at h; omega)) rfl (go tbl_ok false ?_)
  conv => whnf
  refine ⟨fun h => ?_, fun _ => ?_⟩ <;> conv => whnf
  · simp at h
  refine ⟨fun h => ?_, fun _ => ?_⟩ <;> conv => whnf
  · simp at h
  exact retW tbl_ok rfl rfl ⟨rfl, trivial⟩

end Go.Proofs.Ytbmnagjpkhlncaa
