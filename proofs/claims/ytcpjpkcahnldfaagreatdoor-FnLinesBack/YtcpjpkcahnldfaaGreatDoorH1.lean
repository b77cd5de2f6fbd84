/- Texts for the law FnLinesBack: H1. No conditions. -/
import Derived.Test.YtcpjpkcahnldfaaGreatDoorEng3
import Derived.Test.YtcpjpkcahnldfaaGreatDoorProg
import Derived.KernelRfl

set_option maxRecDepth 100000
namespace Go.Proofs.YtcpjpkcahnldfaaGreatDoor
open Go.Sx
/-- What the program says of its types, as the executor reads it. -/
def tbl : List (TypeId × TI) := [
  (2, { agg := false, size := 1, bytes := 8, zero := [Value.int IntKind.i64 (0)], fields := [], elem := none, str := false, flat := some [CK.int IntKind.i64] }),
  (3, { agg := false, size := 1, bytes := 8, zero := [Value.int IntKind.i64 (0)], fields := [], elem := none, str := false, flat := some [CK.int IntKind.i64] }),
  (4, { agg := false, size := 1, bytes := 1, zero := [Value.bool false], fields := [], elem := none, str := false, flat := some [CK.bool] }),
  (5, { agg := false, size := 1, bytes := 1, zero := [Value.int IntKind.u8 (0)], fields := [], elem := none, str := false, flat := some [CK.int IntKind.u8] }),
  (9, { agg := false, size := 1, bytes := 16, zero := [Value.string ByteArray.empty], fields := [], elem := none, str := true, flat := none }),
  (12, { agg := false, size := 1, bytes := 8, zero := [Value.int IntKind.u64 (0)], fields := [], elem := none, str := false, flat := some [CK.int IntKind.u64] }),
  (21, { agg := false, size := 1, bytes := 4, zero := [Value.int IntKind.i32 (0)], fields := [], elem := none, str := false, flat := some [CK.int IntKind.i32] }),
  (22, { agg := false, size := 1, bytes := 24, zero := [Value.slice none 0 0], fields := [], elem := some 38, str := false, flat := none }),
  (23, { agg := true, size := 3, bytes := 40, zero := [Value.slice none 0 0, Value.int IntKind.i64 (0), Value.int IntKind.i64 (0)], fields := [(0, 22), (1, 3), (2, 3)], elem := none, str := false, flat := none }),
  (24, { agg := true, size := 3, bytes := 40, zero := [Value.slice none 0 0, Value.int IntKind.i64 (0), Value.int IntKind.i64 (0)], fields := [(0, 22), (1, 3), (2, 3)], elem := none, str := false, flat := none }),
  (25, { agg := false, size := 1, bytes := 24, zero := [Value.slice none 0 0], fields := [], elem := some 46, str := false, flat := none }),
  (26, { agg := false, size := 1, bytes := 24, zero := [Value.slice none 0 0], fields := [], elem := some 52, str := false, flat := none }),
  (27, { agg := true, size := 6, bytes := 96, zero := [Value.slice none 0 0, Value.int IntKind.i64 (0), Value.int IntKind.i64 (0), Value.slice none 0 0, Value.slice none 0 0, Value.int IntKind.i64 (0)], fields := [(0, 24), (3, 25), (4, 26), (5, 3)], elem := none, str := false, flat := none }),
  (28, { agg := true, size := 6, bytes := 96, zero := [Value.slice none 0 0, Value.int IntKind.i64 (0), Value.int IntKind.i64 (0), Value.slice none 0 0, Value.slice none 0 0, Value.int IntKind.i64 (0)], fields := [(0, 24), (3, 25), (4, 26), (5, 3)], elem := none, str := false, flat := none }),
  (34, { agg := false, size := 1, bytes := 24, zero := [Value.slice none 0 0], fields := [], elem := some 5, str := false, flat := none }),
  (36, { agg := false, size := 1, bytes := 24, zero := [Value.slice none 0 0], fields := [], elem := some 3, str := false, flat := none }),
  (37, { agg := true, size := 4, bytes := 48, zero := [Value.int IntKind.i64 (0), Value.int IntKind.i64 (0), Value.int IntKind.i64 (0), Value.slice none 0 0], fields := [(0, 3), (1, 3), (2, 3), (3, 36)], elem := none, str := false, flat := none }),
  (38, { agg := true, size := 4, bytes := 48, zero := [Value.int IntKind.i64 (0), Value.int IntKind.i64 (0), Value.int IntKind.i64 (0), Value.slice none 0 0], fields := [(0, 3), (1, 3), (2, 3), (3, 36)], elem := none, str := false, flat := none }),
  (43, { agg := true, size := 2, bytes := 16, zero := [Value.int IntKind.i64 (0), Value.int IntKind.i64 (0)], fields := [(0, 3), (1, 3)], elem := none, str := false, flat := some [CK.int IntKind.i64, CK.int IntKind.i64] }),
  (44, { agg := true, size := 2, bytes := 16, zero := [Value.int IntKind.i64 (0), Value.int IntKind.i64 (0)], fields := [(0, 3), (1, 3)], elem := none, str := false, flat := some [CK.int IntKind.i64, CK.int IntKind.i64] }),
  (45, { agg := true, size := 5, bytes := 40, zero := [Value.int IntKind.i64 (0), Value.int IntKind.i64 (0), Value.int IntKind.i64 (0), Value.int IntKind.i64 (0), Value.int IntKind.i64 (0)], fields := [(0, 3), (1, 44), (3, 3), (4, 3)], elem := none, str := false, flat := some [CK.int IntKind.i64, CK.int IntKind.i64, CK.int IntKind.i64, CK.int IntKind.i64, CK.int IntKind.i64] }),
  (46, { agg := true, size := 5, bytes := 40, zero := [Value.int IntKind.i64 (0), Value.int IntKind.i64 (0), Value.int IntKind.i64 (0), Value.int IntKind.i64 (0), Value.int IntKind.i64 (0)], fields := [(0, 3), (1, 44), (3, 3), (4, 3)], elem := none, str := false, flat := some [CK.int IntKind.i64, CK.int IntKind.i64, CK.int IntKind.i64, CK.int IntKind.i64, CK.int IntKind.i64] }),
  (51, { agg := true, size := 3, bytes := 24, zero := [Value.int IntKind.i64 (0), Value.int IntKind.i64 (0), Value.int IntKind.i64 (0)], fields := [(0, 3), (1, 3), (2, 3)], elem := none, str := false, flat := some [CK.int IntKind.i64, CK.int IntKind.i64, CK.int IntKind.i64] }),
  (52, { agg := true, size := 3, bytes := 24, zero := [Value.int IntKind.i64 (0), Value.int IntKind.i64 (0), Value.int IntKind.i64 (0)], fields := [(0, 3), (1, 3), (2, 3)], elem := none, str := false, flat := some [CK.int IntKind.i64, CK.int IntKind.i64, CK.int IntKind.i64] }),
  (61, { agg := false, size := 1, bytes := 24, zero := [Value.slice none 0 0], fields := [], elem := some 9, str := false, flat := none }),
  (66, { agg := false, size := 1, bytes := 8, zero := [Value.pointer none], fields := [], elem := none, str := false, flat := none }),
  (82, { agg := false, size := 1, bytes := 8, zero := [Value.pointer none], fields := [], elem := none, str := false, flat := none }),
  (106, { agg := true, size := 3, bytes := 40, zero := [Value.slice none 0 0, Value.int IntKind.i64 (0), Value.int IntKind.i64 (0)], fields := [(0, 34), (1, 3), (2, 3)], elem := none, str := false, flat := none }),
  (107, { agg := true, size := 3, bytes := 40, zero := [Value.slice none 0 0, Value.int IntKind.i64 (0), Value.int IntKind.i64 (0)], fields := [(0, 34), (1, 3), (2, 3)], elem := none, str := false, flat := none }),
  (117, { agg := false, size := 1, bytes := 16, zero := [Value.nilIface], fields := [], elem := none, str := false, flat := none }),
  (120, { agg := false, size := 1, bytes := 8, zero := [Value.pointer none], fields := [], elem := none, str := false, flat := none }),
  (121, { agg := true, size := 2, bytes := 32, zero := [Value.pointer none, Value.slice none 0 0], fields := [(0, 120), (1, 34)], elem := none, str := false, flat := none }),
  (122, { agg := true, size := 2, bytes := 32, zero := [Value.pointer none, Value.slice none 0 0], fields := [(0, 120), (1, 34)], elem := none, str := false, flat := none }),
  (133, { agg := false, size := 1, bytes := 24, zero := [Value.slice none 0 0], fields := [], elem := some 135, str := false, flat := none }),
  (134, { agg := true, size := 2, bytes := 16, zero := [Value.int IntKind.i64 (0), Value.int IntKind.i64 (0)], fields := [(0, 3), (1, 3)], elem := none, str := false, flat := some [CK.int IntKind.i64, CK.int IntKind.i64] }),
  (135, { agg := true, size := 2, bytes := 16, zero := [Value.int IntKind.i64 (0), Value.int IntKind.i64 (0)], fields := [(0, 3), (1, 3)], elem := none, str := false, flat := some [CK.int IntKind.i64, CK.int IntKind.i64] }),
  (136, { agg := false, size := 1, bytes := 4, zero := [Value.int IntKind.u32 (0)], fields := [], elem := none, str := false, flat := some [CK.int IntKind.u32] }),
  (138, { agg := false, size := 1, bytes := 8, zero := [Value.pointer none], fields := [], elem := none, str := false, flat := none }),
  (140, { agg := false, size := 1, bytes := 8, zero := [Value.pointer none], fields := [], elem := none, str := false, flat := none }),
  (141, { agg := false, size := 1, bytes := 8, zero := [Value.int IntKind.u64 (0)], fields := [], elem := none, str := false, flat := some [CK.int IntKind.u64] }),
  (144, { agg := false, size := 1, bytes := 24, zero := [Value.slice none 0 0], fields := [], elem := some 150, str := false, flat := none }),
  (145, { agg := false, size := 1, bytes := 24, zero := [Value.slice none 0 0], fields := [], elem := some 153, str := false, flat := none }),
  (146, { agg := true, size := 3, bytes := 56, zero := [Value.slice none 0 0, Value.slice none 0 0, Value.int IntKind.i64 (0)], fields := [(0, 144), (1, 145), (2, 3)], elem := none, str := false, flat := none }),
  (147, { agg := true, size := 3, bytes := 56, zero := [Value.slice none 0 0, Value.slice none 0 0, Value.int IntKind.i64 (0)], fields := [(0, 144), (1, 145), (2, 3)], elem := none, str := false, flat := none }),
  (148, { agg := false, size := 1, bytes := 2, zero := [Value.int IntKind.u16 (0)], fields := [], elem := none, str := false, flat := some [CK.int IntKind.u16] }),
  (149, { agg := true, size := 3, bytes := 6, zero := [Value.int IntKind.u16 (0), Value.int IntKind.u16 (0), Value.int IntKind.u16 (0)], fields := [(0, 148), (1, 148), (2, 148)], elem := none, str := false, flat := some [CK.int IntKind.u16, CK.int IntKind.u16, CK.int IntKind.u16] }),
  (150, { agg := true, size := 3, bytes := 6, zero := [Value.int IntKind.u16 (0), Value.int IntKind.u16 (0), Value.int IntKind.u16 (0)], fields := [(0, 148), (1, 148), (2, 148)], elem := none, str := false, flat := some [CK.int IntKind.u16, CK.int IntKind.u16, CK.int IntKind.u16] }),
  (152, { agg := true, size := 3, bytes := 12, zero := [Value.int IntKind.u32 (0), Value.int IntKind.u32 (0), Value.int IntKind.u32 (0)], fields := [(0, 136), (1, 136), (2, 136)], elem := none, str := false, flat := some [CK.int IntKind.u32, CK.int IntKind.u32, CK.int IntKind.u32] }),
  (153, { agg := true, size := 3, bytes := 12, zero := [Value.int IntKind.u32 (0), Value.int IntKind.u32 (0), Value.int IntKind.u32 (0)], fields := [(0, 136), (1, 136), (2, 136)], elem := none, str := false, flat := some [CK.int IntKind.u32, CK.int IntKind.u32, CK.int IntKind.u32] }),
  (155, { agg := false, size := 1, bytes := 8, zero := [Value.int IntKind.i64 (0)], fields := [], elem := none, str := false, flat := some [CK.int IntKind.i64] }),
  (158, { agg := false, size := 1, bytes := 8, zero := [Value.pointer none], fields := [], elem := none, str := false, flat := none }),
  (164, { agg := true, size := 24, bytes := 24, zero := [Value.int IntKind.u8 (0), Value.int IntKind.u8 (0), Value.int IntKind.u8 (0), Value.int IntKind.u8 (0), Value.int IntKind.u8 (0), Value.int IntKind.u8 (0), Value.int IntKind.u8 (0), Value.int IntKind.u8 (0), Value.int IntKind.u8 (0), Value.int IntKind.u8 (0), Value.int IntKind.u8 (0), Value.int IntKind.u8 (0), Value.int IntKind.u8 (0), Value.int IntKind.u8 (0), Value.int IntKind.u8 (0), Value.int IntKind.u8 (0), Value.int IntKind.u8 (0), Value.int IntKind.u8 (0), Value.int IntKind.u8 (0), Value.int IntKind.u8 (0), Value.int IntKind.u8 (0), Value.int IntKind.u8 (0), Value.int IntKind.u8 (0), Value.int IntKind.u8 (0)], fields := [], elem := none, str := false, flat := none }),
  (165, { agg := false, size := 1, bytes := 8, zero := [Value.int IntKind.u64 (0)], fields := [], elem := none, str := false, flat := some [CK.int IntKind.u64] }),
  (170, { agg := true, size := 2, bytes := 2, zero := [Value.int IntKind.u8 (0), Value.int IntKind.u8 (0)], fields := [(0, 5), (1, 5)], elem := none, str := false, flat := some [CK.int IntKind.u8, CK.int IntKind.u8] }),
  (171, { agg := true, size := 2, bytes := 2, zero := [Value.int IntKind.u8 (0), Value.int IntKind.u8 (0)], fields := [(0, 5), (1, 5)], elem := none, str := false, flat := some [CK.int IntKind.u8, CK.int IntKind.u8] }),
  (172, { agg := true, size := 32, bytes := 32, zero := [Value.int IntKind.u8 (0), Value.int IntKind.u8 (0), Value.int IntKind.u8 (0), Value.int IntKind.u8 (0), Value.int IntKind.u8 (0), Value.int IntKind.u8 (0), Value.int IntKind.u8 (0), Value.int IntKind.u8 (0), Value.int IntKind.u8 (0), Value.int IntKind.u8 (0), Value.int IntKind.u8 (0), Value.int IntKind.u8 (0), Value.int IntKind.u8 (0), Value.int IntKind.u8 (0), Value.int IntKind.u8 (0), Value.int IntKind.u8 (0), Value.int IntKind.u8 (0), Value.int IntKind.u8 (0), Value.int IntKind.u8 (0), Value.int IntKind.u8 (0), Value.int IntKind.u8 (0), Value.int IntKind.u8 (0), Value.int IntKind.u8 (0), Value.int IntKind.u8 (0), Value.int IntKind.u8 (0), Value.int IntKind.u8 (0), Value.int IntKind.u8 (0), Value.int IntKind.u8 (0), Value.int IntKind.u8 (0), Value.int IntKind.u8 (0), Value.int IntKind.u8 (0), Value.int IntKind.u8 (0)], fields := [], elem := none, str := false, flat := none }),
  (175, { agg := false, size := 1, bytes := 8, zero := [Value.pointer none], fields := [], elem := none, str := false, flat := none }),
  (176, { agg := false, size := 1, bytes := 8, zero := [Value.pointer none], fields := [], elem := none, str := false, flat := none }),
  (180, { agg := true, size := 3, bytes := 48, zero := [Value.string ByteArray.empty, Value.string ByteArray.empty, Value.nilIface], fields := [(0, 9), (1, 9), (2, 117)], elem := none, str := false, flat := none }),
  (181, { agg := true, size := 3, bytes := 48, zero := [Value.string ByteArray.empty, Value.string ByteArray.empty, Value.nilIface], fields := [(0, 9), (1, 9), (2, 117)], elem := none, str := false, flat := none }),
  (184, { agg := true, size := 20, bytes := 160, zero := [Value.int IntKind.u64 (0), Value.int IntKind.u64 (0), Value.int IntKind.u64 (0), Value.int IntKind.u64 (0), Value.int IntKind.u64 (0), Value.int IntKind.u64 (0), Value.int IntKind.u64 (0), Value.int IntKind.u64 (0), Value.int IntKind.u64 (0), Value.int IntKind.u64 (0), Value.int IntKind.u64 (0), Value.int IntKind.u64 (0), Value.int IntKind.u64 (0), Value.int IntKind.u64 (0), Value.int IntKind.u64 (0), Value.int IntKind.u64 (0), Value.int IntKind.u64 (0), Value.int IntKind.u64 (0), Value.int IntKind.u64 (0), Value.int IntKind.u64 (0)], fields := [], elem := none, str := false, flat := none }),
  (189, { agg := false, size := 1, bytes := 8, zero := [Value.pointer none], fields := [], elem := none, str := false, flat := none }),
  (190, { agg := true, size := 1, bytes := 16, zero := [Value.string ByteArray.empty], fields := [(0, 9)], elem := none, str := false, flat := none }),
  (191, { agg := true, size := 1, bytes := 16, zero := [Value.string ByteArray.empty], fields := [(0, 9)], elem := none, str := false, flat := none }),
  (193, { agg := true, size := 32, bytes := 32, zero := [Value.int IntKind.u8 (0), Value.int IntKind.u8 (0), Value.int IntKind.u8 (0), Value.int IntKind.u8 (0), Value.int IntKind.u8 (0), Value.int IntKind.u8 (0), Value.int IntKind.u8 (0), Value.int IntKind.u8 (0), Value.int IntKind.u8 (0), Value.int IntKind.u8 (0), Value.int IntKind.u8 (0), Value.int IntKind.u8 (0), Value.int IntKind.u8 (0), Value.int IntKind.u8 (0), Value.int IntKind.u8 (0), Value.int IntKind.u8 (0), Value.int IntKind.u8 (0), Value.int IntKind.u8 (0), Value.int IntKind.u8 (0), Value.int IntKind.u8 (0), Value.int IntKind.u8 (0), Value.int IntKind.u8 (0), Value.int IntKind.u8 (0), Value.int IntKind.u8 (0), Value.int IntKind.u8 (0), Value.int IntKind.u8 (0), Value.int IntKind.u8 (0), Value.int IntKind.u8 (0), Value.int IntKind.u8 (0), Value.int IntKind.u8 (0), Value.int IntKind.u8 (0), Value.int IntKind.u8 (0)], fields := [], elem := none, str := false, flat := none })]

theorem tbl_ok : TblOk Tryz.prog tbl :=
  (.cons (by kernel_rfl) (.cons (by kernel_rfl) (.cons (by kernel_rfl) (.cons (by kernel_rfl) (.cons (by kernel_rfl) (.cons (by kernel_rfl) (.cons (by kernel_rfl) (.cons (by kernel_rfl) (.cons (by kernel_rfl) (.cons (by kernel_rfl) (.cons (by kernel_rfl) (.cons (by kernel_rfl) (.cons (by kernel_rfl) (.cons (by kernel_rfl) (.cons (by kernel_rfl) (.cons (by kernel_rfl) (.cons (by kernel_rfl) (.cons (by kernel_rfl) (.cons (by kernel_rfl) (.cons (by kernel_rfl) (.cons (by kernel_rfl) (.cons (by kernel_rfl) (.cons (by kernel_rfl) (.cons (by kernel_rfl) (.cons (by kernel_rfl) (.cons (by kernel_rfl) (.cons (by kernel_rfl) (.cons (by kernel_rfl) (.cons (by kernel_rfl) (.cons (by kernel_rfl) (.cons (by kernel_rfl) (.cons (by kernel_rfl) (.cons (by kernel_rfl) (.cons (by kernel_rfl) (.cons (by kernel_rfl) (.cons (by kernel_rfl) (.cons (by kernel_rfl) (.cons (by kernel_rfl) (.cons (by kernel_rfl) (.cons (by kernel_rfl) (.cons (by kernel_rfl) (.cons (by kernel_rfl) (.cons (by kernel_rfl) (.cons (by kernel_rfl) (.cons (by kernel_rfl) (.cons (by kernel_rfl) (.cons (by kernel_rfl) (.cons (by kernel_rfl) (.cons (by kernel_rfl) (.cons (by kernel_rfl) (.cons (by kernel_rfl) (.cons (by kernel_rfl) (.cons (by kernel_rfl) (.cons (by kernel_rfl) (.cons (by kernel_rfl) (.cons (by kernel_rfl) (.cons (by kernel_rfl) (.cons (by kernel_rfl) (.cons (by kernel_rfl) (.cons (by kernel_rfl) (.cons (by kernel_rfl) (.cons (by kernel_rfl) (.cons (by kernel_rfl) (.cons (by kernel_rfl) (.cons (by kernel_rfl) .nil)))))))))))))))))))))))))))))))))))))))))))))))))))))))))))))))))
theorem eqIntS (xs : List Int) (hx : xs.length ≤ 1048576) : Meets Tryz.prog 122 [.one (sInt xs), .one (sInt xs)] [.one (vb true)] := by
  have hl := hx
  refine enterW tbl_ok false Tryz.func122 rfl (by decide) fun W => ?_
  conv => whnf
  refine ⟨fun h => ?_, fun _ => ?_⟩ <;> conv => whnf
  · simp at h
  refine loopW tbl_ok false [] (fun k : Nat => [(5, .c (vi k))]) (fun _ => []) (fun _ => [])
    (fun k => k ≤ xs.length) (fun k => xs.length - k) 0 (Nat.zero_le _) ⟨rfl, trivial⟩ trivial trivial trivial (by kernel_rfl) (fun k hk => ?_)
  conv => whnf
  refine ⟨fun h => ?_, fun h => ?_⟩ <;> simp at h <;> conv => whnf
  · refine drawW rfl [0, 1, 2, 3, 4, 5, 6, 7, 8] (by kernel_rfl) (go tbl_ok false ?_)
    conv => whnf
    refine ⟨by omega, ?_⟩
    conv => whnf
    refine ⟨by omega, ?_⟩
    conv => whnf
    refine ⟨fun h' => ?_, fun _ => ?_⟩ <;> conv => whnf
    · simp at h'
    refine ⟨by simp only [inR]; omega, ?_⟩
    conv => whnf
    exact loopE [] (k + 1) (by omega) (by omega) ⟨rfl, trivial⟩ trivial trivial (by kernel_rfl) trivial (by kernel_rfl)
  · exact retW tbl_ok rfl rfl ⟨rfl, trivial⟩

theorem eqNode (x : GNode) (h : x.w ≤ 1048576) : Meets Tryz.prog 105 [.agg x.c, .agg x.c] [.one (vb true)] := by
  refine enterW tbl_ok false Tryz.func105 rfl (by decide) fun W => ?_
  conv => whnf
  refine ⟨fun h => ?_, fun _ => ?_⟩ <;> conv => whnf
  · simp at h
  refine ⟨fun h => ?_, fun _ => ?_⟩ <;> conv => whnf
  · simp at h
  refine ⟨fun h => ?_, fun _ => ?_⟩ <;> conv => whnf
  · simp at h
  refine callR (eqIntS x.outs (by simp only [GNode.w] at h; omega)) rfl (go tbl_ok false ?_)
  conv => whnf
  refine ⟨fun h => ?_, fun _ => ?_⟩ <;> conv => whnf
  · simp at h
  exact retW tbl_ok rfl rfl ⟨rfl, trivial⟩

theorem eqNodeS (xs : List GNode) (hx : wS GNode.w xs ≤ 1048576) : Meets Tryz.prog 80 [.one (sGNode xs), .one (sGNode xs)] [.one (vb true)] := by
  have hl : xs.length ≤ 1048576 := by simp only [wS] at hx; omega
  refine enterW tbl_ok false Tryz.func80 rfl (by decide) fun W => ?_
  conv => whnf
  refine ⟨fun h => ?_, fun _ => ?_⟩ <;> conv => whnf
  · simp at h
  refine loopW tbl_ok false [] (fun k : Nat => [(5, .c (vi k))]) (fun _ => []) (fun _ => [])
    (fun k => k ≤ xs.length) (fun k => xs.length - k) 0 (Nat.zero_le _) ⟨rfl, trivial⟩ trivial trivial trivial (by kernel_rfl) (fun k hk => ?_)
  conv => whnf
  refine ⟨fun h => ?_, fun h => ?_⟩ <;> simp at h <;> conv => whnf
  · refine drawW rfl [0, 1, 2, 3, 4, 5, 6, 7, 8, 9] (by kernel_rfl) (go tbl_ok false ?_)
    conv => whnf
    refine ⟨by omega, ?_⟩
    conv => whnf
    refine ⟨by omega, ?_⟩
    conv => whnf
    refine callR (eqNode (xs.getD k default) (by have := wS_take_le GNode.w xs k h; simp only [wS] at hx; omega)) rfl (go tbl_ok false ?_)
    conv => whnf
    refine ⟨fun h' => ?_, fun _ => ?_⟩ <;> conv => whnf
    · simp at h'
    refine ⟨by simp only [inR]; omega, ?_⟩
    conv => whnf
    exact loopE [] (k + 1) (by omega) (by omega) ⟨rfl, trivial⟩ trivial trivial (by kernel_rfl) trivial (by kernel_rfl)
  · exact retW tbl_ok rfl rfl ⟨rfl, trivial⟩

theorem eqGraph (x : GGraph) (h : x.w ≤ 1048576) : Meets Tryz.prog 42 [.agg x.c, .agg x.c] [.one (vb true)] := by
  refine enterW tbl_ok false Tryz.func42 rfl (by decide) fun W => ?_
  conv => whnf
  refine callR (eqNodeS x.nodes (by simp only [GGraph.w] at h; omega)) rfl (go tbl_ok false ?_)
  conv => whnf
  refine ⟨fun h => ?_, fun _ => ?_⟩ <;> conv => whnf
  · simp at h
  refine ⟨fun h => ?_, fun _ => ?_⟩ <;> conv => whnf
  · simp at h
  refine ⟨fun h => ?_, fun _ => ?_⟩ <;> conv => whnf
  · simp at h
  exact retW tbl_ok rfl rfl ⟨rfl, trivial⟩

theorem eqStamp (x : GStamp) : Meets Tryz.prog 106 [.agg x.c, .agg x.c] [.one (vb true)] := by
  refine enterW tbl_ok false Tryz.func106 rfl (by decide) fun W => ?_
  conv => whnf
  refine ⟨fun h => ?_, fun _ => ?_⟩ <;> conv => whnf
  · simp at h
  refine ⟨fun h => ?_, fun _ => ?_⟩ <;> conv => whnf
  · simp at h
  exact retW tbl_ok rfl rfl ⟨rfl, trivial⟩

theorem eqRecord (x : GRecord) : Meets Tryz.prog 81 [.agg x.c, .agg x.c] [.one (vb true)] := by
  refine enterW tbl_ok false Tryz.func81 rfl (by decide) fun W => ?_
  conv => whnf
  refine ⟨fun h => ?_, fun _ => ?_⟩ <;> conv => whnf
  · simp at h
  refine callR (eqStamp x.stamp) rfl (go tbl_ok false ?_)
  conv => whnf
  refine ⟨fun h => ?_, fun _ => ?_⟩ <;> conv => whnf
  · simp at h
  refine ⟨fun h => ?_, fun _ => ?_⟩ <;> conv => whnf
  · simp at h
  refine ⟨fun h => ?_, fun _ => ?_⟩ <;> conv => whnf
  · simp at h
  exact retW tbl_ok rfl rfl ⟨rfl, trivial⟩

theorem eqRecordS (xs : List GRecord) (hx : xs.length ≤ 1048576) : Meets Tryz.prog 43 [.one (sGRecord xs), .one (sGRecord xs)] [.one (vb true)] := by
  have hl := hx
  refine enterW tbl_ok false Tryz.func43 rfl (by decide) fun W => ?_
  conv => whnf
  refine ⟨fun h => ?_, fun _ => ?_⟩ <;> conv => whnf
  · simp at h
  refine loopW tbl_ok false [] (fun k : Nat => [(5, .c (vi k))]) (fun _ => []) (fun _ => [])
    (fun k => k ≤ xs.length) (fun k => xs.length - k) 0 (Nat.zero_le _) ⟨rfl, trivial⟩ trivial trivial trivial (by kernel_rfl) (fun k hk => ?_)
  conv => whnf
  refine ⟨fun h => ?_, fun h => ?_⟩ <;> simp at h <;> conv => whnf
  · refine drawW rfl [0, 1, 2, 3, 4, 5, 6, 7, 8, 9] (by kernel_rfl) (go tbl_ok false ?_)
    conv => whnf
    refine ⟨by omega, ?_⟩
    conv => whnf
    refine ⟨by omega, ?_⟩
    conv => whnf
    refine callR (eqRecord (xs.getD k default)) rfl (go tbl_ok false ?_)
    conv => whnf
    refine ⟨fun h' => ?_, fun _ => ?_⟩ <;> conv => whnf
    · simp at h'
    refine ⟨by simp only [inR]; omega, ?_⟩
    conv => whnf
    exact loopE [] (k + 1) (by omega) (by omega) ⟨rfl, trivial⟩ trivial trivial (by kernel_rfl) trivial (by kernel_rfl)
  · exact retW tbl_ok rfl rfl ⟨rfl, trivial⟩

theorem eqPick (x : GPick) : Meets Tryz.prog 82 [.agg x.c, .agg x.c] [.one (vb true)] := by
  refine enterW tbl_ok false Tryz.func82 rfl (by decide) fun W => ?_
  conv => whnf
  refine ⟨fun h => ?_, fun _ => ?_⟩ <;> conv => whnf
  · simp at h
  refine ⟨fun h => ?_, fun _ => ?_⟩ <;> conv => whnf
  · simp at h
  refine ⟨fun h => ?_, fun _ => ?_⟩ <;> conv => whnf
  · simp at h
  exact retW tbl_ok rfl rfl ⟨rfl, trivial⟩

theorem eqPickS (xs : List GPick) (hx : xs.length ≤ 1048576) : Meets Tryz.prog 44 [.one (sGPick xs), .one (sGPick xs)] [.one (vb true)] := by
  have hl := hx
  refine enterW tbl_ok false Tryz.func44 rfl (by decide) fun W => ?_
  conv => whnf
  refine ⟨fun h => ?_, fun _ => ?_⟩ <;> conv => whnf
  · simp at h
  refine loopW tbl_ok false [] (fun k : Nat => [(5, .c (vi k))]) (fun _ => []) (fun _ => [])
    (fun k => k ≤ xs.length) (fun k => xs.length - k) 0 (Nat.zero_le _) ⟨rfl, trivial⟩ trivial trivial trivial (by kernel_rfl) (fun k hk => ?_)
  conv => whnf
  refine ⟨fun h => ?_, fun h => ?_⟩ <;> simp at h <;> conv => whnf
  · refine drawW rfl [0, 1, 2, 3, 4, 5, 6, 7, 8, 9] (by kernel_rfl) (go tbl_ok false ?_)
    conv => whnf
    refine ⟨by omega, ?_⟩
    conv => whnf
    refine ⟨by omega, ?_⟩
    conv => whnf
    refine callR (eqPick (xs.getD k default)) rfl (go tbl_ok false ?_)
    conv => whnf
    refine ⟨fun h' => ?_, fun _ => ?_⟩ <;> conv => whnf
    · simp at h'
    refine ⟨by simp only [inR]; omega, ?_⟩
    conv => whnf
    exact loopE [] (k + 1) (by omega) (by omega) ⟨rfl, trivial⟩ trivial trivial (by kernel_rfl) trivial (by kernel_rfl)
  · exact retW tbl_ok rfl rfl ⟨rfl, trivial⟩

theorem eqScript (x : GScript) (h : x.w ≤ 1048576) : Meets Tryz.prog 7 [.agg x.c, .agg x.c] [.one (vb true)] := by
  refine enterW tbl_ok false Tryz.func7 rfl (by decide) fun W => ?_
  conv => whnf
  refine callR (eqGraph x.graph (by simp only [GScript.w] at h; omega)) rfl (go tbl_ok false ?_)
  conv => whnf
  refine ⟨fun h => ?_, fun _ => ?_⟩ <;> conv => whnf
  · simp at h
  refine callR (eqRecordS x.inputs (by simp only [GScript.w] at h; omega)) rfl (go tbl_ok false ?_)
  conv => whnf
  refine ⟨fun h => ?_, fun _ => ?_⟩ <;> conv => whnf
  · simp at h
  refine callR (eqPickS x.picks (by simp only [GScript.w] at h; omega)) rfl (go tbl_ok false ?_)
  conv => whnf
  refine ⟨fun h => ?_, fun _ => ?_⟩ <;> conv => whnf
  · simp at h
  refine ⟨fun h => ?_, fun _ => ?_⟩ <;> conv => whnf
  · simp at h
  exact retW tbl_ok rfl rfl ⟨rfl, trivial⟩

end Go.Proofs.YtcpjpkcahnldfaaGreatDoor
