/- Texts for the law FnExactRoundTold: H1. No conditions. -/
import Derived.Test.YtlbmkgkmbjadcaaGreatEng3
import Derived.Test.YtlbmkgkmbjadcaaGreatProg
import Derived.KernelRfl

set_option maxRecDepth 100000
namespace Go.Proofs.YtlbmkgkmbjadcaaGreat
open Go.Sx
/-- What the program says of its types, as the executor reads it. -/
def tbl : List (TypeId × TI) := [
  (2, { agg := false, size := 1, bytes := 8, zero := [Value.int IntKind.i64 (0)], fields := [], elem := none, str := false, flat := some [CK.int IntKind.i64] }),
  (3, { agg := false, size := 1, bytes := 8, zero := [Value.int IntKind.i64 (0)], fields := [], elem := none, str := false, flat := some [CK.int IntKind.i64] }),
  (4, { agg := false, size := 1, bytes := 1, zero := [Value.bool false], fields := [], elem := none, str := false, flat := some [CK.bool] }),
  (5, { agg := false, size := 1, bytes := 1, zero := [Value.int IntKind.u8 (0)], fields := [], elem := none, str := false, flat := some [CK.int IntKind.u8] }),
  (9, { agg := false, size := 1, bytes := 16, zero := [Value.string ByteArray.empty], fields := [], elem := none, str := true, flat := none }),
  (12, { agg := false, size := 1, bytes := 8, zero := [Value.int IntKind.u64 (0)], fields := [], elem := none, str := false, flat := some [CK.int IntKind.u64] }),
  (21, { agg := false, size := 1, bytes := 4, zero := [Value.int IntKind.i32 (0)], fields := [], elem := none, str := false, flat := some [CK.int IntKind.i32] }),
  (22, { agg := false, size := 1, bytes := 24, zero := [Value.slice none 0 0], fields := [], elem := some 166, str := false, flat := none }),
  (23, { agg := true, size := 3, bytes := 40, zero := [Value.slice none 0 0, Value.int IntKind.i64 (0), Value.int IntKind.i64 (0)], fields := [(0, 22), (1, 3), (2, 3)], elem := none, str := false, flat := none }),
  (24, { agg := true, size := 3, bytes := 40, zero := [Value.slice none 0 0, Value.int IntKind.i64 (0), Value.int IntKind.i64 (0)], fields := [(0, 22), (1, 3), (2, 3)], elem := none, str := false, flat := none }),
  (25, { agg := false, size := 1, bytes := 24, zero := [Value.slice none 0 0], fields := [], elem := some 107, str := false, flat := none }),
  (26, { agg := false, size := 1, bytes := 24, zero := [Value.slice none 0 0], fields := [], elem := some 149, str := false, flat := none }),
  (27, { agg := true, size := 6, bytes := 96, zero := [Value.slice none 0 0, Value.int IntKind.i64 (0), Value.int IntKind.i64 (0), Value.slice none 0 0, Value.slice none 0 0, Value.int IntKind.i64 (0)], fields := [(0, 24), (3, 25), (4, 26), (5, 3)], elem := none, str := false, flat := none }),
  (28, { agg := true, size := 6, bytes := 96, zero := [Value.slice none 0 0, Value.int IntKind.i64 (0), Value.int IntKind.i64 (0), Value.slice none 0 0, Value.slice none 0 0, Value.int IntKind.i64 (0)], fields := [(0, 24), (3, 25), (4, 26), (5, 3)], elem := none, str := false, flat := none }),
  (30, { agg := false, size := 1, bytes := 24, zero := [Value.slice none 0 0], fields := [], elem := some 172, str := false, flat := none }),
  (31, { agg := true, size := 3, bytes := 40, zero := [Value.slice none 0 0, Value.int IntKind.i64 (0), Value.int IntKind.i64 (0)], fields := [(0, 30), (1, 3), (2, 3)], elem := none, str := false, flat := none }),
  (32, { agg := true, size := 3, bytes := 40, zero := [Value.slice none 0 0, Value.int IntKind.i64 (0), Value.int IntKind.i64 (0)], fields := [(0, 30), (1, 3), (2, 3)], elem := none, str := false, flat := none }),
  (33, { agg := false, size := 1, bytes := 24, zero := [Value.slice none 0 0], fields := [], elem := some 132, str := false, flat := none }),
  (34, { agg := false, size := 1, bytes := 24, zero := [Value.slice none 0 0], fields := [], elem := some 136, str := false, flat := none }),
  (35, { agg := false, size := 1, bytes := 24, zero := [Value.slice none 0 0], fields := [], elem := some 120, str := false, flat := none }),
  (36, { agg := false, size := 1, bytes := 24, zero := [Value.slice none 0 0], fields := [], elem := some 160, str := false, flat := none }),
  (37, { agg := true, size := 7, bytes := 136, zero := [Value.slice none 0 0, Value.int IntKind.i64 (0), Value.int IntKind.i64 (0), Value.slice none 0 0, Value.slice none 0 0, Value.slice none 0 0, Value.slice none 0 0], fields := [(0, 32), (3, 33), (4, 34), (5, 35), (6, 36)], elem := none, str := false, flat := none }),
  (38, { agg := true, size := 7, bytes := 136, zero := [Value.slice none 0 0, Value.int IntKind.i64 (0), Value.int IntKind.i64 (0), Value.slice none 0 0, Value.slice none 0 0, Value.slice none 0 0, Value.slice none 0 0], fields := [(0, 32), (3, 33), (4, 34), (5, 35), (6, 36)], elem := none, str := false, flat := none }),
  (39, { agg := false, size := 1, bytes := 24, zero := [Value.slice none 0 0], fields := [], elem := some 4, str := false, flat := none }),
  (42, { agg := false, size := 1, bytes := 24, zero := [Value.slice none 0 0], fields := [], elem := some 103, str := false, flat := none }),
  (43, { agg := false, size := 1, bytes := 24, zero := [Value.slice none 0 0], fields := [], elem := some 142, str := false, flat := none }),
  (44, { agg := true, size := 6, bytes := 96, zero := [Value.slice none 0 0, Value.int IntKind.i64 (0), Value.int IntKind.i64 (0), Value.slice none 0 0, Value.slice none 0 0, Value.int IntKind.i64 (0)], fields := [(0, 32), (3, 42), (4, 43), (5, 3)], elem := none, str := false, flat := none }),
  (45, { agg := true, size := 6, bytes := 96, zero := [Value.slice none 0 0, Value.int IntKind.i64 (0), Value.int IntKind.i64 (0), Value.slice none 0 0, Value.slice none 0 0, Value.int IntKind.i64 (0)], fields := [(0, 32), (3, 42), (4, 43), (5, 3)], elem := none, str := false, flat := none }),
  (56, { agg := false, size := 1, bytes := 24, zero := [Value.slice none 0 0], fields := [], elem := some 110, str := false, flat := none }),
  (68, { agg := false, size := 1, bytes := 24, zero := [Value.slice none 0 0], fields := [], elem := some 181, str := false, flat := none }),
  (69, { agg := false, size := 1, bytes := 24, zero := [Value.slice none 0 0], fields := [], elem := some 184, str := false, flat := none }),
  (70, { agg := false, size := 1, bytes := 24, zero := [Value.slice none 0 0], fields := [], elem := some 190, str := false, flat := none }),
  (71, { agg := false, size := 1, bytes := 24, zero := [Value.slice none 0 0], fields := [], elem := some 192, str := false, flat := none }),
  (72, { agg := true, size := 7, bytes := 136, zero := [Value.slice none 0 0, Value.int IntKind.i64 (0), Value.int IntKind.i64 (0), Value.slice none 0 0, Value.slice none 0 0, Value.slice none 0 0, Value.slice none 0 0], fields := [(0, 24), (3, 68), (4, 69), (5, 70), (6, 71)], elem := none, str := false, flat := none }),
  (73, { agg := true, size := 7, bytes := 136, zero := [Value.slice none 0 0, Value.int IntKind.i64 (0), Value.int IntKind.i64 (0), Value.slice none 0 0, Value.slice none 0 0, Value.slice none 0 0, Value.slice none 0 0], fields := [(0, 24), (3, 68), (4, 69), (5, 70), (6, 71)], elem := none, str := false, flat := none }),
  (100, { agg := true, size := 2, bytes := 16, zero := [Value.int IntKind.i64 (0), Value.int IntKind.i64 (0)], fields := [(0, 3), (1, 3)], elem := none, str := false, flat := some [CK.int IntKind.i64, CK.int IntKind.i64] }),
  (101, { agg := true, size := 2, bytes := 16, zero := [Value.int IntKind.i64 (0), Value.int IntKind.i64 (0)], fields := [(0, 3), (1, 3)], elem := none, str := false, flat := some [CK.int IntKind.i64, CK.int IntKind.i64] }),
  (102, { agg := true, size := 5, bytes := 40, zero := [Value.int IntKind.i64 (0), Value.int IntKind.i64 (0), Value.int IntKind.i64 (0), Value.int IntKind.i64 (0), Value.int IntKind.i64 (0)], fields := [(0, 3), (1, 101), (3, 3), (4, 3)], elem := none, str := false, flat := some [CK.int IntKind.i64, CK.int IntKind.i64, CK.int IntKind.i64, CK.int IntKind.i64, CK.int IntKind.i64] }),
  (103, { agg := true, size := 5, bytes := 40, zero := [Value.int IntKind.i64 (0), Value.int IntKind.i64 (0), Value.int IntKind.i64 (0), Value.int IntKind.i64 (0), Value.int IntKind.i64 (0)], fields := [(0, 3), (1, 101), (3, 3), (4, 3)], elem := none, str := false, flat := some [CK.int IntKind.i64, CK.int IntKind.i64, CK.int IntKind.i64, CK.int IntKind.i64, CK.int IntKind.i64] }),
  (105, { agg := true, size := 2, bytes := 16, zero := [Value.int IntKind.i64 (0), Value.int IntKind.i64 (0)], fields := [(0, 3), (1, 3)], elem := none, str := false, flat := some [CK.int IntKind.i64, CK.int IntKind.i64] }),
  (106, { agg := true, size := 5, bytes := 40, zero := [Value.int IntKind.i64 (0), Value.int IntKind.i64 (0), Value.int IntKind.i64 (0), Value.int IntKind.i64 (0), Value.int IntKind.i64 (0)], fields := [(0, 3), (1, 105), (3, 3), (4, 3)], elem := none, str := false, flat := some [CK.int IntKind.i64, CK.int IntKind.i64, CK.int IntKind.i64, CK.int IntKind.i64, CK.int IntKind.i64] }),
  (107, { agg := true, size := 5, bytes := 40, zero := [Value.int IntKind.i64 (0), Value.int IntKind.i64 (0), Value.int IntKind.i64 (0), Value.int IntKind.i64 (0), Value.int IntKind.i64 (0)], fields := [(0, 3), (1, 105), (3, 3), (4, 3)], elem := none, str := false, flat := some [CK.int IntKind.i64, CK.int IntKind.i64, CK.int IntKind.i64, CK.int IntKind.i64, CK.int IntKind.i64] }),
  (109, { agg := true, size := 4, bytes := 32, zero := [Value.int IntKind.i64 (0), Value.int IntKind.i64 (0), Value.int IntKind.i64 (0), Value.int IntKind.i64 (0)], fields := [(0, 3), (1, 3), (2, 3), (3, 3)], elem := none, str := false, flat := some [CK.int IntKind.i64, CK.int IntKind.i64, CK.int IntKind.i64, CK.int IntKind.i64] }),
  (110, { agg := true, size := 4, bytes := 32, zero := [Value.int IntKind.i64 (0), Value.int IntKind.i64 (0), Value.int IntKind.i64 (0), Value.int IntKind.i64 (0)], fields := [(0, 3), (1, 3), (2, 3), (3, 3)], elem := none, str := false, flat := some [CK.int IntKind.i64, CK.int IntKind.i64, CK.int IntKind.i64, CK.int IntKind.i64] }),
  (119, { agg := true, size := 5, bytes := 32, zero := [Value.bool false, Value.int IntKind.i64 (0), Value.int IntKind.i64 (0), Value.bool false, Value.bool false], fields := [(0, 4), (1, 3), (2, 3), (3, 4), (4, 4)], elem := none, str := false, flat := some [CK.bool, CK.int IntKind.i64, CK.int IntKind.i64, CK.bool, CK.bool] }),
  (120, { agg := true, size := 5, bytes := 32, zero := [Value.bool false, Value.int IntKind.i64 (0), Value.int IntKind.i64 (0), Value.bool false, Value.bool false], fields := [(0, 4), (1, 3), (2, 3), (3, 4), (4, 4)], elem := none, str := false, flat := some [CK.bool, CK.int IntKind.i64, CK.int IntKind.i64, CK.bool, CK.bool] }),
  (129, { agg := false, size := 1, bytes := 24, zero := [Value.slice none 0 0], fields := [], elem := some 3, str := false, flat := none }),
  (130, { agg := false, size := 1, bytes := 24, zero := [Value.slice none 0 0], fields := [], elem := some 168, str := false, flat := none }),
  (131, { agg := true, size := 8, bytes := 192, zero := [Value.slice none 0 0, Value.slice none 0 0, Value.slice none 0 0, Value.slice none 0 0, Value.slice none 0 0, Value.slice none 0 0, Value.slice none 0 0, Value.slice none 0 0], fields := [(0, 42), (1, 42), (2, 42), (3, 56), (4, 129), (5, 39), (6, 39), (7, 130)], elem := none, str := false, flat := none }),
  (132, { agg := true, size := 8, bytes := 192, zero := [Value.slice none 0 0, Value.slice none 0 0, Value.slice none 0 0, Value.slice none 0 0, Value.slice none 0 0, Value.slice none 0 0, Value.slice none 0 0, Value.slice none 0 0], fields := [(0, 42), (1, 42), (2, 42), (3, 56), (4, 129), (5, 39), (6, 39), (7, 130)], elem := none, str := false, flat := none }),
  (135, { agg := true, size := 6, bytes := 64, zero := [Value.int IntKind.i64 (0), Value.slice none 0 0, Value.int IntKind.i64 (0), Value.int IntKind.i64 (0), Value.int IntKind.i64 (0), Value.int IntKind.i64 (0)], fields := [(0, 3), (1, 42), (2, 3), (3, 3), (4, 3), (5, 3)], elem := none, str := false, flat := none }),
  (136, { agg := true, size := 6, bytes := 64, zero := [Value.int IntKind.i64 (0), Value.slice none 0 0, Value.int IntKind.i64 (0), Value.int IntKind.i64 (0), Value.int IntKind.i64 (0), Value.int IntKind.i64 (0)], fields := [(0, 3), (1, 42), (2, 3), (3, 3), (4, 3), (5, 3)], elem := none, str := false, flat := none }),
  (138, { agg := false, size := 1, bytes := 8, zero := [Value.pointer none], fields := [], elem := none, str := false, flat := none }),
  (141, { agg := true, size := 3, bytes := 24, zero := [Value.int IntKind.i64 (0), Value.int IntKind.i64 (0), Value.int IntKind.i64 (0)], fields := [(0, 3), (1, 3), (2, 3)], elem := none, str := false, flat := some [CK.int IntKind.i64, CK.int IntKind.i64, CK.int IntKind.i64] }),
  (142, { agg := true, size := 3, bytes := 24, zero := [Value.int IntKind.i64 (0), Value.int IntKind.i64 (0), Value.int IntKind.i64 (0)], fields := [(0, 3), (1, 3), (2, 3)], elem := none, str := false, flat := some [CK.int IntKind.i64, CK.int IntKind.i64, CK.int IntKind.i64] }),
  (143, { agg := true, size := 8, bytes := 144, zero := [Value.slice none 0 0, Value.int IntKind.i64 (0), Value.int IntKind.i64 (0), Value.slice none 0 0, Value.slice none 0 0, Value.slice none 0 0, Value.slice none 0 0, Value.bool false], fields := [(0, 38), (7, 4)], elem := none, str := false, flat := none }),
  (144, { agg := true, size := 8, bytes := 144, zero := [Value.slice none 0 0, Value.int IntKind.i64 (0), Value.int IntKind.i64 (0), Value.slice none 0 0, Value.slice none 0 0, Value.slice none 0 0, Value.slice none 0 0, Value.bool false], fields := [(0, 38), (7, 4)], elem := none, str := false, flat := none }),
  (149, { agg := true, size := 3, bytes := 24, zero := [Value.int IntKind.i64 (0), Value.int IntKind.i64 (0), Value.int IntKind.i64 (0)], fields := [(0, 3), (1, 3), (2, 3)], elem := none, str := false, flat := some [CK.int IntKind.i64, CK.int IntKind.i64, CK.int IntKind.i64] }),
  (159, { agg := true, size := 3, bytes := 24, zero := [Value.int IntKind.i64 (0), Value.int IntKind.i64 (0), Value.bool false], fields := [(0, 3), (1, 3), (2, 4)], elem := none, str := false, flat := some [CK.int IntKind.i64, CK.int IntKind.i64, CK.bool] }),
  (160, { agg := true, size := 3, bytes := 24, zero := [Value.int IntKind.i64 (0), Value.int IntKind.i64 (0), Value.bool false], fields := [(0, 3), (1, 3), (2, 4)], elem := none, str := false, flat := some [CK.int IntKind.i64, CK.int IntKind.i64, CK.bool] }),
  (165, { agg := true, size := 4, bytes := 48, zero := [Value.int IntKind.i64 (0), Value.int IntKind.i64 (0), Value.int IntKind.i64 (0), Value.slice none 0 0], fields := [(0, 3), (1, 3), (2, 3), (3, 129)], elem := none, str := false, flat := none }),
  (166, { agg := true, size := 4, bytes := 48, zero := [Value.int IntKind.i64 (0), Value.int IntKind.i64 (0), Value.int IntKind.i64 (0), Value.slice none 0 0], fields := [(0, 3), (1, 3), (2, 3), (3, 129)], elem := none, str := false, flat := none }),
  (167, { agg := true, size := 2, bytes := 16, zero := [Value.int IntKind.i64 (0), Value.bool false], fields := [(0, 3), (1, 4)], elem := none, str := false, flat := some [CK.int IntKind.i64, CK.bool] }),
  (168, { agg := true, size := 2, bytes := 16, zero := [Value.int IntKind.i64 (0), Value.bool false], fields := [(0, 3), (1, 4)], elem := none, str := false, flat := some [CK.int IntKind.i64, CK.bool] }),
  (172, { agg := true, size := 4, bytes := 48, zero := [Value.int IntKind.i64 (0), Value.int IntKind.i64 (0), Value.int IntKind.i64 (0), Value.slice none 0 0], fields := [(0, 3), (1, 3), (2, 3), (3, 129)], elem := none, str := false, flat := none }),
  (178, { agg := false, size := 1, bytes := 24, zero := [Value.slice none 0 0], fields := [], elem := some 248, str := false, flat := none }),
  (179, { agg := false, size := 1, bytes := 24, zero := [Value.slice none 0 0], fields := [], elem := some 250, str := false, flat := none }),
  (180, { agg := true, size := 8, bytes := 192, zero := [Value.slice none 0 0, Value.slice none 0 0, Value.slice none 0 0, Value.slice none 0 0, Value.slice none 0 0, Value.slice none 0 0, Value.slice none 0 0, Value.slice none 0 0], fields := [(0, 25), (1, 25), (2, 25), (3, 178), (4, 129), (5, 39), (6, 39), (7, 179)], elem := none, str := false, flat := none }),
  (181, { agg := true, size := 8, bytes := 192, zero := [Value.slice none 0 0, Value.slice none 0 0, Value.slice none 0 0, Value.slice none 0 0, Value.slice none 0 0, Value.slice none 0 0, Value.slice none 0 0, Value.slice none 0 0], fields := [(0, 25), (1, 25), (2, 25), (3, 178), (4, 129), (5, 39), (6, 39), (7, 179)], elem := none, str := false, flat := none }),
  (183, { agg := true, size := 6, bytes := 64, zero := [Value.int IntKind.i64 (0), Value.slice none 0 0, Value.int IntKind.i64 (0), Value.int IntKind.i64 (0), Value.int IntKind.i64 (0), Value.int IntKind.i64 (0)], fields := [(0, 3), (1, 25), (2, 3), (3, 3), (4, 3), (5, 3)], elem := none, str := false, flat := none }),
  (184, { agg := true, size := 6, bytes := 64, zero := [Value.int IntKind.i64 (0), Value.slice none 0 0, Value.int IntKind.i64 (0), Value.int IntKind.i64 (0), Value.int IntKind.i64 (0), Value.int IntKind.i64 (0)], fields := [(0, 3), (1, 25), (2, 3), (3, 3), (4, 3), (5, 3)], elem := none, str := false, flat := none }),
  (190, { agg := true, size := 5, bytes := 32, zero := [Value.bool false, Value.int IntKind.i64 (0), Value.int IntKind.i64 (0), Value.bool false, Value.bool false], fields := [(0, 4), (1, 3), (2, 3), (3, 4), (4, 4)], elem := none, str := false, flat := some [CK.bool, CK.int IntKind.i64, CK.int IntKind.i64, CK.bool, CK.bool] }),
  (192, { agg := true, size := 3, bytes := 24, zero := [Value.int IntKind.i64 (0), Value.int IntKind.i64 (0), Value.bool false], fields := [(0, 3), (1, 3), (2, 4)], elem := none, str := false, flat := some [CK.int IntKind.i64, CK.int IntKind.i64, CK.bool] }),
  (194, { agg := false, size := 1, bytes := 8, zero := [Value.pointer none], fields := [], elem := none, str := false, flat := none }),
  (195, { agg := false, size := 1, bytes := 8, zero := [Value.pointer none], fields := [], elem := none, str := false, flat := none }),
  (248, { agg := true, size := 4, bytes := 32, zero := [Value.int IntKind.i64 (0), Value.int IntKind.i64 (0), Value.int IntKind.i64 (0), Value.int IntKind.i64 (0)], fields := [(0, 3), (1, 3), (2, 3), (3, 3)], elem := none, str := false, flat := some [CK.int IntKind.i64, CK.int IntKind.i64, CK.int IntKind.i64, CK.int IntKind.i64] }),
  (250, { agg := true, size := 2, bytes := 16, zero := [Value.int IntKind.i64 (0), Value.bool false], fields := [(0, 3), (1, 4)], elem := none, str := false, flat := some [CK.int IntKind.i64, CK.bool] }),
  (284, { agg := false, size := 1, bytes := 4, zero := [Value.int IntKind.u32 (0)], fields := [], elem := none, str := false, flat := some [CK.int IntKind.u32] }),
  (288, { agg := false, size := 1, bytes := 8, zero := [Value.pointer none], fields := [], elem := none, str := false, flat := none })]

theorem tbl_ok : TblOk Tryz.prog tbl :=
  (.cons (by kernel_rfl) (.cons (by kernel_rfl) (.cons (by kernel_rfl) (.cons (by kernel_rfl) (.cons (by kernel_rfl) (.cons (by kernel_rfl) (.cons (by kernel_rfl) (.cons (by kernel_rfl) (.cons (by kernel_rfl) (.cons (by kernel_rfl) (.cons (by kernel_rfl) (.cons (by kernel_rfl) (.cons (by kernel_rfl) (.cons (by kernel_rfl) (.cons (by kernel_rfl) (.cons (by kernel_rfl) (.cons (by kernel_rfl) (.cons (by kernel_rfl) (.cons (by kernel_rfl) (.cons (by kernel_rfl) (.cons (by kernel_rfl) (.cons (by kernel_rfl) (.cons (by kernel_rfl) (.cons (by kernel_rfl) (.cons (by kernel_rfl) (.cons (by kernel_rfl) (.cons (by kernel_rfl) (.cons (by kernel_rfl) (.cons (by kernel_rfl) (.cons (by kernel_rfl) (.cons (by kernel_rfl) (.cons (by kernel_rfl) (.cons (by kernel_rfl) (.cons (by kernel_rfl) (.cons (by kernel_rfl) (.cons (by kernel_rfl) (.cons (by kernel_rfl) (.cons (by kernel_rfl) (.cons (by kernel_rfl) (.cons (by kernel_rfl) (.cons (by kernel_rfl) (.cons (by kernel_rfl) (.cons (by kernel_rfl) (.cons (by kernel_rfl) (.cons (by kernel_rfl) (.cons (by kernel_rfl) (.cons (by kernel_rfl) (.cons (by kernel_rfl) (.cons (by kernel_rfl) (.cons (by kernel_rfl) (.cons (by kernel_rfl) (.cons (by kernel_rfl) (.cons (by kernel_rfl) (.cons (by kernel_rfl) (.cons (by kernel_rfl) (.cons (by kernel_rfl) (.cons (by kernel_rfl) (.cons (by kernel_rfl) (.cons (by kernel_rfl) (.cons (by kernel_rfl) (.cons (by kernel_rfl) (.cons (by kernel_rfl) (.cons (by kernel_rfl) (.cons (by kernel_rfl) (.cons (by kernel_rfl) (.cons (by kernel_rfl) (.cons (by kernel_rfl) (.cons (by kernel_rfl) (.cons (by kernel_rfl) (.cons (by kernel_rfl) (.cons (by kernel_rfl) (.cons (by kernel_rfl) (.cons (by kernel_rfl) (.cons (by kernel_rfl) (.cons (by kernel_rfl) (.cons (by kernel_rfl) (.cons (by kernel_rfl) (.cons (by kernel_rfl) (.cons (by kernel_rfl) .nil)))))))))))))))))))))))))))))))))))))))))))))))))))))))))))))))))))))))))))))))
theorem szIntS (xs : List Int) (left : Int) (ho : xs.length ≤ maxLen) (h0 : 0 ≤ left) (h1 : left ≤ 1048576) : Meets Tryz.prog 166 [.one (sInt xs), .one (vi left)] [.one (vi (szR (xs.length) left))] := by
  have hl : xs.length ≤ 9223372036854775807 := ho
  refine enterW tbl_ok false Tryz.func166 rfl (by decide) fun W => ?_
  conv => whnf
  refine ⟨by simp only [inR]; omega, ?_⟩
  conv => whnf
  refine ⟨fun h => ?_, fun h => ?_⟩ <;> simp only [decide_eq_true_eq, decide_eq_false_iff_not] at h <;> conv => whnf
  · refine retW tbl_ok rfl rfl ⟨?_, trivial⟩
    conv => whnf
    rw [szR_neg (by omega)]
  · refine retW tbl_ok rfl rfl ⟨?_, trivial⟩
    conv => whnf
    rw [szR_pos (by omega)]

theorem szNode (x : GNode) (left : Int) (ho : x.ok) (h0 : 0 ≤ left) (h1 : left ≤ 1048576) : Meets Tryz.prog 119 [.agg x.c, .one (vi left)] [.one (vi (szR x.w left))] := by
  have hw : x.w = x.outs.length := rfl
  obtain ⟨o_kind, o_a, o_b, o_outs⟩ := ho
  refine enterW tbl_ok false Tryz.func119 rfl (by decide) fun W => ?_
  conv => whnf
  refine callR (szIntS x.outs (left) o_outs.1 (by omega) (by omega)) rfl (go tbl_ok false ?_)
  conv => whnf
  refine ⟨fun h => ?_, fun h => ?_⟩ <;> simp only [decide_eq_true_eq, decide_eq_false_iff_not] at h <;> conv => whnf
  · refine retW tbl_ok rfl rfl ⟨?_, trivial⟩
    conv => whnf
    have h := szR_lt h (by omega)
    rw [szR_neg (by omega)]
  have h_outs := szR_ge h
  rw [szR_pos h_outs]
  refine retW tbl_ok rfl rfl ⟨?_, trivial⟩
  conv => whnf
  rw [szR_pos (by omega)]
  exact congrArg vi (by omega)

theorem szNodeS (xs : List GNode) (left : Int) (ho : xs.length ≤ maxLen ∧ ∀ y ∈ xs, GNode.ok y) (h0 : 0 ≤ left) (h1 : left ≤ 1048576) : Meets Tryz.prog 58 [.one (sGNode xs), .one (vi left)] [.one (vi (szR (wS GNode.w xs) left))] := by
  have hl : xs.length ≤ 9223372036854775807 := ho.1
  refine enterW tbl_ok false Tryz.func58 rfl (by decide) fun W => ?_
  conv => whnf
  refine ⟨by simp only [inR]; omega, ?_⟩
  conv => whnf
  refine ⟨fun h => ?_, fun h => ?_⟩ <;> simp only [decide_eq_true_eq, decide_eq_false_iff_not] at h <;> conv => whnf
  · refine retW tbl_ok rfl rfl ⟨?_, trivial⟩
    conv => whnf
    rw [szR_neg (by rw [wS_eq]; omega)]
  refine loopW tbl_ok false [] (fun k : Nat => [(1, .c (vi (left - xs.length - (((xs.take k).map GNode.w).sum : Nat)))), (5, .c (vi k))]) (fun _ => []) (fun _ => [])
    (fun k => k ≤ xs.length ∧ 0 ≤ left - xs.length - (((xs.take k).map GNode.w).sum : Nat)) (fun k => xs.length - k) 0 ⟨Nat.zero_le _, by simp; omega⟩ ⟨by simp [nth, ren2, ren1, ren0], rfl, trivial⟩ trivial trivial trivial (by kernel_rfl) (fun k hk => ?_)
  obtain ⟨hk, hp⟩ := hk
  conv => whnf
  refine ⟨fun h => ?_, fun h => ?_⟩ <;> simp only [decide_eq_true_eq, decide_eq_false_iff_not] at h <;> conv => whnf
  · have h : k < xs.length := by omega
    have hle := wS_take_le GNode.w xs k h
    have hst := wS_take GNode.w xs k h
    refine ⟨by omega, ?_⟩
    conv => whnf
    refine callR (szNode (xs.getD k default) _ (ho.2 _ (by rw [List.getD, List.getElem?_eq_getElem h]; exact List.getElem_mem h)) hp (by omega)) rfl (go tbl_ok false ?_)
    conv => whnf
    refine ⟨fun h' => ?_, fun h' => ?_⟩ <;> simp only [decide_eq_true_eq, decide_eq_false_iff_not] at h' <;> conv => whnf
    · refine retW tbl_ok rfl rfl ⟨?_, trivial⟩
      conv => whnf
      have h' := szR_lt h' hp
      rw [szR_neg (by rw [wS_eq]; omega)]
    · have h' := szR_ge h'
      refine ⟨by simp only [inR]; omega, ?_⟩
      conv => whnf
      refine loopE [] (k + 1) ⟨by omega, by omega⟩ (by omega) ⟨?_, rfl, trivial⟩ trivial trivial (by kernel_rfl) trivial (by kernel_rfl)
      conv => whnf
      rw [szR_pos h']
      exact congrArg (fun n => AV.c (vi n)) (by omega)
  · refine retW tbl_ok rfl rfl ⟨?_, trivial⟩
    conv => whnf
    have := wS_all GNode.w xs k (by omega)
    rw [szR_pos (by rw [wS_eq]; omega)]
    exact congrArg vi (by rw [wS_eq]; omega)

theorem szGraph (x : GGraph) (left : Int) (ho : x.ok) (h0 : 0 ≤ left) (h1 : left ≤ 1048576) : Meets Tryz.prog 18 [.agg x.c, .one (vi left)] [.one (vi (szR x.w left))] := by
  have hw : x.w = wS GNode.w x.nodes := rfl
  obtain ⟨o_nodes, o_workers, o_cap⟩ := ho
  refine enterW tbl_ok false Tryz.func18 rfl (by decide) fun W => ?_
  conv => whnf
  refine callR (szNodeS x.nodes (left) o_nodes (by omega) (by omega)) rfl (go tbl_ok false ?_)
  conv => whnf
  refine ⟨fun h => ?_, fun h => ?_⟩ <;> simp only [decide_eq_true_eq, decide_eq_false_iff_not] at h <;> conv => whnf
  · refine retW tbl_ok rfl rfl ⟨?_, trivial⟩
    conv => whnf
    have h := szR_lt h (by omega)
    rw [szR_neg (by omega)]
  have h_nodes := szR_ge h
  rw [szR_pos h_nodes]
  refine retW tbl_ok rfl rfl ⟨?_, trivial⟩
  conv => whnf
  rw [szR_pos (by omega)]
  exact congrArg vi (by omega)

theorem szRecordS (xs : List GRecord) (left : Int) (ho : xs.length ≤ maxLen) (h0 : 0 ≤ left) (h1 : left ≤ 1048576) : Meets Tryz.prog 19 [.one (sGRecord xs), .one (vi left)] [.one (vi (szR (xs.length) left))] := by
  have hl : xs.length ≤ 9223372036854775807 := ho
  refine enterW tbl_ok false Tryz.func19 rfl (by decide) fun W => ?_
  conv => whnf
  refine ⟨by simp only [inR]; omega, ?_⟩
  conv => whnf
  refine ⟨fun h => ?_, fun h => ?_⟩ <;> simp only [decide_eq_true_eq, decide_eq_false_iff_not] at h <;> conv => whnf
  · refine retW tbl_ok rfl rfl ⟨?_, trivial⟩
    conv => whnf
    rw [szR_neg (by omega)]
  · refine retW tbl_ok rfl rfl ⟨?_, trivial⟩
    conv => whnf
    rw [szR_pos (by omega)]

theorem szPickS (xs : List GPick) (left : Int) (ho : xs.length ≤ maxLen) (h0 : 0 ≤ left) (h1 : left ≤ 1048576) : Meets Tryz.prog 35 [.one (sGPick xs), .one (vi left)] [.one (vi (szR (xs.length) left))] := by
  have hl : xs.length ≤ 9223372036854775807 := ho
  refine enterW tbl_ok false Tryz.func35 rfl (by decide) fun W => ?_
  conv => whnf
  refine ⟨by simp only [inR]; omega, ?_⟩
  conv => whnf
  refine ⟨fun h => ?_, fun h => ?_⟩ <;> simp only [decide_eq_true_eq, decide_eq_false_iff_not] at h <;> conv => whnf
  · refine retW tbl_ok rfl rfl ⟨?_, trivial⟩
    conv => whnf
    rw [szR_neg (by omega)]
  · refine retW tbl_ok rfl rfl ⟨?_, trivial⟩
    conv => whnf
    rw [szR_pos (by omega)]

theorem szScript (x : GScript) (left : Int) (ho : x.ok) (h0 : 0 ≤ left) (h1 : left ≤ 1048576) : Meets Tryz.prog 6 [.agg x.c, .one (vi left)] [.one (vi (szR x.w left))] := by
  have hw : x.w = x.graph.w + x.inputs.length + x.picks.length := rfl
  obtain ⟨o_graph, o_inputs, o_picks, o_rounds⟩ := ho
  refine enterW tbl_ok false Tryz.func6 rfl (by decide) fun W => ?_
  conv => whnf
  refine callR (szGraph x.graph (left) o_graph (by omega) (by omega)) rfl (go tbl_ok false ?_)
  conv => whnf
  refine ⟨fun h => ?_, fun h => ?_⟩ <;> simp only [decide_eq_true_eq, decide_eq_false_iff_not] at h <;> conv => whnf
  · refine retW tbl_ok rfl rfl ⟨?_, trivial⟩
    conv => whnf
    have h := szR_lt h (by omega)
    rw [szR_neg (by omega)]
  have h_graph := szR_ge h
  rw [szR_pos h_graph]
  refine callR (szRecordS x.inputs (left - (x.graph.w : Nat)) o_inputs.1 (by omega) (by omega)) rfl (go tbl_ok false ?_)
  conv => whnf
  refine ⟨fun h => ?_, fun h => ?_⟩ <;> simp only [decide_eq_true_eq, decide_eq_false_iff_not] at h <;> conv => whnf
  · refine retW tbl_ok rfl rfl ⟨?_, trivial⟩
    conv => whnf
    have h := szR_lt h (by omega)
    rw [szR_neg (by omega)]
  have h_inputs := szR_ge h
  rw [szR_pos h_inputs]
  refine callR (szPickS x.picks (left - (x.graph.w : Nat) - (x.inputs.length : Nat)) o_picks.1 (by omega) (by omega)) rfl (go tbl_ok false ?_)
  conv => whnf
  refine ⟨fun h => ?_, fun h => ?_⟩ <;> simp only [decide_eq_true_eq, decide_eq_false_iff_not] at h <;> conv => whnf
  · refine retW tbl_ok rfl rfl ⟨?_, trivial⟩
    conv => whnf
    have h := szR_lt h (by omega)
    rw [szR_neg (by omega)]
  have h_picks := szR_ge h
  rw [szR_pos h_picks]
  refine retW tbl_ok rfl rfl ⟨?_, trivial⟩
  conv => whnf
  rw [szR_pos (by omega)]
  exact congrArg vi (by omega)

theorem toIntS (xs : List Int) (hx : xs.length ≤ 1048576) : Meets Tryz.prog 169 [.one (sInt xs)] [.one (sInt xs)] := by
  have hl := hx
  refine enterW tbl_ok false Tryz.func169 rfl (by decide) fun W => ?_
  conv => whnf
  refine ⟨by omega, ?_⟩
  conv => whnf
  refine castW 0 (sInt (List.replicate xs.length default)) rfl (cast_make (α := Int) (e := (fun n => [vi n])) xs.length ⟨.inl rfl, trivial⟩) ?_
  refine loopW tbl_ok false [] (fun k : Nat => [(4, .c (vi k))]) (fun _ => []) (fun k => [⟨0, sInt (xs.take k ++ List.replicate (xs.length - k) default)⟩])
    (fun k => k ≤ xs.length) (fun k => xs.length - k) 0 (Nat.zero_le _) ⟨rfl, trivial⟩ trivial ⟨?_, trivial⟩ trivial (by kernel_rfl) (fun k hk => ?_)
  · conv => whnf
    exact rep_start (e := (fun n => [vi n])) xs
  conv => whnf
  refine ⟨fun h => ?_, fun h => ?_⟩ <;> simp at h <;> conv => whnf
  · refine ⟨by omega, ?_⟩
    conv => whnf
    refine ⟨by simp; omega, ?_⟩
    conv => whnf
    refine storeW tbl_ok rfl rfl rfl rfl rfl rfl rfl rfl _ (slC_set (xs := xs.take k ++ List.replicate (xs.length - k) default) (x := xs.getD k default) (e := (fun n => [vi n])) (by simp; omega) ?_) (go tbl_ok false ?_)
    · rfl
    conv => whnf
    refine ⟨by simp only [inR]; omega, ?_⟩
    conv => whnf
    refine loopE [] (k + 1) (by omega) (by omega) ⟨rfl, trivial⟩ ⟨?_, trivial⟩ trivial (by kernel_rfl) trivial (by kernel_rfl)
    conv => whnf
    exact congrArg (slC 1 (fun n => [vi n])) (take_rep_set xs k default h)
  · exact retW tbl_ok rfl rfl ⟨by conv => whnf
                                  rw [take_rep_end _ _ _ (by omega)], trivial⟩

theorem toNode (x : GNode) (h : x.w ≤ 1048576) : Meets Tryz.prog 122 [.agg x.c] [.agg x.c] := by
  refine enterW tbl_ok false Tryz.func122 rfl (by decide) fun W => ?_
  conv => whnf
  refine callW (toIntS x.outs (by simp only [GNode.w] at h; omega)) rfl (go tbl_ok false ?_)
  conv => whnf
  exact retW tbl_ok rfl rfl ⟨⟨rfl, rfl, rfl, rfl, trivial⟩, trivial⟩

theorem toNodeS (xs : List GNode) (hx : wS GNode.w xs ≤ 1048576) : Meets Tryz.prog 62 [.one (sGNode xs)] [.one (sGNode xs)] := by
  have hl : xs.length ≤ 1048576 := by simp only [wS] at hx; omega
  refine enterW tbl_ok false Tryz.func62 rfl (by decide) fun W => ?_
  conv => whnf
  refine ⟨by omega, ?_⟩
  conv => whnf
  refine castW 0 (sGNode (List.replicate xs.length default)) rfl (cast_make (α := GNode) (e := GNode.c) xs.length ⟨.inl rfl, .inl rfl, .inl rfl, .nil _ _, trivial⟩) ?_
  refine loopW tbl_ok false [] (fun k : Nat => [(4, .c (vi k))]) (fun _ => []) (fun k => [⟨0, sGNode (xs.take k ++ List.replicate (xs.length - k) default)⟩])
    (fun k => k ≤ xs.length) (fun k => xs.length - k) 0 (Nat.zero_le _) ⟨rfl, trivial⟩ trivial ⟨?_, trivial⟩ trivial (by kernel_rfl) (fun k hk => ?_)
  · conv => whnf
    exact rep_start (e := GNode.c) xs
  conv => whnf
  refine ⟨fun h => ?_, fun h => ?_⟩ <;> simp at h <;> conv => whnf
  · refine ⟨by omega, ?_⟩
    conv => whnf
    refine callW (toNode (xs.getD k default) (by have := wS_take_le GNode.w xs k h; simp only [wS] at hx; omega)) rfl (go tbl_ok false ?_)
    conv => whnf
    refine ⟨by simp; omega, ?_⟩
    conv => whnf
    refine storeW tbl_ok rfl rfl rfl rfl rfl rfl rfl rfl _ (slC_set (xs := xs.take k ++ List.replicate (xs.length - k) default) (x := xs.getD k default) (e := GNode.c) (by simp; omega) ?_) (go tbl_ok false ?_)
    · rfl
    conv => whnf
    refine ⟨by simp only [inR]; omega, ?_⟩
    conv => whnf
    refine loopE [] (k + 1) (by omega) (by omega) ⟨rfl, trivial⟩ ⟨?_, trivial⟩ trivial (by kernel_rfl) trivial (by kernel_rfl)
    conv => whnf
    exact congrArg (slC 4 GNode.c) (take_rep_set xs k default h)
  · exact retW tbl_ok rfl rfl ⟨by conv => whnf
                                  rw [take_rep_end _ _ _ (by omega)], trivial⟩

theorem toGraph (x : GGraph) (h : x.w ≤ 1048576) : Meets Tryz.prog 21 [.agg x.c] [.agg x.c] := by
  refine enterW tbl_ok false Tryz.func21 rfl (by decide) fun W => ?_
  conv => whnf
  refine callW (toNodeS x.nodes (by simp only [GGraph.w] at h; omega)) rfl (go tbl_ok false ?_)
  conv => whnf
  exact retW tbl_ok rfl rfl ⟨⟨rfl, rfl, rfl, trivial⟩, trivial⟩

theorem toStamp (x : GStamp) : Meets Tryz.prog 123 [.agg x.c] [.agg x.c] := by
  refine enterW tbl_ok false Tryz.func123 rfl (by decide) fun W => ?_
  conv => whnf
  exact retW tbl_ok rfl rfl ⟨⟨rfl, rfl, trivial⟩, trivial⟩

theorem toRecord (x : GRecord) : Meets Tryz.prog 63 [.agg x.c] [.agg x.c] := by
  refine enterW tbl_ok false Tryz.func63 rfl (by decide) fun W => ?_
  conv => whnf
  refine callW (toStamp x.stamp) rfl (go tbl_ok false ?_)
  conv => whnf
  exact retW tbl_ok rfl rfl ⟨⟨rfl, rfl, rfl, rfl, rfl, trivial⟩, trivial⟩

theorem toRecordS (xs : List GRecord) (hx : xs.length ≤ 1048576) : Meets Tryz.prog 22 [.one (sGRecord xs)] [.one (sGRecord xs)] := by
  have hl := hx
  refine enterW tbl_ok false Tryz.func22 rfl (by decide) fun W => ?_
  conv => whnf
  refine ⟨by omega, ?_⟩
  conv => whnf
  refine castW 0 (sGRecord (List.replicate xs.length default)) rfl (cast_make (α := GRecord) (e := GRecord.c) xs.length ⟨.inl rfl, .inl rfl, .inl rfl, .inl rfl, .inl rfl, trivial⟩) ?_
  refine loopW tbl_ok false [] (fun k : Nat => [(4, .c (vi k))]) (fun _ => []) (fun k => [⟨0, sGRecord (xs.take k ++ List.replicate (xs.length - k) default)⟩])
    (fun k => k ≤ xs.length) (fun k => xs.length - k) 0 (Nat.zero_le _) ⟨rfl, trivial⟩ trivial ⟨?_, trivial⟩ trivial (by kernel_rfl) (fun k hk => ?_)
  · conv => whnf
    exact rep_start (e := GRecord.c) xs
  conv => whnf
  refine ⟨fun h => ?_, fun h => ?_⟩ <;> simp at h <;> conv => whnf
  · refine ⟨by omega, ?_⟩
    conv => whnf
    refine callW (toRecord (xs.getD k default)) rfl (go tbl_ok false ?_)
    conv => whnf
    refine ⟨by simp; omega, ?_⟩
    conv => whnf
    refine storeW tbl_ok rfl rfl rfl rfl rfl rfl rfl rfl _ (slC_set (xs := xs.take k ++ List.replicate (xs.length - k) default) (x := xs.getD k default) (e := GRecord.c) (by simp; omega) ?_) (go tbl_ok false ?_)
    · rfl
    conv => whnf
    refine ⟨by simp only [inR]; omega, ?_⟩
    conv => whnf
    refine loopE [] (k + 1) (by omega) (by omega) ⟨rfl, trivial⟩ ⟨?_, trivial⟩ trivial (by kernel_rfl) trivial (by kernel_rfl)
    conv => whnf
    exact congrArg (slC 5 GRecord.c) (take_rep_set xs k default h)
  · exact retW tbl_ok rfl rfl ⟨by conv => whnf
                                  rw [take_rep_end _ _ _ (by omega)], trivial⟩

theorem toPick (x : GPick) : Meets Tryz.prog 96 [.agg x.c] [.agg x.c] := by
  refine enterW tbl_ok false Tryz.func96 rfl (by decide) fun W => ?_
  conv => whnf
  exact retW tbl_ok rfl rfl ⟨⟨rfl, rfl, rfl, trivial⟩, trivial⟩

theorem toPickS (xs : List GPick) (hx : xs.length ≤ 1048576) : Meets Tryz.prog 39 [.one (sGPick xs)] [.one (sGPick xs)] := by
  have hl := hx
  refine enterW tbl_ok false Tryz.func39 rfl (by decide) fun W => ?_
  conv => whnf
  refine ⟨by omega, ?_⟩
  conv => whnf
  refine castW 0 (sGPick (List.replicate xs.length default)) rfl (cast_make (α := GPick) (e := GPick.c) xs.length ⟨.inl rfl, .inl rfl, .inl rfl, trivial⟩) ?_
  refine loopW tbl_ok false [] (fun k : Nat => [(4, .c (vi k))]) (fun _ => []) (fun k => [⟨0, sGPick (xs.take k ++ List.replicate (xs.length - k) default)⟩])
    (fun k => k ≤ xs.length) (fun k => xs.length - k) 0 (Nat.zero_le _) ⟨rfl, trivial⟩ trivial ⟨?_, trivial⟩ trivial (by kernel_rfl) (fun k hk => ?_)
  · conv => whnf
    exact rep_start (e := GPick.c) xs
  conv => whnf
  refine ⟨fun h => ?_, fun h => ?_⟩ <;> simp at h <;> conv => whnf
  · refine ⟨by omega, ?_⟩
    conv => whnf
    refine callW (toPick (xs.getD k default)) rfl (go tbl_ok false ?_)
    conv => whnf
    refine ⟨by simp; omega, ?_⟩
    conv => whnf
    refine storeW tbl_ok rfl rfl rfl rfl rfl rfl rfl rfl _ (slC_set (xs := xs.take k ++ List.replicate (xs.length - k) default) (x := xs.getD k default) (e := GPick.c) (by simp; omega) ?_) (go tbl_ok false ?_)
    · rfl
    conv => whnf
    refine ⟨by simp only [inR]; omega, ?_⟩
    conv => whnf
    refine loopE [] (k + 1) (by omega) (by omega) ⟨rfl, trivial⟩ ⟨?_, trivial⟩ trivial (by kernel_rfl) trivial (by kernel_rfl)
    conv => whnf
    exact congrArg (slC 3 GPick.c) (take_rep_set xs k default h)
  · exact retW tbl_ok rfl rfl ⟨by conv => whnf
                                  rw [take_rep_end _ _ _ (by omega)], trivial⟩

theorem toScript (x : GScript) (h : x.w ≤ 1048576) : Meets Tryz.prog 8 [.agg x.c] [.agg x.c] := by
  refine enterW tbl_ok false Tryz.func8 rfl (by decide) fun W => ?_
  conv => whnf
  refine callW (toGraph x.graph (by simp only [GScript.w] at h; omega)) rfl (go tbl_ok false ?_)
  conv => whnf
  refine callW (toRecordS x.inputs (by simp only [GScript.w] at h; omega)) rfl (go tbl_ok false ?_)
  conv => whnf
  refine callW (toPickS x.picks (by simp only [GScript.w] at h; omega)) rfl (go tbl_ok false ?_)
  conv => whnf
  exact retW tbl_ok rfl rfl ⟨⟨rfl, rfl, rfl, rfl, rfl, rfl, trivial⟩, trivial⟩

theorem eqIntS (xs : List Int) (hx : xs.length ≤ 1048576) : Meets Tryz.prog 164 [.one (sInt xs), .one (sInt xs)] [.one (vb true)] := by
  have hl := hx
  refine enterW tbl_ok false Tryz.func164 rfl (by decide) fun W => ?_
  conv => whnf
  refine ⟨fun h => ?_, fun _ => ?_⟩ <;> conv => whnf
  · simp at h
  refine loopW tbl_ok false [] (fun k : Nat => [(5, .c (vi k))]) (fun _ => []) (fun _ => [])
    (fun k => k ≤ xs.length) (fun k => xs.length - k) 0 (Nat.zero_le _) ⟨rfl, trivial⟩ trivial trivial trivial (by kernel_rfl) (fun k hk => ?_)
  conv => whnf
  refine ⟨fun h => ?_, fun h => ?_⟩ <;> simp at h <;> conv => whnf
  · refine drawW rfl [0, 1, 2, 3, 4, 5, 6, 7, 8] (by kernel_rfl) (go tbl_ok false ?_)
    conv => whnf
    refine ⟨by omega, ?_⟩
    conv => whnf
    refine ⟨by omega, ?_⟩
    conv => whnf
    refine ⟨fun h' => ?_, fun _ => ?_⟩ <;> conv => whnf
    · simp at h'
    refine ⟨by simp only [inR]; omega, ?_⟩
    conv => whnf
    exact loopE [] (k + 1) (by omega) (by omega) ⟨rfl, trivial⟩ trivial trivial (by kernel_rfl) trivial (by kernel_rfl)
  · exact retW tbl_ok rfl rfl ⟨rfl, trivial⟩

theorem eqNode (x : GNode) (h : x.w ≤ 1048576) : Meets Tryz.prog 126 [.agg x.c, .agg x.c] [.one (vb true)] := by
  refine enterW tbl_ok false Tryz.func126 rfl (by decide) fun W => ?_
  conv => whnf
  refine ⟨fun h => ?_, fun _ => ?_⟩ <;> conv => whnf
  · simp at h
  refine ⟨fun h => ?_, fun _ => ?_⟩ <;> conv => whnf
  · simp at h
  refine ⟨fun h => ?_, fun _ => ?_⟩ <;> conv => whnf
  · simp at h
  refine callR (eqIntS x.outs (by simp only [GNode.w] at h; omega)) rfl (go tbl_ok false ?_)
  conv => whnf
  refine ⟨fun h => ?_, fun _ => ?_⟩ <;> conv => whnf
  · simp at h
  exact retW tbl_ok rfl rfl ⟨rfl, trivial⟩

theorem eqNodeS (xs : List GNode) (hx : wS GNode.w xs ≤ 1048576) : Meets Tryz.prog 68 [.one (sGNode xs), .one (sGNode xs)] [.one (vb true)] := by
  have hl : xs.length ≤ 1048576 := by simp only [wS] at hx; omega
  refine enterW tbl_ok false Tryz.func68 rfl (by decide) fun W => ?_
  conv => whnf
  refine ⟨fun h => ?_, fun _ => ?_⟩ <;> conv => whnf
  · simp at h
  refine loopW tbl_ok false [] (fun k : Nat => [(5, .c (vi k))]) (fun _ => []) (fun _ => [])
    (fun k => k ≤ xs.length) (fun k => xs.length - k) 0 (Nat.zero_le _) ⟨rfl, trivial⟩ trivial trivial trivial (by kernel_rfl) (fun k hk => ?_)
  conv => whnf
  refine ⟨fun h => ?_, fun h => ?_⟩ <;> simp at h <;> conv => whnf
  · refine drawW rfl [0, 1, 2, 3, 4, 5, 6, 7, 8, 9] (by kernel_rfl) (go tbl_ok false ?_)
    conv => whnf
    refine ⟨by omega, ?_⟩
    conv => whnf
    refine ⟨by omega, ?_⟩
    conv => whnf
    refine callR (eqNode (xs.getD k default) (by have := wS_take_le GNode.w xs k h; simp only [wS] at hx; omega)) rfl (go tbl_ok false ?_)
    conv => whnf
    refine ⟨fun h' => ?_, fun _ => ?_⟩ <;> conv => whnf
    · simp at h'
    refine ⟨by simp only [inR]; omega, ?_⟩
    conv => whnf
    exact loopE [] (k + 1) (by omega) (by omega) ⟨rfl, trivial⟩ trivial trivial (by kernel_rfl) trivial (by kernel_rfl)
  · exact retW tbl_ok rfl rfl ⟨rfl, trivial⟩

theorem eqGraph (x : GGraph) (h : x.w ≤ 1048576) : Meets Tryz.prog 25 [.agg x.c, .agg x.c] [.one (vb true)] := by
  refine enterW tbl_ok false Tryz.func25 rfl (by decide) fun W => ?_
  conv => whnf
  refine callR (eqNodeS x.nodes (by simp only [GGraph.w] at h; omega)) rfl (go tbl_ok false ?_)
  conv => whnf
  refine ⟨fun h => ?_, fun _ => ?_⟩ <;> conv => whnf
  · simp at h
  refine ⟨fun h => ?_, fun _ => ?_⟩ <;> conv => whnf
  · simp at h
  refine ⟨fun h => ?_, fun _ => ?_⟩ <;> conv => whnf
  · simp at h
  exact retW tbl_ok rfl rfl ⟨rfl, trivial⟩

theorem eqStamp (x : GStamp) : Meets Tryz.prog 127 [.agg x.c, .agg x.c] [.one (vb true)] := by
  refine enterW tbl_ok false Tryz.func127 rfl (by decide) fun W => ?_
  conv => whnf
  refine ⟨fun h => ?_, fun _ => ?_⟩ <;> conv => whnf
  · simp at h
  refine ⟨fun h => ?_, fun _ => ?_⟩ <;> conv => whnf
  · simp at h
  exact retW tbl_ok rfl rfl ⟨rfl, trivial⟩

theorem eqRecord (x : GRecord) : Meets Tryz.prog 69 [.agg x.c, .agg x.c] [.one (vb true)] := by
  refine enterW tbl_ok false Tryz.func69 rfl (by decide) fun W => ?_
  conv => whnf
  refine ⟨fun h => ?_, fun _ => ?_⟩ <;> conv => whnf
  · simp at h
  refine callR (eqStamp x.stamp) rfl (go tbl_ok false ?_)
  conv => whnf
  refine ⟨fun h => ?_, fun _ => ?_⟩ <;> conv => whnf
  · simp at h
  refine ⟨fun h => ?_, fun _ => ?_⟩ <;> conv => whnf
  · simp at h
  refine ⟨fun h => ?_, fun _ => ?_⟩ <;> conv => whnf
  · simp at h
  exact retW tbl_ok rfl rfl ⟨rfl, trivial⟩

theorem eqRecordS (xs : List GRecord) (hx : xs.length ≤ 1048576) : Meets Tryz.prog 26 [.one (sGRecord xs), .one (sGRecord xs)] [.one (vb true)] := by
  have hl := hx
  refine enterW tbl_ok false Tryz.func26 rfl (by decide) fun W => ?_
  conv => whnf
  refine ⟨fun h => ?_, fun _ => ?_⟩ <;> conv => whnf
  · simp at h
  refine loopW tbl_ok false [] (fun k : Nat => [(5, .c (vi k))]) (fun _ => []) (fun _ => [])
    (fun k => k ≤ xs.length) (fun k => xs.length - k) 0 (Nat.zero_le _) ⟨rfl, trivial⟩ trivial trivial trivial (by kernel_rfl) (fun k hk => ?_)
  conv => whnf
  refine ⟨fun h => ?_, fun h => ?_⟩ <;> simp at h <;> conv => whnf
  · refine drawW rfl [0, 1, 2, 3, 4, 5, 6, 7, 8, 9] (by kernel_rfl) (go tbl_ok false ?_)
    conv => whnf
    refine ⟨by omega, ?_⟩
    conv => whnf
    refine ⟨by omega, ?_⟩
    conv => whnf
    refine callR (eqRecord (xs.getD k default)) rfl (go tbl_ok false ?_)
    conv => whnf
    refine ⟨fun h' => ?_, fun _ => ?_⟩ <;> conv => whnf
    · simp at h'
    refine ⟨by simp only [inR]; omega, ?_⟩
    conv => whnf
    exact loopE [] (k + 1) (by omega) (by omega) ⟨rfl, trivial⟩ trivial trivial (by kernel_rfl) trivial (by kernel_rfl)
  · exact retW tbl_ok rfl rfl ⟨rfl, trivial⟩

theorem eqCell (x : GCell) : Meets Tryz.prog 67 [.agg x.c, .agg x.c] [.one (vb true)] := by
  refine enterW tbl_ok false Tryz.func67 rfl (by decide) fun W => ?_
  conv => whnf
  refine ⟨fun h => ?_, fun _ => ?_⟩ <;> conv => whnf
  · simp at h
  refine ⟨fun h => ?_, fun _ => ?_⟩ <;> conv => whnf
  · simp at h
  refine ⟨fun h => ?_, fun _ => ?_⟩ <;> conv => whnf
  · simp at h
  refine ⟨fun h => ?_, fun _ => ?_⟩ <;> conv => whnf
  · simp at h
  exact retW tbl_ok rfl rfl ⟨rfl, trivial⟩

theorem eqCellS (xs : List GCell) (hx : xs.length ≤ 1048576) : Meets Tryz.prog 24 [.one (sGCell xs), .one (sGCell xs)] [.one (vb true)] := by
  have hl := hx
  refine enterW tbl_ok false Tryz.func24 rfl (by decide) fun W => ?_
  conv => whnf
  refine ⟨fun h => ?_, fun _ => ?_⟩ <;> conv => whnf
  · simp at h
  refine loopW tbl_ok false [] (fun k : Nat => [(5, .c (vi k))]) (fun _ => []) (fun _ => [])
    (fun k => k ≤ xs.length) (fun k => xs.length - k) 0 (Nat.zero_le _) ⟨rfl, trivial⟩ trivial trivial trivial (by kernel_rfl) (fun k hk => ?_)
  conv => whnf
  refine ⟨fun h => ?_, fun h => ?_⟩ <;> simp at h <;> conv => whnf
  · refine drawW rfl [0, 1, 2, 3, 4, 5, 6, 7, 8, 9] (by kernel_rfl) (go tbl_ok false ?_)
    conv => whnf
    refine ⟨by omega, ?_⟩
    conv => whnf
    refine ⟨by omega, ?_⟩
    conv => whnf
    refine callR (eqCell (xs.getD k default)) rfl (go tbl_ok false ?_)
    conv => whnf
    refine ⟨fun h' => ?_, fun _ => ?_⟩ <;> conv => whnf
    · simp at h'
    refine ⟨by simp only [inR]; omega, ?_⟩
    conv => whnf
    exact loopE [] (k + 1) (by omega) (by omega) ⟨rfl, trivial⟩ trivial trivial (by kernel_rfl) trivial (by kernel_rfl)
  · exact retW tbl_ok rfl rfl ⟨rfl, trivial⟩

theorem eqBoolS (xs : List Bool) (hx : xs.length ≤ 1048576) : Meets Tryz.prog 11 [.one (sBool xs), .one (sBool xs)] [.one (vb true)] := by
  have hl := hx
  refine enterW tbl_ok false Tryz.func11 rfl (by decide) fun W => ?_
  conv => whnf
  refine ⟨fun h => ?_, fun _ => ?_⟩ <;> conv => whnf
  · simp at h
  refine loopW tbl_ok false [] (fun k : Nat => [(5, .c (vi k))]) (fun _ => []) (fun _ => [])
    (fun k => k ≤ xs.length) (fun k => xs.length - k) 0 (Nat.zero_le _) ⟨rfl, trivial⟩ trivial trivial trivial (by kernel_rfl) (fun k hk => ?_)
  conv => whnf
  refine ⟨fun h => ?_, fun h => ?_⟩ <;> simp at h <;> conv => whnf
  · refine drawW rfl [0, 1, 2, 3, 4, 5, 6, 7, 8] (by kernel_rfl) (go tbl_ok false ?_)
    conv => whnf
    refine ⟨by omega, ?_⟩
    conv => whnf
    refine ⟨by omega, ?_⟩
    conv => whnf
    refine ⟨fun h' => ?_, fun _ => ?_⟩ <;> conv => whnf
    · simp at h'
    refine ⟨by simp only [inR]; omega, ?_⟩
    conv => whnf
    exact loopE [] (k + 1) (by omega) (by omega) ⟨rfl, trivial⟩ trivial trivial (by kernel_rfl) trivial (by kernel_rfl)
  · exact retW tbl_ok rfl rfl ⟨rfl, trivial⟩

theorem eqDone (x : GDone) : Meets Tryz.prog 215 [.agg x.c, .agg x.c] [.one (vb true)] := by
  refine enterW tbl_ok false Tryz.func215 rfl (by decide) fun W => ?_
  conv => whnf
  refine ⟨fun h => ?_, fun _ => ?_⟩ <;> conv => whnf
  · simp at h
  refine ⟨fun h => ?_, fun _ => ?_⟩ <;> conv => whnf
  · simp at h
  exact retW tbl_ok rfl rfl ⟨rfl, trivial⟩

theorem eqDoneS (xs : List GDone) (hx : xs.length ≤ 1048576) : Meets Tryz.prog 165 [.one (sGDone xs), .one (sGDone xs)] [.one (vb true)] := by
  have hl := hx
  refine enterW tbl_ok false Tryz.func165 rfl (by decide) fun W => ?_
  conv => whnf
  refine ⟨fun h => ?_, fun _ => ?_⟩ <;> conv => whnf
  · simp at h
  refine loopW tbl_ok false [] (fun k : Nat => [(5, .c (vi k))]) (fun _ => []) (fun _ => [])
    (fun k => k ≤ xs.length) (fun k => xs.length - k) 0 (Nat.zero_le _) ⟨rfl, trivial⟩ trivial trivial trivial (by kernel_rfl) (fun k hk => ?_)
  conv => whnf
  refine ⟨fun h => ?_, fun h => ?_⟩ <;> simp at h <;> conv => whnf
  · refine drawW rfl [0, 1, 2, 3, 4, 5, 6, 7, 8, 9] (by kernel_rfl) (go tbl_ok false ?_)
    conv => whnf
    refine ⟨by omega, ?_⟩
    conv => whnf
    refine ⟨by omega, ?_⟩
    conv => whnf
    refine callR (eqDone (xs.getD k default)) rfl (go tbl_ok false ?_)
    conv => whnf
    refine ⟨fun h' => ?_, fun _ => ?_⟩ <;> conv => whnf
    · simp at h'
    refine ⟨by simp only [inR]; omega, ?_⟩
    conv => whnf
    exact loopE [] (k + 1) (by omega) (by omega) ⟨rfl, trivial⟩ trivial trivial (by kernel_rfl) trivial (by kernel_rfl)
  · exact retW tbl_ok rfl rfl ⟨rfl, trivial⟩

theorem eqWorker (x : GWorker) (h : x.w ≤ 1048576) : Meets Tryz.prog 108 [.agg x.c, .agg x.c] [.one (vb true)] := by
  refine enterW tbl_ok false Tryz.func108 rfl (by decide) fun W => ?_
  conv => whnf
  refine callR (eqRecordS x.queue (by simp only [GWorker.w] at h; omega)) rfl (go tbl_ok false ?_)
  conv => whnf
  refine ⟨fun h => ?_, fun _ => ?_⟩ <;> conv => whnf
  · simp at h
  refine callR (eqRecordS x.staged (by simp only [GWorker.w] at h; omega)) rfl (go tbl_ok false ?_)
  conv => whnf
  refine ⟨fun h => ?_, fun _ => ?_⟩ <;> conv => whnf
  · simp at h
  refine callR (eqRecordS x.inputs (by simp only [GWorker.w] at h; omega)) rfl (go tbl_ok false ?_)
  conv => whnf
  refine ⟨fun h => ?_, fun _ => ?_⟩ <;> conv => whnf
  · simp at h
  refine callR (eqCellS x.cells (by simp only [GWorker.w] at h; omega)) rfl (go tbl_ok false ?_)
  conv => whnf
  refine ⟨fun h => ?_, fun _ => ?_⟩ <;> conv => whnf
  · simp at h
  refine callR (eqIntS x.sums (by simp only [GWorker.w] at h; omega)) rfl (go tbl_ok false ?_)
  conv => whnf
  refine ⟨fun h => ?_, fun _ => ?_⟩ <;> conv => whnf
  · simp at h
  refine callR (eqBoolS x.black (by simp only [GWorker.w] at h; omega)) rfl (go tbl_ok false ?_)
  conv => whnf
  refine ⟨fun h => ?_, fun _ => ?_⟩ <;> conv => whnf
  · simp at h
  refine callR (eqBoolS x.caps (by simp only [GWorker.w] at h; omega)) rfl (go tbl_ok false ?_)
  conv => whnf
  refine ⟨fun h => ?_, fun _ => ?_⟩ <;> conv => whnf
  · simp at h
  refine callR (eqDoneS x.dones (by simp only [GWorker.w] at h; omega)) rfl (go tbl_ok false ?_)
  conv => whnf
  refine ⟨fun h => ?_, fun _ => ?_⟩ <;> conv => whnf
  · simp at h
  exact retW tbl_ok rfl rfl ⟨rfl, trivial⟩

theorem eqWorkerS (xs : List GWorker) (hx : wS GWorker.w xs ≤ 1048576) : Meets Tryz.prog 43 [.one (sGWorker xs), .one (sGWorker xs)] [.one (vb true)] := by
  have hl : xs.length ≤ 1048576 := by simp only [wS] at hx; omega
  refine enterW tbl_ok false Tryz.func43 rfl (by decide) fun W => ?_
  conv => whnf
  refine ⟨fun h => ?_, fun _ => ?_⟩ <;> conv => whnf
  · simp at h
  refine loopW tbl_ok false [] (fun k : Nat => [(5, .c (vi k))]) (fun _ => []) (fun _ => [])
    (fun k => k ≤ xs.length) (fun k => xs.length - k) 0 (Nat.zero_le _) ⟨rfl, trivial⟩ trivial trivial trivial (by kernel_rfl) (fun k hk => ?_)
  conv => whnf
  refine ⟨fun h => ?_, fun h => ?_⟩ <;> simp at h <;> conv => whnf
  · refine drawW rfl [0, 1, 2, 3, 4, 5, 6, 7, 8, 9] (by kernel_rfl) (go tbl_ok false ?_)
    conv => whnf
    refine ⟨by omega, ?_⟩
    conv => whnf
    refine ⟨by omega, ?_⟩
    conv => whnf
    refine callR (eqWorker (xs.getD k default) (by have := wS_take_le GWorker.w xs k h; simp only [wS] at hx; omega)) rfl (go tbl_ok false ?_)
    conv => whnf
    refine ⟨fun h' => ?_, fun _ => ?_⟩ <;> conv => whnf
    · simp at h'
    refine ⟨by simp only [inR]; omega, ?_⟩
    conv => whnf
    exact loopE [] (k + 1) (by omega) (by omega) ⟨rfl, trivial⟩ trivial trivial (by kernel_rfl) trivial (by kernel_rfl)
  · exact retW tbl_ok rfl rfl ⟨rfl, trivial⟩

theorem eqLink (x : GLink) (h : x.w ≤ 1048576) : Meets Tryz.prog 109 [.agg x.c, .agg x.c] [.one (vb true)] := by
  refine enterW tbl_ok false Tryz.func109 rfl (by decide) fun W => ?_
  conv => whnf
  refine ⟨fun h => ?_, fun _ => ?_⟩ <;> conv => whnf
  · simp at h
  refine callR (eqRecordS x.queue (by simp only [GLink.w] at h; omega)) rfl (go tbl_ok false ?_)
  conv => whnf
  refine ⟨fun h => ?_, fun _ => ?_⟩ <;> conv => whnf
  · simp at h
  refine ⟨fun h => ?_, fun _ => ?_⟩ <;> conv => whnf
  · simp at h
  refine ⟨fun h => ?_, fun _ => ?_⟩ <;> conv => whnf
  · simp at h
  refine ⟨fun h => ?_, fun _ => ?_⟩ <;> conv => whnf
  · simp at h
  refine ⟨fun h => ?_, fun _ => ?_⟩ <;> conv => whnf
  · simp at h
  exact retW tbl_ok rfl rfl ⟨rfl, trivial⟩

theorem eqLinkS (xs : List GLink) (hx : wS GLink.w xs ≤ 1048576) : Meets Tryz.prog 44 [.one (sGLink xs), .one (sGLink xs)] [.one (vb true)] := by
  have hl : xs.length ≤ 1048576 := by simp only [wS] at hx; omega
  refine enterW tbl_ok false Tryz.func44 rfl (by decide) fun W => ?_
  conv => whnf
  refine ⟨fun h => ?_, fun _ => ?_⟩ <;> conv => whnf
  · simp at h
  refine loopW tbl_ok false [] (fun k : Nat => [(5, .c (vi k))]) (fun _ => []) (fun _ => [])
    (fun k => k ≤ xs.length) (fun k => xs.length - k) 0 (Nat.zero_le _) ⟨rfl, trivial⟩ trivial trivial trivial (by kernel_rfl) (fun k hk => ?_)
  conv => whnf
  refine ⟨fun h => ?_, fun h => ?_⟩ <;> simp at h <;> conv => whnf
  · refine drawW rfl [0, 1, 2, 3, 4, 5, 6, 7, 8, 9] (by kernel_rfl) (go tbl_ok false ?_)
    conv => whnf
    refine ⟨by omega, ?_⟩
    conv => whnf
    refine ⟨by omega, ?_⟩
    conv => whnf
    refine callR (eqLink (xs.getD k default) (by have := wS_take_le GLink.w xs k h; simp only [wS] at hx; omega)) rfl (go tbl_ok false ?_)
    conv => whnf
    refine ⟨fun h' => ?_, fun _ => ?_⟩ <;> conv => whnf
    · simp at h'
    refine ⟨by simp only [inR]; omega, ?_⟩
    conv => whnf
    exact loopE [] (k + 1) (by omega) (by omega) ⟨rfl, trivial⟩ trivial trivial (by kernel_rfl) trivial (by kernel_rfl)
  · exact retW tbl_ok rfl rfl ⟨rfl, trivial⟩

theorem eqToken (x : GToken) : Meets Tryz.prog 110 [.agg x.c, .agg x.c] [.one (vb true)] := by
  refine enterW tbl_ok false Tryz.func110 rfl (by decide) fun W => ?_
  conv => whnf
  refine ⟨fun h => ?_, fun _ => ?_⟩ <;> conv => whnf
  · simp at h
  refine ⟨fun h => ?_, fun _ => ?_⟩ <;> conv => whnf
  · simp at h
  refine ⟨fun h => ?_, fun _ => ?_⟩ <;> conv => whnf
  · simp at h
  refine ⟨fun h => ?_, fun _ => ?_⟩ <;> conv => whnf
  · simp at h
  refine ⟨fun h => ?_, fun _ => ?_⟩ <;> conv => whnf
  · simp at h
  exact retW tbl_ok rfl rfl ⟨rfl, trivial⟩

theorem eqTokenS (xs : List GToken) (hx : xs.length ≤ 1048576) : Meets Tryz.prog 45 [.one (sGToken xs), .one (sGToken xs)] [.one (vb true)] := by
  have hl := hx
  refine enterW tbl_ok false Tryz.func45 rfl (by decide) fun W => ?_
  conv => whnf
  refine ⟨fun h => ?_, fun _ => ?_⟩ <;> conv => whnf
  · simp at h
  refine loopW tbl_ok false [] (fun k : Nat => [(5, .c (vi k))]) (fun _ => []) (fun _ => [])
    (fun k => k ≤ xs.length) (fun k => xs.length - k) 0 (Nat.zero_le _) ⟨rfl, trivial⟩ trivial trivial trivial (by kernel_rfl) (fun k hk => ?_)
  conv => whnf
  refine ⟨fun h => ?_, fun h => ?_⟩ <;> simp at h <;> conv => whnf
  · refine drawW rfl [0, 1, 2, 3, 4, 5, 6, 7, 8, 9] (by kernel_rfl) (go tbl_ok false ?_)
    conv => whnf
    refine ⟨by omega, ?_⟩
    conv => whnf
    refine ⟨by omega, ?_⟩
    conv => whnf
    refine callR (eqToken (xs.getD k default)) rfl (go tbl_ok false ?_)
    conv => whnf
    refine ⟨fun h' => ?_, fun _ => ?_⟩ <;> conv => whnf
    · simp at h'
    refine ⟨by simp only [inR]; omega, ?_⟩
    conv => whnf
    exact loopE [] (k + 1) (by omega) (by omega) ⟨rfl, trivial⟩ trivial trivial (by kernel_rfl) trivial (by kernel_rfl)
  · exact retW tbl_ok rfl rfl ⟨rfl, trivial⟩

theorem eqNews (x : GNews) : Meets Tryz.prog 111 [.agg x.c, .agg x.c] [.one (vb true)] := by
  refine enterW tbl_ok false Tryz.func111 rfl (by decide) fun W => ?_
  conv => whnf
  refine ⟨fun h => ?_, fun _ => ?_⟩ <;> conv => whnf
  · simp at h
  refine ⟨fun h => ?_, fun _ => ?_⟩ <;> conv => whnf
  · simp at h
  refine ⟨fun h => ?_, fun _ => ?_⟩ <;> conv => whnf
  · simp at h
  exact retW tbl_ok rfl rfl ⟨rfl, trivial⟩

theorem eqNewsS (xs : List GNews) (hx : xs.length ≤ 1048576) : Meets Tryz.prog 46 [.one (sGNews xs), .one (sGNews xs)] [.one (vb true)] := by
  have hl := hx
  refine enterW tbl_ok false Tryz.func46 rfl (by decide) fun W => ?_
  conv => whnf
  refine ⟨fun h => ?_, fun _ => ?_⟩ <;> conv => whnf
  · simp at h
  refine loopW tbl_ok false [] (fun k : Nat => [(5, .c (vi k))]) (fun _ => []) (fun _ => [])
    (fun k => k ≤ xs.length) (fun k => xs.length - k) 0 (Nat.zero_le _) ⟨rfl, trivial⟩ trivial trivial trivial (by kernel_rfl) (fun k hk => ?_)
  conv => whnf
  refine ⟨fun h => ?_, fun h => ?_⟩ <;> simp at h <;> conv => whnf
  · refine drawW rfl [0, 1, 2, 3, 4, 5, 6, 7, 8, 9] (by kernel_rfl) (go tbl_ok false ?_)
    conv => whnf
    refine ⟨by omega, ?_⟩
    conv => whnf
    refine ⟨by omega, ?_⟩
    conv => whnf
    refine callR (eqNews (xs.getD k default)) rfl (go tbl_ok false ?_)
    conv => whnf
    refine ⟨fun h' => ?_, fun _ => ?_⟩ <;> conv => whnf
    · simp at h'
    refine ⟨by simp only [inR]; omega, ?_⟩
    conv => whnf
    exact loopE [] (k + 1) (by omega) (by omega) ⟨rfl, trivial⟩ trivial trivial (by kernel_rfl) trivial (by kernel_rfl)
  · exact retW tbl_ok rfl rfl ⟨rfl, trivial⟩

theorem eqCluster (x : GCluster) (h : x.w ≤ 1048576) : Meets Tryz.prog 10 [.agg x.c, .agg x.c] [.one (vb true)] := by
  refine enterW tbl_ok false Tryz.func10 rfl (by decide) fun W => ?_
  conv => whnf
  refine callR (eqGraph x.graph (by simp only [GCluster.w] at h; omega)) rfl (go tbl_ok false ?_)
  conv => whnf
  refine ⟨fun h => ?_, fun _ => ?_⟩ <;> conv => whnf
  · simp at h
  refine callR (eqWorkerS x.workers (by simp only [GCluster.w] at h; omega)) rfl (go tbl_ok false ?_)
  conv => whnf
  refine ⟨fun h => ?_, fun _ => ?_⟩ <;> conv => whnf
  · simp at h
  refine callR (eqLinkS x.links (by simp only [GCluster.w] at h; omega)) rfl (go tbl_ok false ?_)
  conv => whnf
  refine ⟨fun h => ?_, fun _ => ?_⟩ <;> conv => whnf
  · simp at h
  refine callR (eqTokenS x.tokens (by simp only [GCluster.w] at h; omega)) rfl (go tbl_ok false ?_)
  conv => whnf
  refine ⟨fun h => ?_, fun _ => ?_⟩ <;> conv => whnf
  · simp at h
  refine callR (eqNewsS x.news (by simp only [GCluster.w] at h; omega)) rfl (go tbl_ok false ?_)
  conv => whnf
  refine ⟨fun h => ?_, fun _ => ?_⟩ <;> conv => whnf
  · simp at h
  exact retW tbl_ok rfl rfl ⟨rfl, trivial⟩

theorem eqPick (x : GPick) : Meets Tryz.prog 112 [.agg x.c, .agg x.c] [.one (vb true)] := by
  refine enterW tbl_ok false Tryz.func112 rfl (by decide) fun W => ?_
  conv => whnf
  refine ⟨fun h => ?_, fun _ => ?_⟩ <;> conv => whnf
  · simp at h
  refine ⟨fun h => ?_, fun _ => ?_⟩ <;> conv => whnf
  · simp at h
  refine ⟨fun h => ?_, fun _ => ?_⟩ <;> conv => whnf
  · simp at h
  exact retW tbl_ok rfl rfl ⟨rfl, trivial⟩

theorem eqPickS (xs : List GPick) (hx : xs.length ≤ 1048576) : Meets Tryz.prog 47 [.one (sGPick xs), .one (sGPick xs)] [.one (vb true)] := by
  have hl := hx
  refine enterW tbl_ok false Tryz.func47 rfl (by decide) fun W => ?_
  conv => whnf
  refine ⟨fun h => ?_, fun _ => ?_⟩ <;> conv => whnf
  · simp at h
  refine loopW tbl_ok false [] (fun k : Nat => [(5, .c (vi k))]) (fun _ => []) (fun _ => [])
    (fun k => k ≤ xs.length) (fun k => xs.length - k) 0 (Nat.zero_le _) ⟨rfl, trivial⟩ trivial trivial trivial (by kernel_rfl) (fun k hk => ?_)
  conv => whnf
  refine ⟨fun h => ?_, fun h => ?_⟩ <;> simp at h <;> conv => whnf
  · refine drawW rfl [0, 1, 2, 3, 4, 5, 6, 7, 8, 9] (by kernel_rfl) (go tbl_ok false ?_)
    conv => whnf
    refine ⟨by omega, ?_⟩
    conv => whnf
    refine ⟨by omega, ?_⟩
    conv => whnf
    refine callR (eqPick (xs.getD k default)) rfl (go tbl_ok false ?_)
    conv => whnf
    refine ⟨fun h' => ?_, fun _ => ?_⟩ <;> conv => whnf
    · simp at h'
    refine ⟨by simp only [inR]; omega, ?_⟩
    conv => whnf
    exact loopE [] (k + 1) (by omega) (by omega) ⟨rfl, trivial⟩ trivial trivial (by kernel_rfl) trivial (by kernel_rfl)
  · exact retW tbl_ok rfl rfl ⟨rfl, trivial⟩

theorem eqScript (x : GScript) (h : x.w ≤ 1048576) : Meets Tryz.prog 12 [.agg x.c, .agg x.c] [.one (vb true)] := by
  refine enterW tbl_ok false Tryz.func12 rfl (by decide) fun W => ?_
  conv => whnf
  refine callR (eqGraph x.graph (by simp only [GScript.w] at h; omega)) rfl (go tbl_ok false ?_)
  conv => whnf
  refine ⟨fun h => ?_, fun _ => ?_⟩ <;> conv => whnf
  · simp at h
  refine callR (eqRecordS x.inputs (by simp only [GScript.w] at h; omega)) rfl (go tbl_ok false ?_)
  conv => whnf
  refine ⟨fun h => ?_, fun _ => ?_⟩ <;> conv => whnf
  · simp at h
  refine callR (eqPickS x.picks (by simp only [GScript.w] at h; omega)) rfl (go tbl_ok false ?_)
  conv => whnf
  refine ⟨fun h => ?_, fun _ => ?_⟩ <;> conv => whnf
  · simp at h
  refine ⟨fun h => ?_, fun _ => ?_⟩ <;> conv => whnf
  · simp at h
  exact retW tbl_ok rfl rfl ⟨rfl, trivial⟩

theorem szCellS (xs : List GCell) (left : Int) (ho : xs.length ≤ maxLen) (h0 : 0 ≤ left) (h1 : left ≤ 1048576) : Meets Tryz.prog 172 [.one (sGCell xs), .one (vi left)] [.one (vi (szR (xs.length) left))] := by
  have hl : xs.length ≤ 9223372036854775807 := ho
  refine enterW tbl_ok false Tryz.func172 rfl (by decide) fun W => ?_
  conv => whnf
  refine ⟨by simp only [inR]; omega, ?_⟩
  conv => whnf
  refine ⟨fun h => ?_, fun h => ?_⟩ <;> simp only [decide_eq_true_eq, decide_eq_false_iff_not] at h <;> conv => whnf
  · refine retW tbl_ok rfl rfl ⟨?_, trivial⟩
    conv => whnf
    rw [szR_neg (by omega)]
  · refine retW tbl_ok rfl rfl ⟨?_, trivial⟩
    conv => whnf
    rw [szR_pos (by omega)]

theorem szBoolS (xs : List Bool) (left : Int) (ho : xs.length ≤ maxLen) (h0 : 0 ≤ left) (h1 : left ≤ 1048576) : Meets Tryz.prog 173 [.one (sBool xs), .one (vi left)] [.one (vi (szR (xs.length) left))] := by
  have hl : xs.length ≤ 9223372036854775807 := ho
  refine enterW tbl_ok false Tryz.func173 rfl (by decide) fun W => ?_
  conv => whnf
  refine ⟨by simp only [inR]; omega, ?_⟩
  conv => whnf
  refine ⟨fun h => ?_, fun h => ?_⟩ <;> simp only [decide_eq_true_eq, decide_eq_false_iff_not] at h <;> conv => whnf
  · refine retW tbl_ok rfl rfl ⟨?_, trivial⟩
    conv => whnf
    rw [szR_neg (by omega)]
  · refine retW tbl_ok rfl rfl ⟨?_, trivial⟩
    conv => whnf
    rw [szR_pos (by omega)]

theorem szDoneS (xs : List GDone) (left : Int) (ho : xs.length ≤ maxLen) (h0 : 0 ≤ left) (h1 : left ≤ 1048576) : Meets Tryz.prog 174 [.one (sGDone xs), .one (vi left)] [.one (vi (szR (xs.length) left))] := by
  have hl : xs.length ≤ 9223372036854775807 := ho
  refine enterW tbl_ok false Tryz.func174 rfl (by decide) fun W => ?_
  conv => whnf
  refine ⟨by simp only [inR]; omega, ?_⟩
  conv => whnf
  refine ⟨fun h => ?_, fun h => ?_⟩ <;> simp only [decide_eq_true_eq, decide_eq_false_iff_not] at h <;> conv => whnf
  · refine retW tbl_ok rfl rfl ⟨?_, trivial⟩
    conv => whnf
    rw [szR_neg (by omega)]
  · refine retW tbl_ok rfl rfl ⟨?_, trivial⟩
    conv => whnf
    rw [szR_pos (by omega)]

theorem szWorker (x : GWorker) (left : Int) (ho : x.ok) (h0 : 0 ≤ left) (h1 : left ≤ 1048576) : Meets Tryz.prog 128 [.agg x.c, .one (vi left)] [.one (vi (szR x.w left))] := by
  have hw : x.w = x.queue.length + x.staged.length + x.inputs.length + x.cells.length + x.sums.length + x.black.length + x.caps.length + x.dones.length := rfl
  obtain ⟨o_queue, o_staged, o_inputs, o_cells, o_sums, o_black, o_caps, o_dones⟩ := ho
  refine enterW tbl_ok false Tryz.func128 rfl (by decide) fun W => ?_
  conv => whnf
  refine callR (szRecordS x.queue (left) o_queue.1 (by omega) (by omega)) rfl (go tbl_ok false ?_)
  conv => whnf
  refine ⟨fun h => ?_, fun h => ?_⟩ <;> simp only [decide_eq_true_eq, decide_eq_false_iff_not] at h <;> conv => whnf
  · refine retW tbl_ok rfl rfl ⟨?_, trivial⟩
    conv => whnf
    have h := szR_lt h (by omega)
    rw [szR_neg (by omega)]
  have h_queue := szR_ge h
  rw [szR_pos h_queue]
  refine callR (szRecordS x.staged (left - (x.queue.length : Nat)) o_staged.1 (by omega) (by omega)) rfl (go tbl_ok false ?_)
  conv => whnf
  refine ⟨fun h => ?_, fun h => ?_⟩ <;> simp only [decide_eq_true_eq, decide_eq_false_iff_not] at h <;> conv => whnf
  · refine retW tbl_ok rfl rfl ⟨?_, trivial⟩
    conv => whnf
    have h := szR_lt h (by omega)
    rw [szR_neg (by omega)]
  have h_staged := szR_ge h
  rw [szR_pos h_staged]
  refine callR (szRecordS x.inputs (left - (x.queue.length : Nat) - (x.staged.length : Nat)) o_inputs.1 (by omega) (by omega)) rfl (go tbl_ok false ?_)
  conv => whnf
  refine ⟨fun h => ?_, fun h => ?_⟩ <;> simp only [decide_eq_true_eq, decide_eq_false_iff_not] at h <;> conv => whnf
  · refine retW tbl_ok rfl rfl ⟨?_, trivial⟩
    conv => whnf
    have h := szR_lt h (by omega)
    rw [szR_neg (by omega)]
  have h_inputs := szR_ge h
  rw [szR_pos h_inputs]
  refine callR (szCellS x.cells (left - (x.queue.length : Nat) - (x.staged.length : Nat) - (x.inputs.length : Nat)) o_cells.1 (by omega) (by omega)) rfl (go tbl_ok false ?_)
  conv => whnf
  refine ⟨fun h => ?_, fun h => ?_⟩ <;> simp only [decide_eq_true_eq, decide_eq_false_iff_not] at h <;> conv => whnf
  · refine retW tbl_ok rfl rfl ⟨?_, trivial⟩
    conv => whnf
    have h := szR_lt h (by omega)
    rw [szR_neg (by omega)]
  have h_cells := szR_ge h
  rw [szR_pos h_cells]
  refine callR (szIntS x.sums (left - (x.queue.length : Nat) - (x.staged.length : Nat) - (x.inputs.length : Nat) - (x.cells.length : Nat)) o_sums.1 (by omega) (by omega)) rfl (go tbl_ok false ?_)
  conv => whnf
  refine ⟨fun h => ?_, fun h => ?_⟩ <;> simp only [decide_eq_true_eq, decide_eq_false_iff_not] at h <;> conv => whnf
  · refine retW tbl_ok rfl rfl ⟨?_, trivial⟩
    conv => whnf
    have h := szR_lt h (by omega)
    rw [szR_neg (by omega)]
  have h_sums := szR_ge h
  rw [szR_pos h_sums]
  refine callR (szBoolS x.black (left - (x.queue.length : Nat) - (x.staged.length : Nat) - (x.inputs.length : Nat) - (x.cells.length : Nat) - (x.sums.length : Nat)) o_black (by omega) (by omega)) rfl (go tbl_ok false ?_)
  conv => whnf
  refine ⟨fun h => ?_, fun h => ?_⟩ <;> simp only [decide_eq_true_eq, decide_eq_false_iff_not] at h <;> conv => whnf
  · refine retW tbl_ok rfl rfl ⟨?_, trivial⟩
    conv => whnf
    have h := szR_lt h (by omega)
    rw [szR_neg (by omega)]
  have h_black := szR_ge h
  rw [szR_pos h_black]
  refine callR (szBoolS x.caps (left - (x.queue.length : Nat) - (x.staged.length : Nat) - (x.inputs.length : Nat) - (x.cells.length : Nat) - (x.sums.length : Nat) - (x.black.length : Nat)) o_caps (by omega) (by omega)) rfl (go tbl_ok false ?_)
  conv => whnf
  refine ⟨fun h => ?_, fun h => ?_⟩ <;> simp only [decide_eq_true_eq, decide_eq_false_iff_not] at h <;> conv => whnf
  · refine retW tbl_ok rfl rfl ⟨?_, trivial⟩
    conv => whnf
    have h := szR_lt h (by omega)
    rw [szR_neg (by omega)]
  have h_caps := szR_ge h
  rw [szR_pos h_caps]
  refine callR (szDoneS x.dones (left - (x.queue.length : Nat) - (x.staged.length : Nat) - (x.inputs.length : Nat) - (x.cells.length : Nat) - (x.sums.length : Nat) - (x.black.length : Nat) - (x.caps.length : Nat)) o_dones.1 (by omega) (by omega)) rfl (go tbl_ok false ?_)
  conv => whnf
  refine ⟨fun h => ?_, fun h => ?_⟩ <;> simp only [decide_eq_true_eq, decide_eq_false_iff_not] at h <;> conv => whnf
  · refine retW tbl_ok rfl rfl ⟨?_, trivial⟩
    conv => whnf
    have h := szR_lt h (by omega)
    rw [szR_neg (by omega)]
  have h_dones := szR_ge h
  rw [szR_pos h_dones]
  refine retW tbl_ok rfl rfl ⟨?_, trivial⟩
  conv => whnf
  rw [szR_pos (by omega)]
  exact congrArg vi (by omega)

theorem szWorkerS (xs : List GWorker) (left : Int) (ho : xs.length ≤ maxLen ∧ ∀ y ∈ xs, GWorker.ok y) (h0 : 0 ≤ left) (h1 : left ≤ 1048576) : Meets Tryz.prog 71 [.one (sGWorker xs), .one (vi left)] [.one (vi (szR (wS GWorker.w xs) left))] := by
  have hl : xs.length ≤ 9223372036854775807 := ho.1
  refine enterW tbl_ok false Tryz.func71 rfl (by decide) fun W => ?_
  conv => whnf
  refine ⟨by simp only [inR]; omega, ?_⟩
  conv => whnf
  refine ⟨fun h => ?_, fun h => ?_⟩ <;> simp only [decide_eq_true_eq, decide_eq_false_iff_not] at h <;> conv => whnf
  · refine retW tbl_ok rfl rfl ⟨?_, trivial⟩
    conv => whnf
    rw [szR_neg (by rw [wS_eq]; omega)]
  refine loopW tbl_ok false [] (fun k : Nat => [(1, .c (vi (left - xs.length - (((xs.take k).map GWorker.w).sum : Nat)))), (5, .c (vi k))]) (fun _ => []) (fun _ => [])
    (fun k => k ≤ xs.length ∧ 0 ≤ left - xs.length - (((xs.take k).map GWorker.w).sum : Nat)) (fun k => xs.length - k) 0 ⟨Nat.zero_le _, by simp; omega⟩ ⟨by simp [nth, ren2, ren1, ren0], rfl, trivial⟩ trivial trivial trivial (by kernel_rfl) (fun k hk => ?_)
  obtain ⟨hk, hp⟩ := hk
  conv => whnf
  refine ⟨fun h => ?_, fun h => ?_⟩ <;> simp only [decide_eq_true_eq, decide_eq_false_iff_not] at h <;> conv => whnf
  · have h : k < xs.length := by omega
    have hle := wS_take_le GWorker.w xs k h
    have hst := wS_take GWorker.w xs k h
    refine ⟨by omega, ?_⟩
    conv => whnf
    refine callR (szWorker (xs.getD k default) _ (ho.2 _ (by rw [List.getD, List.getElem?_eq_getElem h]; exact List.getElem_mem h)) hp (by omega)) rfl (go tbl_ok false ?_)
    conv => whnf
    refine ⟨fun h' => ?_, fun h' => ?_⟩ <;> simp only [decide_eq_true_eq, decide_eq_false_iff_not] at h' <;> conv => whnf
    · refine retW tbl_ok rfl rfl ⟨?_, trivial⟩
      conv => whnf
      have h' := szR_lt h' hp
      rw [szR_neg (by rw [wS_eq]; omega)]
    · have h' := szR_ge h'
      refine ⟨by simp only [inR]; omega, ?_⟩
      conv => whnf
      refine loopE [] (k + 1) ⟨by omega, by omega⟩ (by omega) ⟨?_, rfl, trivial⟩ trivial trivial (by kernel_rfl) trivial (by kernel_rfl)
      conv => whnf
      rw [szR_pos h']
      exact congrArg (fun n => AV.c (vi n)) (by omega)
  · refine retW tbl_ok rfl rfl ⟨?_, trivial⟩
    conv => whnf
    have := wS_all GWorker.w xs k (by omega)
    rw [szR_pos (by rw [wS_eq]; omega)]
    exact congrArg vi (by rw [wS_eq]; omega)

theorem szLink (x : GLink) (left : Int) (ho : x.ok) (h0 : 0 ≤ left) (h1 : left ≤ 1048576) : Meets Tryz.prog 129 [.agg x.c, .one (vi left)] [.one (vi (szR x.w left))] := by
  have hw : x.w = x.queue.length := rfl
  obtain ⟨o_cap, o_queue, o_credits, o_back, o_sent, o_got⟩ := ho
  refine enterW tbl_ok false Tryz.func129 rfl (by decide) fun W => ?_
  conv => whnf
  refine callR (szRecordS x.queue (left) o_queue.1 (by omega) (by omega)) rfl (go tbl_ok false ?_)
  conv => whnf
  refine ⟨fun h => ?_, fun h => ?_⟩ <;> simp only [decide_eq_true_eq, decide_eq_false_iff_not] at h <;> conv => whnf
  · refine retW tbl_ok rfl rfl ⟨?_, trivial⟩
    conv => whnf
    have h := szR_lt h (by omega)
    rw [szR_neg (by omega)]
  have h_queue := szR_ge h
  rw [szR_pos h_queue]
  refine retW tbl_ok rfl rfl ⟨?_, trivial⟩
  conv => whnf
  rw [szR_pos (by omega)]
  exact congrArg vi (by omega)

theorem szLinkS (xs : List GLink) (left : Int) (ho : xs.length ≤ maxLen ∧ ∀ y ∈ xs, GLink.ok y) (h0 : 0 ≤ left) (h1 : left ≤ 1048576) : Meets Tryz.prog 72 [.one (sGLink xs), .one (vi left)] [.one (vi (szR (wS GLink.w xs) left))] := by
  have hl : xs.length ≤ 9223372036854775807 := ho.1
  refine enterW tbl_ok false Tryz.func72 rfl (by decide) fun W => ?_
  conv => whnf
  refine ⟨by simp only [inR]; omega, ?_⟩
  conv => whnf
  refine ⟨fun h => ?_, fun h => ?_⟩ <;> simp only [decide_eq_true_eq, decide_eq_false_iff_not] at h <;> conv => whnf
  · refine retW tbl_ok rfl rfl ⟨?_, trivial⟩
    conv => whnf
    rw [szR_neg (by rw [wS_eq]; omega)]
  refine loopW tbl_ok false [] (fun k : Nat => [(1, .c (vi (left - xs.length - (((xs.take k).map GLink.w).sum : Nat)))), (5, .c (vi k))]) (fun _ => []) (fun _ => [])
    (fun k => k ≤ xs.length ∧ 0 ≤ left - xs.length - (((xs.take k).map GLink.w).sum : Nat)) (fun k => xs.length - k) 0 ⟨Nat.zero_le _, by simp; omega⟩ ⟨by simp [nth, ren2, ren1, ren0], rfl, trivial⟩ trivial trivial trivial (by kernel_rfl) (fun k hk => ?_)
  obtain ⟨hk, hp⟩ := hk
  conv => whnf
  refine ⟨fun h => ?_, fun h => ?_⟩ <;> simp only [decide_eq_true_eq, decide_eq_false_iff_not] at h <;> conv => whnf
  · have h : k < xs.length := by omega
    have hle := wS_take_le GLink.w xs k h
    have hst := wS_take GLink.w xs k h
    refine ⟨by omega, ?_⟩
    conv => whnf
    refine callR (szLink (xs.getD k default) _ (ho.2 _ (by rw [List.getD, List.getElem?_eq_getElem h]; exact List.getElem_mem h)) hp (by omega)) rfl (go tbl_ok false ?_)
    conv => whnf
    refine ⟨fun h' => ?_, fun h' => ?_⟩ <;> simp only [decide_eq_true_eq, decide_eq_false_iff_not] at h' <;> conv => whnf
    · refine retW tbl_ok rfl rfl ⟨?_, trivial⟩
      conv => whnf
      have h' := szR_lt h' hp
      rw [szR_neg (by rw [wS_eq]; omega)]
    · have h' := szR_ge h'
      refine ⟨by simp only [inR]; omega, ?_⟩
      conv => whnf
      refine loopE [] (k + 1) ⟨by omega, by omega⟩ (by omega) ⟨?_, rfl, trivial⟩ trivial trivial (by kernel_rfl) trivial (by kernel_rfl)
      conv => whnf
      rw [szR_pos h']
      exact congrArg (fun n => AV.c (vi n)) (by omega)
  · refine retW tbl_ok rfl rfl ⟨?_, trivial⟩
    conv => whnf
    have := wS_all GLink.w xs k (by omega)
    rw [szR_pos (by rw [wS_eq]; omega)]
    exact congrArg vi (by rw [wS_eq]; omega)

theorem szTokenS (xs : List GToken) (left : Int) (ho : xs.length ≤ maxLen) (h0 : 0 ≤ left) (h1 : left ≤ 1048576) : Meets Tryz.prog 73 [.one (sGToken xs), .one (vi left)] [.one (vi (szR (xs.length) left))] := by
  have hl : xs.length ≤ 9223372036854775807 := ho
  refine enterW tbl_ok false Tryz.func73 rfl (by decide) fun W => ?_
  conv => whnf
  refine ⟨by simp only [inR]; omega, ?_⟩
  conv => whnf
  refine ⟨fun h => ?_, fun h => ?_⟩ <;> simp only [decide_eq_true_eq, decide_eq_false_iff_not] at h <;> conv => whnf
  · refine retW tbl_ok rfl rfl ⟨?_, trivial⟩
    conv => whnf
    rw [szR_neg (by omega)]
  · refine retW tbl_ok rfl rfl ⟨?_, trivial⟩
    conv => whnf
    rw [szR_pos (by omega)]

theorem szNewsS (xs : List GNews) (left : Int) (ho : xs.length ≤ maxLen) (h0 : 0 ≤ left) (h1 : left ≤ 1048576) : Meets Tryz.prog 74 [.one (sGNews xs), .one (vi left)] [.one (vi (szR (xs.length) left))] := by
  have hl : xs.length ≤ 9223372036854775807 := ho
  refine enterW tbl_ok false Tryz.func74 rfl (by decide) fun W => ?_
  conv => whnf
  refine ⟨by simp only [inR]; omega, ?_⟩
  conv => whnf
  refine ⟨fun h => ?_, fun h => ?_⟩ <;> simp only [decide_eq_true_eq, decide_eq_false_iff_not] at h <;> conv => whnf
  · refine retW tbl_ok rfl rfl ⟨?_, trivial⟩
    conv => whnf
    rw [szR_neg (by omega)]
  · refine retW tbl_ok rfl rfl ⟨?_, trivial⟩
    conv => whnf
    rw [szR_pos (by omega)]

theorem szCluster (x : GCluster) (left : Int) (ho : x.ok) (h0 : 0 ≤ left) (h1 : left ≤ 1048576) : Meets Tryz.prog 31 [.agg x.c, .one (vi left)] [.one (vi (szR x.w left))] := by
  have hw : x.w = x.graph.w + wS GWorker.w x.workers + wS GLink.w x.links + x.tokens.length + x.news.length := rfl
  obtain ⟨o_graph, o_workers, o_links, o_tokens, o_news⟩ := ho
  refine enterW tbl_ok false Tryz.func31 rfl (by decide) fun W => ?_
  conv => whnf
  refine callR (szGraph x.graph (left) o_graph (by omega) (by omega)) rfl (go tbl_ok false ?_)
  conv => whnf
  refine ⟨fun h => ?_, fun h => ?_⟩ <;> simp only [decide_eq_true_eq, decide_eq_false_iff_not] at h <;> conv => whnf
  · refine retW tbl_ok rfl rfl ⟨?_, trivial⟩
    conv => whnf
    have h := szR_lt h (by omega)
    rw [szR_neg (by omega)]
  have h_graph := szR_ge h
  rw [szR_pos h_graph]
  refine callR (szWorkerS x.workers (left - (x.graph.w : Nat)) o_workers (by omega) (by omega)) rfl (go tbl_ok false ?_)
  conv => whnf
  refine ⟨fun h => ?_, fun h => ?_⟩ <;> simp only [decide_eq_true_eq, decide_eq_false_iff_not] at h <;> conv => whnf
  · refine retW tbl_ok rfl rfl ⟨?_, trivial⟩
    conv => whnf
    have h := szR_lt h (by omega)
    rw [szR_neg (by omega)]
  have h_workers := szR_ge h
  rw [szR_pos h_workers]
  refine callR (szLinkS x.links (left - (x.graph.w : Nat) - (wS GWorker.w x.workers : Nat)) o_links (by omega) (by omega)) rfl (go tbl_ok false ?_)
  conv => whnf
  refine ⟨fun h => ?_, fun h => ?_⟩ <;> simp only [decide_eq_true_eq, decide_eq_false_iff_not] at h <;> conv => whnf
  · refine retW tbl_ok rfl rfl ⟨?_, trivial⟩
    conv => whnf
    have h := szR_lt h (by omega)
    rw [szR_neg (by omega)]
  have h_links := szR_ge h
  rw [szR_pos h_links]
  refine callR (szTokenS x.tokens (left - (x.graph.w : Nat) - (wS GWorker.w x.workers : Nat) - (wS GLink.w x.links : Nat)) o_tokens.1 (by omega) (by omega)) rfl (go tbl_ok false ?_)
  conv => whnf
  refine ⟨fun h => ?_, fun h => ?_⟩ <;> simp only [decide_eq_true_eq, decide_eq_false_iff_not] at h <;> conv => whnf
  · refine retW tbl_ok rfl rfl ⟨?_, trivial⟩
    conv => whnf
    have h := szR_lt h (by omega)
    rw [szR_neg (by omega)]
  have h_tokens := szR_ge h
  rw [szR_pos h_tokens]
  refine callR (szNewsS x.news (left - (x.graph.w : Nat) - (wS GWorker.w x.workers : Nat) - (wS GLink.w x.links : Nat) - (x.tokens.length : Nat)) o_news.1 (by omega) (by omega)) rfl (go tbl_ok false ?_)
  conv => whnf
  refine ⟨fun h => ?_, fun h => ?_⟩ <;> simp only [decide_eq_true_eq, decide_eq_false_iff_not] at h <;> conv => whnf
  · refine retW tbl_ok rfl rfl ⟨?_, trivial⟩
    conv => whnf
    have h := szR_lt h (by omega)
    rw [szR_neg (by omega)]
  have h_news := szR_ge h
  rw [szR_pos h_news]
  refine retW tbl_ok rfl rfl ⟨?_, trivial⟩
  conv => whnf
  rw [szR_pos (by omega)]
  exact congrArg vi (by omega)

theorem toCell (x : GCell) : Meets Tryz.prog 222 [.agg x.c] [.agg x.c] := by
  refine enterW tbl_ok false Tryz.func222 rfl (by decide) fun W => ?_
  conv => whnf
  exact retW tbl_ok rfl rfl ⟨⟨rfl, rfl, rfl, rfl, trivial⟩, trivial⟩

theorem toCellS (xs : List GCell) (hx : xs.length ≤ 1048576) : Meets Tryz.prog 177 [.one (sGCell xs)] [.one (sGCell xs)] := by
  have hl := hx
  refine enterW tbl_ok false Tryz.func177 rfl (by decide) fun W => ?_
  conv => whnf
  refine ⟨by omega, ?_⟩
  conv => whnf
  refine castW 0 (sGCell (List.replicate xs.length default)) rfl (cast_make (α := GCell) (e := GCell.c) xs.length ⟨.inl rfl, .inl rfl, .inl rfl, .inl rfl, trivial⟩) ?_
  refine loopW tbl_ok false [] (fun k : Nat => [(4, .c (vi k))]) (fun _ => []) (fun k => [⟨0, sGCell (xs.take k ++ List.replicate (xs.length - k) default)⟩])
    (fun k => k ≤ xs.length) (fun k => xs.length - k) 0 (Nat.zero_le _) ⟨rfl, trivial⟩ trivial ⟨?_, trivial⟩ trivial (by kernel_rfl) (fun k hk => ?_)
  · conv => whnf
    exact rep_start (e := GCell.c) xs
  conv => whnf
  refine ⟨fun h => ?_, fun h => ?_⟩ <;> simp at h <;> conv => whnf
  · refine ⟨by omega, ?_⟩
    conv => whnf
    refine callW (toCell (xs.getD k default)) rfl (go tbl_ok false ?_)
    conv => whnf
    refine ⟨by simp; omega, ?_⟩
    conv => whnf
    refine storeW tbl_ok rfl rfl rfl rfl rfl rfl rfl rfl _ (slC_set (xs := xs.take k ++ List.replicate (xs.length - k) default) (x := xs.getD k default) (e := GCell.c) (by simp; omega) ?_) (go tbl_ok false ?_)
    · rfl
    conv => whnf
    refine ⟨by simp only [inR]; omega, ?_⟩
    conv => whnf
    refine loopE [] (k + 1) (by omega) (by omega) ⟨rfl, trivial⟩ ⟨?_, trivial⟩ trivial (by kernel_rfl) trivial (by kernel_rfl)
    conv => whnf
    exact congrArg (slC 4 GCell.c) (take_rep_set xs k default h)
  · exact retW tbl_ok rfl rfl ⟨by conv => whnf
                                  rw [take_rep_end _ _ _ (by omega)], trivial⟩

theorem toBoolS (xs : List Bool) (hx : xs.length ≤ 1048576) : Meets Tryz.prog 178 [.one (sBool xs)] [.one (sBool xs)] := by
  have hl := hx
  refine enterW tbl_ok false Tryz.func178 rfl (by decide) fun W => ?_
  conv => whnf
  refine ⟨by omega, ?_⟩
  conv => whnf
  refine castW 0 (sBool (List.replicate xs.length default)) rfl (cast_make (α := Bool) (e := (fun b => [vb b])) xs.length ⟨.inl rfl, trivial⟩) ?_
  refine loopW tbl_ok false [] (fun k : Nat => [(4, .c (vi k))]) (fun _ => []) (fun k => [⟨0, sBool (xs.take k ++ List.replicate (xs.length - k) default)⟩])
    (fun k => k ≤ xs.length) (fun k => xs.length - k) 0 (Nat.zero_le _) ⟨rfl, trivial⟩ trivial ⟨?_, trivial⟩ trivial (by kernel_rfl) (fun k hk => ?_)
  · conv => whnf
    exact rep_start (e := (fun b => [vb b])) xs
  conv => whnf
  refine ⟨fun h => ?_, fun h => ?_⟩ <;> simp at h <;> conv => whnf
  · refine ⟨by omega, ?_⟩
    conv => whnf
    refine ⟨by simp; omega, ?_⟩
    conv => whnf
    refine storeW tbl_ok rfl rfl rfl rfl rfl rfl rfl rfl _ (slC_set (xs := xs.take k ++ List.replicate (xs.length - k) default) (x := xs.getD k default) (e := (fun b => [vb b])) (by simp; omega) ?_) (go tbl_ok false ?_)
    · rfl
    conv => whnf
    refine ⟨by simp only [inR]; omega, ?_⟩
    conv => whnf
    refine loopE [] (k + 1) (by omega) (by omega) ⟨rfl, trivial⟩ ⟨?_, trivial⟩ trivial (by kernel_rfl) trivial (by kernel_rfl)
    conv => whnf
    exact congrArg (slC 1 (fun b => [vb b])) (take_rep_set xs k default h)
  · exact retW tbl_ok rfl rfl ⟨by conv => whnf
                                  rw [take_rep_end _ _ _ (by omega)], trivial⟩

theorem toDone (x : GDone) : Meets Tryz.prog 223 [.agg x.c] [.agg x.c] := by
  refine enterW tbl_ok false Tryz.func223 rfl (by decide) fun W => ?_
  conv => whnf
  exact retW tbl_ok rfl rfl ⟨⟨rfl, rfl, trivial⟩, trivial⟩

theorem toDoneS (xs : List GDone) (hx : xs.length ≤ 1048576) : Meets Tryz.prog 179 [.one (sGDone xs)] [.one (sGDone xs)] := by
  have hl := hx
  refine enterW tbl_ok false Tryz.func179 rfl (by decide) fun W => ?_
  conv => whnf
  refine ⟨by omega, ?_⟩
  conv => whnf
  refine castW 0 (sGDone (List.replicate xs.length default)) rfl (cast_make (α := GDone) (e := GDone.c) xs.length ⟨.inl rfl, .inl rfl, trivial⟩) ?_
  refine loopW tbl_ok false [] (fun k : Nat => [(4, .c (vi k))]) (fun _ => []) (fun k => [⟨0, sGDone (xs.take k ++ List.replicate (xs.length - k) default)⟩])
    (fun k => k ≤ xs.length) (fun k => xs.length - k) 0 (Nat.zero_le _) ⟨rfl, trivial⟩ trivial ⟨?_, trivial⟩ trivial (by kernel_rfl) (fun k hk => ?_)
  · conv => whnf
    exact rep_start (e := GDone.c) xs
  conv => whnf
  refine ⟨fun h => ?_, fun h => ?_⟩ <;> simp at h <;> conv => whnf
  · refine ⟨by omega, ?_⟩
    conv => whnf
    refine callW (toDone (xs.getD k default)) rfl (go tbl_ok false ?_)
    conv => whnf
    refine ⟨by simp; omega, ?_⟩
    conv => whnf
    refine storeW tbl_ok rfl rfl rfl rfl rfl rfl rfl rfl _ (slC_set (xs := xs.take k ++ List.replicate (xs.length - k) default) (x := xs.getD k default) (e := GDone.c) (by simp; omega) ?_) (go tbl_ok false ?_)
    · rfl
    conv => whnf
    refine ⟨by simp only [inR]; omega, ?_⟩
    conv => whnf
    refine loopE [] (k + 1) (by omega) (by omega) ⟨rfl, trivial⟩ ⟨?_, trivial⟩ trivial (by kernel_rfl) trivial (by kernel_rfl)
    conv => whnf
    exact congrArg (slC 2 GDone.c) (take_rep_set xs k default h)
  · exact retW tbl_ok rfl rfl ⟨by conv => whnf
                                  rw [take_rep_end _ _ _ (by omega)], trivial⟩

theorem toWorker (x : GWorker) (h : x.w ≤ 1048576) : Meets Tryz.prog 132 [.agg x.c] [.agg x.c] := by
  refine enterW tbl_ok false Tryz.func132 rfl (by decide) fun W => ?_
  conv => whnf
  refine callW (toRecordS x.queue (by simp only [GWorker.w] at h; omega)) rfl (go tbl_ok false ?_)
  conv => whnf
  refine callW (toRecordS x.staged (by simp only [GWorker.w] at h; omega)) rfl (go tbl_ok false ?_)
  conv => whnf
  refine callW (toRecordS x.inputs (by simp only [GWorker.w] at h; omega)) rfl (go tbl_ok false ?_)
  conv => whnf
  refine callW (toCellS x.cells (by simp only [GWorker.w] at h; omega)) rfl (go tbl_ok false ?_)
  conv => whnf
  refine callW (toIntS x.sums (by simp only [GWorker.w] at h; omega)) rfl (go tbl_ok false ?_)
  conv => whnf
  refine callW (toBoolS x.black (by simp only [GWorker.w] at h; omega)) rfl (go tbl_ok false ?_)
  conv => whnf
  refine callW (toBoolS x.caps (by simp only [GWorker.w] at h; omega)) rfl (go tbl_ok false ?_)
  conv => whnf
  refine callW (toDoneS x.dones (by simp only [GWorker.w] at h; omega)) rfl (go tbl_ok false ?_)
  conv => whnf
  exact retW tbl_ok rfl rfl ⟨⟨rfl, rfl, rfl, rfl, rfl, rfl, rfl, rfl, trivial⟩, trivial⟩

theorem toWorkerS (xs : List GWorker) (hx : wS GWorker.w xs ≤ 1048576) : Meets Tryz.prog 78 [.one (sGWorker xs)] [.one (sGWorker xs)] := by
  have hl : xs.length ≤ 1048576 := by simp only [wS] at hx; omega
  refine enterW tbl_ok false Tryz.func78 rfl (by decide) fun W => ?_
  conv => whnf
  refine ⟨by omega, ?_⟩
  conv => whnf
  refine castW 0 (sGWorker (List.replicate xs.length default)) rfl (cast_make (α := GWorker) (e := GWorker.c) xs.length ⟨.nil _ _, .nil _ _, .nil _ _, .nil _ _, .nil _ _, .nil _ _, .nil _ _, .nil _ _, trivial⟩) ?_
  refine loopW tbl_ok false [] (fun k : Nat => [(4, .c (vi k))]) (fun _ => []) (fun k => [⟨0, sGWorker (xs.take k ++ List.replicate (xs.length - k) default)⟩])
    (fun k => k ≤ xs.length) (fun k => xs.length - k) 0 (Nat.zero_le _) ⟨rfl, trivial⟩ trivial ⟨?_, trivial⟩ trivial (by kernel_rfl) (fun k hk => ?_)
  · conv => whnf
    exact rep_start (e := GWorker.c) xs
  conv => whnf
  refine ⟨fun h => ?_, fun h => ?_⟩ <;> simp at h <;> conv => whnf
  · refine ⟨by omega, ?_⟩
    conv => whnf
    refine callW (toWorker (xs.getD k default) (by have := wS_take_le GWorker.w xs k h; simp only [wS] at hx; omega)) rfl (go tbl_ok false ?_)
    conv => whnf
    refine ⟨by simp; omega, ?_⟩
    conv => whnf
    refine storeW tbl_ok rfl rfl rfl rfl rfl rfl rfl rfl _ (slC_set (xs := xs.take k ++ List.replicate (xs.length - k) default) (x := xs.getD k default) (e := GWorker.c) (by simp; omega) ?_) (go tbl_ok false ?_)
    · rfl
    conv => whnf
    refine ⟨by simp only [inR]; omega, ?_⟩
    conv => whnf
    refine loopE [] (k + 1) (by omega) (by omega) ⟨rfl, trivial⟩ ⟨?_, trivial⟩ trivial (by kernel_rfl) trivial (by kernel_rfl)
    conv => whnf
    exact congrArg (slC 8 GWorker.c) (take_rep_set xs k default h)
  · exact retW tbl_ok rfl rfl ⟨by conv => whnf
                                  rw [take_rep_end _ _ _ (by omega)], trivial⟩

theorem toLink (x : GLink) (h : x.w ≤ 1048576) : Meets Tryz.prog 133 [.agg x.c] [.agg x.c] := by
  refine enterW tbl_ok false Tryz.func133 rfl (by decide) fun W => ?_
  conv => whnf
  refine callW (toRecordS x.queue (by simp only [GLink.w] at h; omega)) rfl (go tbl_ok false ?_)
  conv => whnf
  exact retW tbl_ok rfl rfl ⟨⟨rfl, rfl, rfl, rfl, rfl, rfl, trivial⟩, trivial⟩

theorem toLinkS (xs : List GLink) (hx : wS GLink.w xs ≤ 1048576) : Meets Tryz.prog 79 [.one (sGLink xs)] [.one (sGLink xs)] := by
  have hl : xs.length ≤ 1048576 := by simp only [wS] at hx; omega
  refine enterW tbl_ok false Tryz.func79 rfl (by decide) fun W => ?_
  conv => whnf
  refine ⟨by omega, ?_⟩
  conv => whnf
  refine castW 0 (sGLink (List.replicate xs.length default)) rfl (cast_make (α := GLink) (e := GLink.c) xs.length ⟨.inl rfl, .nil _ _, .inl rfl, .inl rfl, .inl rfl, .inl rfl, trivial⟩) ?_
  refine loopW tbl_ok false [] (fun k : Nat => [(4, .c (vi k))]) (fun _ => []) (fun k => [⟨0, sGLink (xs.take k ++ List.replicate (xs.length - k) default)⟩])
    (fun k => k ≤ xs.length) (fun k => xs.length - k) 0 (Nat.zero_le _) ⟨rfl, trivial⟩ trivial ⟨?_, trivial⟩ trivial (by kernel_rfl) (fun k hk => ?_)
  · conv => whnf
    exact rep_start (e := GLink.c) xs
  conv => whnf
  refine ⟨fun h => ?_, fun h => ?_⟩ <;> simp at h <;> conv => whnf
  · refine ⟨by omega, ?_⟩
    conv => whnf
    refine callW (toLink (xs.getD k default) (by have := wS_take_le GLink.w xs k h; simp only [wS] at hx; omega)) rfl (go tbl_ok false ?_)
    conv => whnf
    refine ⟨by simp; omega, ?_⟩
    conv => whnf
    refine storeW tbl_ok rfl rfl rfl rfl rfl rfl rfl rfl _ (slC_set (xs := xs.take k ++ List.replicate (xs.length - k) default) (x := xs.getD k default) (e := GLink.c) (by simp; omega) ?_) (go tbl_ok false ?_)
    · rfl
    conv => whnf
    refine ⟨by simp only [inR]; omega, ?_⟩
    conv => whnf
    refine loopE [] (k + 1) (by omega) (by omega) ⟨rfl, trivial⟩ ⟨?_, trivial⟩ trivial (by kernel_rfl) trivial (by kernel_rfl)
    conv => whnf
    exact congrArg (slC 6 GLink.c) (take_rep_set xs k default h)
  · exact retW tbl_ok rfl rfl ⟨by conv => whnf
                                  rw [take_rep_end _ _ _ (by omega)], trivial⟩

theorem toToken (x : GToken) : Meets Tryz.prog 134 [.agg x.c] [.agg x.c] := by
  refine enterW tbl_ok false Tryz.func134 rfl (by decide) fun W => ?_
  conv => whnf
  exact retW tbl_ok rfl rfl ⟨⟨rfl, rfl, rfl, rfl, rfl, trivial⟩, trivial⟩

theorem toTokenS (xs : List GToken) (hx : xs.length ≤ 1048576) : Meets Tryz.prog 80 [.one (sGToken xs)] [.one (sGToken xs)] := by
  have hl := hx
  refine enterW tbl_ok false Tryz.func80 rfl (by decide) fun W => ?_
  conv => whnf
  refine ⟨by omega, ?_⟩
  conv => whnf
  refine castW 0 (sGToken (List.replicate xs.length default)) rfl (cast_make (α := GToken) (e := GToken.c) xs.length ⟨.inl rfl, .inl rfl, .inl rfl, .inl rfl, .inl rfl, trivial⟩) ?_
  refine loopW tbl_ok false [] (fun k : Nat => [(4, .c (vi k))]) (fun _ => []) (fun k => [⟨0, sGToken (xs.take k ++ List.replicate (xs.length - k) default)⟩])
    (fun k => k ≤ xs.length) (fun k => xs.length - k) 0 (Nat.zero_le _) ⟨rfl, trivial⟩ trivial ⟨?_, trivial⟩ trivial (by kernel_rfl) (fun k hk => ?_)
  · conv => whnf
    exact rep_start (e := GToken.c) xs
  conv => whnf
  refine ⟨fun h => ?_, fun h => ?_⟩ <;> simp at h <;> conv => whnf
  · refine ⟨by omega, ?_⟩
    conv => whnf
    refine callW (toToken (xs.getD k default)) rfl (go tbl_ok false ?_)
    conv => whnf
    refine ⟨by simp; omega, ?_⟩
    conv => whnf
    refine storeW tbl_ok rfl rfl rfl rfl rfl rfl rfl rfl _ (slC_set (xs := xs.take k ++ List.replicate (xs.length - k) default) (x := xs.getD k default) (e := GToken.c) (by simp; omega) ?_) (go tbl_ok false ?_)
    · rfl
    conv => whnf
    refine ⟨by simp only [inR]; omega, ?_⟩
    conv => whnf
    refine loopE [] (k + 1) (by omega) (by omega) ⟨rfl, trivial⟩ ⟨?_, trivial⟩ trivial (by kernel_rfl) trivial (by kernel_rfl)
    conv => whnf
    exact congrArg (slC 5 GToken.c) (take_rep_set xs k default h)
  · exact retW tbl_ok rfl rfl ⟨by conv => whnf
                                  rw [take_rep_end _ _ _ (by omega)], trivial⟩

theorem toNews (x : GNews) : Meets Tryz.prog 135 [.agg x.c] [.agg x.c] := by
  refine enterW tbl_ok false Tryz.func135 rfl (by decide) fun W => ?_
  conv => whnf
  exact retW tbl_ok rfl rfl ⟨⟨rfl, rfl, rfl, trivial⟩, trivial⟩

theorem toNewsS (xs : List GNews) (hx : xs.length ≤ 1048576) : Meets Tryz.prog 81 [.one (sGNews xs)] [.one (sGNews xs)] := by
  have hl := hx
  refine enterW tbl_ok false Tryz.func81 rfl (by decide) fun W => ?_
  conv => whnf
  refine ⟨by omega, ?_⟩
  conv => whnf
  refine castW 0 (sGNews (List.replicate xs.length default)) rfl (cast_make (α := GNews) (e := GNews.c) xs.length ⟨.inl rfl, .inl rfl, .inl rfl, trivial⟩) ?_
  refine loopW tbl_ok false [] (fun k : Nat => [(4, .c (vi k))]) (fun _ => []) (fun k => [⟨0, sGNews (xs.take k ++ List.replicate (xs.length - k) default)⟩])
    (fun k => k ≤ xs.length) (fun k => xs.length - k) 0 (Nat.zero_le _) ⟨rfl, trivial⟩ trivial ⟨?_, trivial⟩ trivial (by kernel_rfl) (fun k hk => ?_)
  · conv => whnf
    exact rep_start (e := GNews.c) xs
  conv => whnf
  refine ⟨fun h => ?_, fun h => ?_⟩ <;> simp at h <;> conv => whnf
  · refine ⟨by omega, ?_⟩
    conv => whnf
    refine callW (toNews (xs.getD k default)) rfl (go tbl_ok false ?_)
    conv => whnf
    refine ⟨by simp; omega, ?_⟩
    conv => whnf
    refine storeW tbl_ok rfl rfl rfl rfl rfl rfl rfl rfl _ (slC_set (xs := xs.take k ++ List.replicate (xs.length - k) default) (x := xs.getD k default) (e := GNews.c) (by simp; omega) ?_) (go tbl_ok false ?_)
    · rfl
    conv => whnf
    refine ⟨by simp only [inR]; omega, ?_⟩
    conv => whnf
    refine loopE [] (k + 1) (by omega) (by omega) ⟨rfl, trivial⟩ ⟨?_, trivial⟩ trivial (by kernel_rfl) trivial (by kernel_rfl)
    conv => whnf
    exact congrArg (slC 3 GNews.c) (take_rep_set xs k default h)
  · exact retW tbl_ok rfl rfl ⟨by conv => whnf
                                  rw [take_rep_end _ _ _ (by omega)], trivial⟩

theorem toCluster (x : GCluster) (h : x.w ≤ 1048576) : Meets Tryz.prog 33 [.agg x.c] [.agg x.c] := by
  refine enterW tbl_ok false Tryz.func33 rfl (by decide) fun W => ?_
  conv => whnf
  refine callW (toGraph x.graph (by simp only [GCluster.w] at h; omega)) rfl (go tbl_ok false ?_)
  conv => whnf
  refine callW (toWorkerS x.workers (by simp only [GCluster.w] at h; omega)) rfl (go tbl_ok false ?_)
  conv => whnf
  refine callW (toLinkS x.links (by simp only [GCluster.w] at h; omega)) rfl (go tbl_ok false ?_)
  conv => whnf
  refine callW (toTokenS x.tokens (by simp only [GCluster.w] at h; omega)) rfl (go tbl_ok false ?_)
  conv => whnf
  refine callW (toNewsS x.news (by simp only [GCluster.w] at h; omega)) rfl (go tbl_ok false ?_)
  conv => whnf
  exact retW tbl_ok rfl rfl ⟨⟨rfl, rfl, rfl, rfl, rfl, rfl, rfl, trivial⟩, trivial⟩

end Go.Proofs.YtlbmkgkmbjadcaaGreat
