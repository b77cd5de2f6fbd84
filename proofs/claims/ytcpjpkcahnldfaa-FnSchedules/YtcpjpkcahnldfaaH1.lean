/- Texts for the law FnSchedules: H1. No conditions. -/
import Derived.Test.YtcpjpkcahnldfaaEng3
import Derived.Test.YtcpjpkcahnldfaaProg
import Derived.KernelRfl

set_option maxRecDepth 100000
namespace Go.Proofs.Ytcpjpkcahnldfaa
open Go.Sx
/-- What the program says of its types, as the executor reads it. -/
def tbl : List (TypeId × TI) := [
  (2, { agg := false, size := 1, bytes := 8, zero := [Value.int IntKind.i64 (0)], fields := [], elem := none, str := false, flat := some [CK.int IntKind.i64] }),
  (3, { agg := false, size := 1, bytes := 8, zero := [Value.int IntKind.i64 (0)], fields := [], elem := none, str := false, flat := some [CK.int IntKind.i64] }),
  (4, { agg := false, size := 1, bytes := 1, zero := [Value.bool false], fields := [], elem := none, str := false, flat := some [CK.bool] }),
  (5, { agg := false, size := 1, bytes := 1, zero := [Value.int IntKind.u8 (0)], fields := [], elem := none, str := false, flat := some [CK.int IntKind.u8] }),
  (9, { agg := false, size := 1, bytes := 16, zero := [Value.string ByteArray.empty], fields := [], elem := none, str := true, flat := none }),
  (12, { agg := false, size := 1, bytes := 8, zero := [Value.int IntKind.u64 (0)], fields := [], elem := none, str := false, flat := some [CK.int IntKind.u64] }),
  (21, { agg := false, size := 1, bytes := 4, zero := [Value.int IntKind.i32 (0)], fields := [], elem := none, str := false, flat := some [CK.int IntKind.i32] }),
  (22, { agg := false, size := 1, bytes := 24, zero := [Value.slice none 0 0], fields := [], elem := some 5, str := false, flat := none }),
  (24, { agg := false, size := 1, bytes := 24, zero := [Value.slice none 0 0], fields := [], elem := some 52, str := false, flat := none }),
  (25, { agg := true, size := 3, bytes := 40, zero := [Value.slice none 0 0, Value.int IntKind.i64 (0), Value.int IntKind.i64 (0)], fields := [(0, 24), (1, 3), (2, 3)], elem := none, str := false, flat := none }),
  (26, { agg := true, size := 3, bytes := 40, zero := [Value.slice none 0 0, Value.int IntKind.i64 (0), Value.int IntKind.i64 (0)], fields := [(0, 24), (1, 3), (2, 3)], elem := none, str := false, flat := none }),
  (27, { agg := false, size := 1, bytes := 24, zero := [Value.slice none 0 0], fields := [], elem := some 79, str := false, flat := none }),
  (28, { agg := false, size := 1, bytes := 24, zero := [Value.slice none 0 0], fields := [], elem := some 83, str := false, flat := none }),
  (29, { agg := false, size := 1, bytes := 24, zero := [Value.slice none 0 0], fields := [], elem := some 112, str := false, flat := none }),
  (30, { agg := false, size := 1, bytes := 24, zero := [Value.slice none 0 0], fields := [], elem := some 114, str := false, flat := none }),
  (31, { agg := true, size := 7, bytes := 136, zero := [Value.slice none 0 0, Value.int IntKind.i64 (0), Value.int IntKind.i64 (0), Value.slice none 0 0, Value.slice none 0 0, Value.slice none 0 0, Value.slice none 0 0], fields := [(0, 26), (3, 27), (4, 28), (5, 29), (6, 30)], elem := none, str := false, flat := none }),
  (32, { agg := true, size := 7, bytes := 136, zero := [Value.slice none 0 0, Value.int IntKind.i64 (0), Value.int IntKind.i64 (0), Value.slice none 0 0, Value.slice none 0 0, Value.slice none 0 0, Value.slice none 0 0], fields := [(0, 26), (3, 27), (4, 28), (5, 29), (6, 30)], elem := none, str := false, flat := none }),
  (35, { agg := false, size := 1, bytes := 24, zero := [Value.slice none 0 0], fields := [], elem := some 60, str := false, flat := none }),
  (40, { agg := false, size := 1, bytes := 24, zero := [Value.slice none 0 0], fields := [], elem := some 3, str := false, flat := none }),
  (51, { agg := true, size := 4, bytes := 48, zero := [Value.int IntKind.i64 (0), Value.int IntKind.i64 (0), Value.int IntKind.i64 (0), Value.slice none 0 0], fields := [(0, 3), (1, 3), (2, 3), (3, 40)], elem := none, str := false, flat := none }),
  (52, { agg := true, size := 4, bytes := 48, zero := [Value.int IntKind.i64 (0), Value.int IntKind.i64 (0), Value.int IntKind.i64 (0), Value.slice none 0 0], fields := [(0, 3), (1, 3), (2, 3), (3, 40)], elem := none, str := false, flat := none }),
  (55, { agg := false, size := 1, bytes := 8, zero := [Value.pointer none], fields := [], elem := none, str := false, flat := none }),
  (59, { agg := true, size := 3, bytes := 24, zero := [Value.int IntKind.i64 (0), Value.int IntKind.i64 (0), Value.int IntKind.i64 (0)], fields := [(0, 3), (1, 3), (2, 3)], elem := none, str := false, flat := some [CK.int IntKind.i64, CK.int IntKind.i64, CK.int IntKind.i64] }),
  (60, { agg := true, size := 3, bytes := 24, zero := [Value.int IntKind.i64 (0), Value.int IntKind.i64 (0), Value.int IntKind.i64 (0)], fields := [(0, 3), (1, 3), (2, 3)], elem := none, str := false, flat := some [CK.int IntKind.i64, CK.int IntKind.i64, CK.int IntKind.i64] }),
  (67, { agg := false, size := 1, bytes := 24, zero := [Value.slice none 0 0], fields := [], elem := some 73, str := false, flat := none }),
  (70, { agg := true, size := 2, bytes := 16, zero := [Value.int IntKind.i64 (0), Value.int IntKind.i64 (0)], fields := [(0, 3), (1, 3)], elem := none, str := false, flat := some [CK.int IntKind.i64, CK.int IntKind.i64] }),
  (71, { agg := true, size := 2, bytes := 16, zero := [Value.int IntKind.i64 (0), Value.int IntKind.i64 (0)], fields := [(0, 3), (1, 3)], elem := none, str := false, flat := some [CK.int IntKind.i64, CK.int IntKind.i64] }),
  (72, { agg := true, size := 5, bytes := 40, zero := [Value.int IntKind.i64 (0), Value.int IntKind.i64 (0), Value.int IntKind.i64 (0), Value.int IntKind.i64 (0), Value.int IntKind.i64 (0)], fields := [(0, 3), (1, 71), (3, 3), (4, 3)], elem := none, str := false, flat := some [CK.int IntKind.i64, CK.int IntKind.i64, CK.int IntKind.i64, CK.int IntKind.i64, CK.int IntKind.i64] }),
  (73, { agg := true, size := 5, bytes := 40, zero := [Value.int IntKind.i64 (0), Value.int IntKind.i64 (0), Value.int IntKind.i64 (0), Value.int IntKind.i64 (0), Value.int IntKind.i64 (0)], fields := [(0, 3), (1, 71), (3, 3), (4, 3)], elem := none, str := false, flat := some [CK.int IntKind.i64, CK.int IntKind.i64, CK.int IntKind.i64, CK.int IntKind.i64, CK.int IntKind.i64] }),
  (75, { agg := false, size := 1, bytes := 24, zero := [Value.slice none 0 0], fields := [], elem := some 116, str := false, flat := none }),
  (76, { agg := false, size := 1, bytes := 24, zero := [Value.slice none 0 0], fields := [], elem := some 4, str := false, flat := none }),
  (77, { agg := false, size := 1, bytes := 24, zero := [Value.slice none 0 0], fields := [], elem := some 118, str := false, flat := none }),
  (78, { agg := true, size := 8, bytes := 192, zero := [Value.slice none 0 0, Value.slice none 0 0, Value.slice none 0 0, Value.slice none 0 0, Value.slice none 0 0, Value.slice none 0 0, Value.slice none 0 0, Value.slice none 0 0], fields := [(0, 67), (1, 67), (2, 67), (3, 75), (4, 40), (5, 76), (6, 76), (7, 77)], elem := none, str := false, flat := none }),
  (79, { agg := true, size := 8, bytes := 192, zero := [Value.slice none 0 0, Value.slice none 0 0, Value.slice none 0 0, Value.slice none 0 0, Value.slice none 0 0, Value.slice none 0 0, Value.slice none 0 0, Value.slice none 0 0], fields := [(0, 67), (1, 67), (2, 67), (3, 75), (4, 40), (5, 76), (6, 76), (7, 77)], elem := none, str := false, flat := none }),
  (82, { agg := true, size := 6, bytes := 64, zero := [Value.int IntKind.i64 (0), Value.slice none 0 0, Value.int IntKind.i64 (0), Value.int IntKind.i64 (0), Value.int IntKind.i64 (0), Value.int IntKind.i64 (0)], fields := [(0, 3), (1, 67), (2, 3), (3, 3), (4, 3), (5, 3)], elem := none, str := false, flat := none }),
  (83, { agg := true, size := 6, bytes := 64, zero := [Value.int IntKind.i64 (0), Value.slice none 0 0, Value.int IntKind.i64 (0), Value.int IntKind.i64 (0), Value.int IntKind.i64 (0), Value.int IntKind.i64 (0)], fields := [(0, 3), (1, 67), (2, 3), (3, 3), (4, 3), (5, 3)], elem := none, str := false, flat := none }),
  (85, { agg := true, size := 3, bytes := 40, zero := [Value.slice none 0 0, Value.int IntKind.i64 (0), Value.int IntKind.i64 (0)], fields := [(0, 22), (1, 3), (2, 3)], elem := none, str := false, flat := none }),
  (86, { agg := true, size := 3, bytes := 40, zero := [Value.slice none 0 0, Value.int IntKind.i64 (0), Value.int IntKind.i64 (0)], fields := [(0, 22), (1, 3), (2, 3)], elem := none, str := false, flat := none }),
  (94, { agg := false, size := 1, bytes := 8, zero := [Value.int IntKind.u64 (0)], fields := [], elem := none, str := false, flat := some [CK.int IntKind.u64] }),
  (102, { agg := false, size := 1, bytes := 4, zero := [Value.int IntKind.u32 (0)], fields := [], elem := none, str := false, flat := some [CK.int IntKind.u32] }),
  (106, { agg := false, size := 1, bytes := 8, zero := [Value.pointer none], fields := [], elem := none, str := false, flat := none }),
  (111, { agg := true, size := 5, bytes := 32, zero := [Value.bool false, Value.int IntKind.i64 (0), Value.int IntKind.i64 (0), Value.bool false, Value.bool false], fields := [(0, 4), (1, 3), (2, 3), (3, 4), (4, 4)], elem := none, str := false, flat := some [CK.bool, CK.int IntKind.i64, CK.int IntKind.i64, CK.bool, CK.bool] }),
  (112, { agg := true, size := 5, bytes := 32, zero := [Value.bool false, Value.int IntKind.i64 (0), Value.int IntKind.i64 (0), Value.bool false, Value.bool false], fields := [(0, 4), (1, 3), (2, 3), (3, 4), (4, 4)], elem := none, str := false, flat := some [CK.bool, CK.int IntKind.i64, CK.int IntKind.i64, CK.bool, CK.bool] }),
  (113, { agg := true, size := 3, bytes := 24, zero := [Value.int IntKind.i64 (0), Value.int IntKind.i64 (0), Value.bool false], fields := [(0, 3), (1, 3), (2, 4)], elem := none, str := false, flat := some [CK.int IntKind.i64, CK.int IntKind.i64, CK.bool] }),
  (114, { agg := true, size := 3, bytes := 24, zero := [Value.int IntKind.i64 (0), Value.int IntKind.i64 (0), Value.bool false], fields := [(0, 3), (1, 3), (2, 4)], elem := none, str := false, flat := some [CK.int IntKind.i64, CK.int IntKind.i64, CK.bool] }),
  (115, { agg := true, size := 4, bytes := 32, zero := [Value.int IntKind.i64 (0), Value.int IntKind.i64 (0), Value.int IntKind.i64 (0), Value.int IntKind.i64 (0)], fields := [(0, 3), (1, 3), (2, 3), (3, 3)], elem := none, str := false, flat := some [CK.int IntKind.i64, CK.int IntKind.i64, CK.int IntKind.i64, CK.int IntKind.i64] }),
  (116, { agg := true, size := 4, bytes := 32, zero := [Value.int IntKind.i64 (0), Value.int IntKind.i64 (0), Value.int IntKind.i64 (0), Value.int IntKind.i64 (0)], fields := [(0, 3), (1, 3), (2, 3), (3, 3)], elem := none, str := false, flat := some [CK.int IntKind.i64, CK.int IntKind.i64, CK.int IntKind.i64, CK.int IntKind.i64] }),
  (117, { agg := true, size := 2, bytes := 16, zero := [Value.int IntKind.i64 (0), Value.bool false], fields := [(0, 3), (1, 4)], elem := none, str := false, flat := some [CK.int IntKind.i64, CK.bool] }),
  (118, { agg := true, size := 2, bytes := 16, zero := [Value.int IntKind.i64 (0), Value.bool false], fields := [(0, 3), (1, 4)], elem := none, str := false, flat := some [CK.int IntKind.i64, CK.bool] })]

theorem tbl_ok : TblOk Try.prog tbl :=
  (.cons (by kernel_rfl) (.cons (by kernel_rfl) (.cons (by kernel_rfl) (.cons (by kernel_rfl) (.cons (by kernel_rfl) (.cons (by kernel_rfl) (.cons (by kernel_rfl) (.cons (by kernel_rfl) (.cons (by kernel_rfl) (.cons (by kernel_rfl) (.cons (by kernel_rfl) (.cons (by kernel_rfl) (.cons (by kernel_rfl) (.cons (by kernel_rfl) (.cons (by kernel_rfl) (.cons (by kernel_rfl) (.cons (by kernel_rfl) (.cons (by kernel_rfl) (.cons (by kernel_rfl) (.cons (by kernel_rfl) (.cons (by kernel_rfl) (.cons (by kernel_rfl) (.cons (by kernel_rfl) (.cons (by kernel_rfl) (.cons (by kernel_rfl) (.cons (by kernel_rfl) (.cons (by kernel_rfl) (.cons (by kernel_rfl) (.cons (by kernel_rfl) (.cons (by kernel_rfl) (.cons (by kernel_rfl) (.cons (by kernel_rfl) (.cons (by kernel_rfl) (.cons (by kernel_rfl) (.cons (by kernel_rfl) (.cons (by kernel_rfl) (.cons (by kernel_rfl) (.cons (by kernel_rfl) (.cons (by kernel_rfl) (.cons (by kernel_rfl) (.cons (by kernel_rfl) (.cons (by kernel_rfl) (.cons (by kernel_rfl) (.cons (by kernel_rfl) (.cons (by kernel_rfl) (.cons (by kernel_rfl) (.cons (by kernel_rfl) (.cons (by kernel_rfl) (.cons (by kernel_rfl) .nil)))))))))))))))))))))))))))))))))))))))))))))))))

end Go.Proofs.Ytcpjpkcahnldfaa
