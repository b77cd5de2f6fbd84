/- Texts for the law FnExactScriptLines: H1. No conditions. -/
import Derived.Test.YthnemokfcnejkaaDoorEng3
import Derived.Test.YthnemokfcnejkaaDoorProg
import Derived.KernelRfl

set_option maxRecDepth 100000
namespace Go.Proofs.YthnemokfcnejkaaDoor
open Go.Sx
/-- What the program says of its types, as the executor reads it. -/
def tbl : List (TypeId × TI) := [
  (2, { agg := false, size := 1, bytes := 8, zero := [Value.int IntKind.i64 (0)], fields := [], elem := none, str := false, flat := some [CK.int IntKind.i64] }),
  (3, { agg := false, size := 1, bytes := 8, zero := [Value.int IntKind.i64 (0)], fields := [], elem := none, str := false, flat := some [CK.int IntKind.i64] }),
  (4, { agg := false, size := 1, bytes := 1, zero := [Value.bool false], fields := [], elem := none, str := false, flat := some [CK.bool] }),
  (5, { agg := false, size := 1, bytes := 1, zero := [Value.int IntKind.u8 (0)], fields := [], elem := none, str := false, flat := some [CK.int IntKind.u8] }),
  (9, { agg := false, size := 1, bytes := 16, zero := [Value.string ByteArray.empty], fields := [], elem := none, str := true, flat := none }),
  (12, { agg := false, size := 1, bytes := 8, zero := [Value.int IntKind.u64 (0)], fields := [], elem := none, str := false, flat := some [CK.int IntKind.u64] }),
  (21, { agg := false, size := 1, bytes := 4, zero := [Value.int IntKind.i32 (0)], fields := [], elem := none, str := false, flat := some [CK.int IntKind.i32] }),
  (22, { agg := false, size := 1, bytes := 24, zero := [Value.slice none 0 0], fields := [], elem := some 149, str := false, flat := none }),
  (23, { agg := true, size := 3, bytes := 40, zero := [Value.slice none 0 0, Value.int IntKind.i64 (0), Value.int IntKind.i64 (0)], fields := [(0, 22), (1, 3), (2, 3)], elem := none, str := false, flat := none }),
  (24, { agg := true, size := 3, bytes := 40, zero := [Value.slice none 0 0, Value.int IntKind.i64 (0), Value.int IntKind.i64 (0)], fields := [(0, 22), (1, 3), (2, 3)], elem := none, str := false, flat := none }),
  (25, { agg := false, size := 1, bytes := 24, zero := [Value.slice none 0 0], fields := [], elem := some 114, str := false, flat := none }),
  (26, { agg := false, size := 1, bytes := 24, zero := [Value.slice none 0 0], fields := [], elem := some 116, str := false, flat := none }),
  (27, { agg := true, size := 6, bytes := 96, zero := [Value.slice none 0 0, Value.int IntKind.i64 (0), Value.int IntKind.i64 (0), Value.slice none 0 0, Value.slice none 0 0, Value.int IntKind.i64 (0)], fields := [(0, 24), (3, 25), (4, 26), (5, 3)], elem := none, str := false, flat := none }),
  (28, { agg := true, size := 6, bytes := 96, zero := [Value.slice none 0 0, Value.int IntKind.i64 (0), Value.int IntKind.i64 (0), Value.slice none 0 0, Value.slice none 0 0, Value.int IntKind.i64 (0)], fields := [(0, 24), (3, 25), (4, 26), (5, 3)], elem := none, str := false, flat := none }),
  (30, { agg := false, size := 1, bytes := 24, zero := [Value.slice none 0 0], fields := [], elem := some 9, str := false, flat := none }),
  (32, { agg := false, size := 1, bytes := 24, zero := [Value.slice none 0 0], fields := [], elem := some 69, str := false, flat := none }),
  (33, { agg := true, size := 3, bytes := 40, zero := [Value.slice none 0 0, Value.int IntKind.i64 (0), Value.int IntKind.i64 (0)], fields := [(0, 32), (1, 3), (2, 3)], elem := none, str := false, flat := none }),
  (34, { agg := true, size := 3, bytes := 40, zero := [Value.slice none 0 0, Value.int IntKind.i64 (0), Value.int IntKind.i64 (0)], fields := [(0, 32), (1, 3), (2, 3)], elem := none, str := false, flat := none }),
  (35, { agg := false, size := 1, bytes := 24, zero := [Value.slice none 0 0], fields := [], elem := some 74, str := false, flat := none }),
  (36, { agg := false, size := 1, bytes := 24, zero := [Value.slice none 0 0], fields := [], elem := some 77, str := false, flat := none }),
  (37, { agg := true, size := 6, bytes := 96, zero := [Value.slice none 0 0, Value.int IntKind.i64 (0), Value.int IntKind.i64 (0), Value.slice none 0 0, Value.slice none 0 0, Value.int IntKind.i64 (0)], fields := [(0, 34), (3, 35), (4, 36), (5, 3)], elem := none, str := false, flat := none }),
  (38, { agg := true, size := 6, bytes := 96, zero := [Value.slice none 0 0, Value.int IntKind.i64 (0), Value.int IntKind.i64 (0), Value.slice none 0 0, Value.slice none 0 0, Value.int IntKind.i64 (0)], fields := [(0, 34), (3, 35), (4, 36), (5, 3)], elem := none, str := false, flat := none }),
  (45, { agg := false, size := 1, bytes := 24, zero := [Value.slice none 0 0], fields := [], elem := some 126, str := false, flat := none }),
  (46, { agg := false, size := 1, bytes := 24, zero := [Value.slice none 0 0], fields := [], elem := some 129, str := false, flat := none }),
  (47, { agg := false, size := 1, bytes := 24, zero := [Value.slice none 0 0], fields := [], elem := some 139, str := false, flat := none }),
  (48, { agg := false, size := 1, bytes := 24, zero := [Value.slice none 0 0], fields := [], elem := some 143, str := false, flat := none }),
  (49, { agg := true, size := 7, bytes := 136, zero := [Value.slice none 0 0, Value.int IntKind.i64 (0), Value.int IntKind.i64 (0), Value.slice none 0 0, Value.slice none 0 0, Value.slice none 0 0, Value.slice none 0 0], fields := [(0, 24), (3, 45), (4, 46), (5, 47), (6, 48)], elem := none, str := false, flat := none }),
  (50, { agg := true, size := 7, bytes := 136, zero := [Value.slice none 0 0, Value.int IntKind.i64 (0), Value.int IntKind.i64 (0), Value.slice none 0 0, Value.slice none 0 0, Value.slice none 0 0, Value.slice none 0 0], fields := [(0, 24), (3, 45), (4, 46), (5, 47), (6, 48)], elem := none, str := false, flat := none }),
  (53, { agg := false, size := 1, bytes := 24, zero := [Value.slice none 0 0], fields := [], elem := some 133, str := false, flat := none }),
  (54, { agg := false, size := 1, bytes := 24, zero := [Value.slice none 0 0], fields := [], elem := some 95, str := false, flat := none }),
  (55, { agg := false, size := 1, bytes := 24, zero := [Value.slice none 0 0], fields := [], elem := some 137, str := false, flat := none }),
  (56, { agg := false, size := 1, bytes := 24, zero := [Value.slice none 0 0], fields := [], elem := some 141, str := false, flat := none }),
  (57, { agg := true, size := 7, bytes := 136, zero := [Value.slice none 0 0, Value.int IntKind.i64 (0), Value.int IntKind.i64 (0), Value.slice none 0 0, Value.slice none 0 0, Value.slice none 0 0, Value.slice none 0 0], fields := [(0, 34), (3, 53), (4, 54), (5, 55), (6, 56)], elem := none, str := false, flat := none }),
  (58, { agg := true, size := 7, bytes := 136, zero := [Value.slice none 0 0, Value.int IntKind.i64 (0), Value.int IntKind.i64 (0), Value.slice none 0 0, Value.slice none 0 0, Value.slice none 0 0, Value.slice none 0 0], fields := [(0, 34), (3, 53), (4, 54), (5, 55), (6, 56)], elem := none, str := false, flat := none }),
  (67, { agg := false, size := 1, bytes := 24, zero := [Value.slice none 0 0], fields := [], elem := some 3, str := false, flat := none }),
  (68, { agg := true, size := 4, bytes := 48, zero := [Value.int IntKind.i64 (0), Value.int IntKind.i64 (0), Value.int IntKind.i64 (0), Value.slice none 0 0], fields := [(0, 3), (1, 3), (2, 3), (3, 67)], elem := none, str := false, flat := none }),
  (69, { agg := true, size := 4, bytes := 48, zero := [Value.int IntKind.i64 (0), Value.int IntKind.i64 (0), Value.int IntKind.i64 (0), Value.slice none 0 0], fields := [(0, 3), (1, 3), (2, 3), (3, 67)], elem := none, str := false, flat := none }),
  (71, { agg := true, size := 2, bytes := 16, zero := [Value.int IntKind.i64 (0), Value.int IntKind.i64 (0)], fields := [(0, 3), (1, 3)], elem := none, str := false, flat := some [CK.int IntKind.i64, CK.int IntKind.i64] }),
  (72, { agg := true, size := 2, bytes := 16, zero := [Value.int IntKind.i64 (0), Value.int IntKind.i64 (0)], fields := [(0, 3), (1, 3)], elem := none, str := false, flat := some [CK.int IntKind.i64, CK.int IntKind.i64] }),
  (73, { agg := true, size := 5, bytes := 40, zero := [Value.int IntKind.i64 (0), Value.int IntKind.i64 (0), Value.int IntKind.i64 (0), Value.int IntKind.i64 (0), Value.int IntKind.i64 (0)], fields := [(0, 3), (1, 72), (3, 3), (4, 3)], elem := none, str := false, flat := some [CK.int IntKind.i64, CK.int IntKind.i64, CK.int IntKind.i64, CK.int IntKind.i64, CK.int IntKind.i64] }),
  (74, { agg := true, size := 5, bytes := 40, zero := [Value.int IntKind.i64 (0), Value.int IntKind.i64 (0), Value.int IntKind.i64 (0), Value.int IntKind.i64 (0), Value.int IntKind.i64 (0)], fields := [(0, 3), (1, 72), (3, 3), (4, 3)], elem := none, str := false, flat := some [CK.int IntKind.i64, CK.int IntKind.i64, CK.int IntKind.i64, CK.int IntKind.i64, CK.int IntKind.i64] }),
  (76, { agg := true, size := 3, bytes := 24, zero := [Value.int IntKind.i64 (0), Value.int IntKind.i64 (0), Value.int IntKind.i64 (0)], fields := [(0, 3), (1, 3), (2, 3)], elem := none, str := false, flat := some [CK.int IntKind.i64, CK.int IntKind.i64, CK.int IntKind.i64] }),
  (77, { agg := true, size := 3, bytes := 24, zero := [Value.int IntKind.i64 (0), Value.int IntKind.i64 (0), Value.int IntKind.i64 (0)], fields := [(0, 3), (1, 3), (2, 3)], elem := none, str := false, flat := some [CK.int IntKind.i64, CK.int IntKind.i64, CK.int IntKind.i64] }),
  (94, { agg := true, size := 6, bytes := 64, zero := [Value.int IntKind.i64 (0), Value.slice none 0 0, Value.int IntKind.i64 (0), Value.int IntKind.i64 (0), Value.int IntKind.i64 (0), Value.int IntKind.i64 (0)], fields := [(0, 3), (1, 35), (2, 3), (3, 3), (4, 3), (5, 3)], elem := none, str := false, flat := none }),
  (95, { agg := true, size := 6, bytes := 64, zero := [Value.int IntKind.i64 (0), Value.slice none 0 0, Value.int IntKind.i64 (0), Value.int IntKind.i64 (0), Value.int IntKind.i64 (0), Value.int IntKind.i64 (0)], fields := [(0, 3), (1, 35), (2, 3), (3, 3), (4, 3), (5, 3)], elem := none, str := false, flat := none }),
  (109, { agg := false, size := 1, bytes := 24, zero := [Value.slice none 0 0], fields := [], elem := some 5, str := false, flat := none }),
  (112, { agg := true, size := 2, bytes := 16, zero := [Value.int IntKind.i64 (0), Value.int IntKind.i64 (0)], fields := [(0, 3), (1, 3)], elem := none, str := false, flat := some [CK.int IntKind.i64, CK.int IntKind.i64] }),
  (113, { agg := true, size := 5, bytes := 40, zero := [Value.int IntKind.i64 (0), Value.int IntKind.i64 (0), Value.int IntKind.i64 (0), Value.int IntKind.i64 (0), Value.int IntKind.i64 (0)], fields := [(0, 3), (1, 112), (3, 3), (4, 3)], elem := none, str := false, flat := some [CK.int IntKind.i64, CK.int IntKind.i64, CK.int IntKind.i64, CK.int IntKind.i64, CK.int IntKind.i64] }),
  (114, { agg := true, size := 5, bytes := 40, zero := [Value.int IntKind.i64 (0), Value.int IntKind.i64 (0), Value.int IntKind.i64 (0), Value.int IntKind.i64 (0), Value.int IntKind.i64 (0)], fields := [(0, 3), (1, 112), (3, 3), (4, 3)], elem := none, str := false, flat := some [CK.int IntKind.i64, CK.int IntKind.i64, CK.int IntKind.i64, CK.int IntKind.i64, CK.int IntKind.i64] }),
  (116, { agg := true, size := 3, bytes := 24, zero := [Value.int IntKind.i64 (0), Value.int IntKind.i64 (0), Value.int IntKind.i64 (0)], fields := [(0, 3), (1, 3), (2, 3)], elem := none, str := false, flat := some [CK.int IntKind.i64, CK.int IntKind.i64, CK.int IntKind.i64] }),
  (122, { agg := false, size := 1, bytes := 24, zero := [Value.slice none 0 0], fields := [], elem := some 172, str := false, flat := none }),
  (123, { agg := false, size := 1, bytes := 24, zero := [Value.slice none 0 0], fields := [], elem := some 4, str := false, flat := none }),
  (124, { agg := false, size := 1, bytes := 24, zero := [Value.slice none 0 0], fields := [], elem := some 176, str := false, flat := none }),
  (125, { agg := true, size := 8, bytes := 192, zero := [Value.slice none 0 0, Value.slice none 0 0, Value.slice none 0 0, Value.slice none 0 0, Value.slice none 0 0, Value.slice none 0 0, Value.slice none 0 0, Value.slice none 0 0], fields := [(0, 25), (1, 25), (2, 25), (3, 122), (4, 67), (5, 123), (6, 123), (7, 124)], elem := none, str := false, flat := none }),
  (126, { agg := true, size := 8, bytes := 192, zero := [Value.slice none 0 0, Value.slice none 0 0, Value.slice none 0 0, Value.slice none 0 0, Value.slice none 0 0, Value.slice none 0 0, Value.slice none 0 0, Value.slice none 0 0], fields := [(0, 25), (1, 25), (2, 25), (3, 122), (4, 67), (5, 123), (6, 123), (7, 124)], elem := none, str := false, flat := none }),
  (128, { agg := true, size := 6, bytes := 64, zero := [Value.int IntKind.i64 (0), Value.slice none 0 0, Value.int IntKind.i64 (0), Value.int IntKind.i64 (0), Value.int IntKind.i64 (0), Value.int IntKind.i64 (0)], fields := [(0, 3), (1, 25), (2, 3), (3, 3), (4, 3), (5, 3)], elem := none, str := false, flat := none }),
  (129, { agg := true, size := 6, bytes := 64, zero := [Value.int IntKind.i64 (0), Value.slice none 0 0, Value.int IntKind.i64 (0), Value.int IntKind.i64 (0), Value.int IntKind.i64 (0), Value.int IntKind.i64 (0)], fields := [(0, 3), (1, 25), (2, 3), (3, 3), (4, 3), (5, 3)], elem := none, str := false, flat := none }),
  (130, { agg := false, size := 1, bytes := 24, zero := [Value.slice none 0 0], fields := [], elem := some 170, str := false, flat := none }),
  (131, { agg := false, size := 1, bytes := 24, zero := [Value.slice none 0 0], fields := [], elem := some 174, str := false, flat := none }),
  (132, { agg := true, size := 8, bytes := 192, zero := [Value.slice none 0 0, Value.slice none 0 0, Value.slice none 0 0, Value.slice none 0 0, Value.slice none 0 0, Value.slice none 0 0, Value.slice none 0 0, Value.slice none 0 0], fields := [(0, 35), (1, 35), (2, 35), (3, 130), (4, 67), (5, 123), (6, 123), (7, 131)], elem := none, str := false, flat := none }),
  (133, { agg := true, size := 8, bytes := 192, zero := [Value.slice none 0 0, Value.slice none 0 0, Value.slice none 0 0, Value.slice none 0 0, Value.slice none 0 0, Value.slice none 0 0, Value.slice none 0 0, Value.slice none 0 0], fields := [(0, 35), (1, 35), (2, 35), (3, 130), (4, 67), (5, 123), (6, 123), (7, 131)], elem := none, str := false, flat := none }),
  (136, { agg := true, size := 5, bytes := 32, zero := [Value.bool false, Value.int IntKind.i64 (0), Value.int IntKind.i64 (0), Value.bool false, Value.bool false], fields := [(0, 4), (1, 3), (2, 3), (3, 4), (4, 4)], elem := none, str := false, flat := some [CK.bool, CK.int IntKind.i64, CK.int IntKind.i64, CK.bool, CK.bool] }),
  (137, { agg := true, size := 5, bytes := 32, zero := [Value.bool false, Value.int IntKind.i64 (0), Value.int IntKind.i64 (0), Value.bool false, Value.bool false], fields := [(0, 4), (1, 3), (2, 3), (3, 4), (4, 4)], elem := none, str := false, flat := some [CK.bool, CK.int IntKind.i64, CK.int IntKind.i64, CK.bool, CK.bool] }),
  (139, { agg := true, size := 5, bytes := 32, zero := [Value.bool false, Value.int IntKind.i64 (0), Value.int IntKind.i64 (0), Value.bool false, Value.bool false], fields := [(0, 4), (1, 3), (2, 3), (3, 4), (4, 4)], elem := none, str := false, flat := some [CK.bool, CK.int IntKind.i64, CK.int IntKind.i64, CK.bool, CK.bool] }),
  (140, { agg := true, size := 3, bytes := 24, zero := [Value.int IntKind.i64 (0), Value.int IntKind.i64 (0), Value.bool false], fields := [(0, 3), (1, 3), (2, 4)], elem := none, str := false, flat := some [CK.int IntKind.i64, CK.int IntKind.i64, CK.bool] }),
  (141, { agg := true, size := 3, bytes := 24, zero := [Value.int IntKind.i64 (0), Value.int IntKind.i64 (0), Value.bool false], fields := [(0, 3), (1, 3), (2, 4)], elem := none, str := false, flat := some [CK.int IntKind.i64, CK.int IntKind.i64, CK.bool] }),
  (143, { agg := true, size := 3, bytes := 24, zero := [Value.int IntKind.i64 (0), Value.int IntKind.i64 (0), Value.bool false], fields := [(0, 3), (1, 3), (2, 4)], elem := none, str := false, flat := some [CK.int IntKind.i64, CK.int IntKind.i64, CK.bool] }),
  (149, { agg := true, size := 4, bytes := 48, zero := [Value.int IntKind.i64 (0), Value.int IntKind.i64 (0), Value.int IntKind.i64 (0), Value.slice none 0 0], fields := [(0, 3), (1, 3), (2, 3), (3, 67)], elem := none, str := false, flat := none }),
  (169, { agg := true, size := 4, bytes := 32, zero := [Value.int IntKind.i64 (0), Value.int IntKind.i64 (0), Value.int IntKind.i64 (0), Value.int IntKind.i64 (0)], fields := [(0, 3), (1, 3), (2, 3), (3, 3)], elem := none, str := false, flat := some [CK.int IntKind.i64, CK.int IntKind.i64, CK.int IntKind.i64, CK.int IntKind.i64] }),
  (170, { agg := true, size := 4, bytes := 32, zero := [Value.int IntKind.i64 (0), Value.int IntKind.i64 (0), Value.int IntKind.i64 (0), Value.int IntKind.i64 (0)], fields := [(0, 3), (1, 3), (2, 3), (3, 3)], elem := none, str := false, flat := some [CK.int IntKind.i64, CK.int IntKind.i64, CK.int IntKind.i64, CK.int IntKind.i64] }),
  (172, { agg := true, size := 4, bytes := 32, zero := [Value.int IntKind.i64 (0), Value.int IntKind.i64 (0), Value.int IntKind.i64 (0), Value.int IntKind.i64 (0)], fields := [(0, 3), (1, 3), (2, 3), (3, 3)], elem := none, str := false, flat := some [CK.int IntKind.i64, CK.int IntKind.i64, CK.int IntKind.i64, CK.int IntKind.i64] }),
  (173, { agg := true, size := 2, bytes := 16, zero := [Value.int IntKind.i64 (0), Value.bool false], fields := [(0, 3), (1, 4)], elem := none, str := false, flat := some [CK.int IntKind.i64, CK.bool] }),
  (174, { agg := true, size := 2, bytes := 16, zero := [Value.int IntKind.i64 (0), Value.bool false], fields := [(0, 3), (1, 4)], elem := none, str := false, flat := some [CK.int IntKind.i64, CK.bool] }),
  (176, { agg := true, size := 2, bytes := 16, zero := [Value.int IntKind.i64 (0), Value.bool false], fields := [(0, 3), (1, 4)], elem := none, str := false, flat := some [CK.int IntKind.i64, CK.bool] }),
  (179, { agg := true, size := 24, bytes := 24, zero := [Value.int IntKind.u8 (0), Value.int IntKind.u8 (0), Value.int IntKind.u8 (0), Value.int IntKind.u8 (0), Value.int IntKind.u8 (0), Value.int IntKind.u8 (0), Value.int IntKind.u8 (0), Value.int IntKind.u8 (0), Value.int IntKind.u8 (0), Value.int IntKind.u8 (0), Value.int IntKind.u8 (0), Value.int IntKind.u8 (0), Value.int IntKind.u8 (0), Value.int IntKind.u8 (0), Value.int IntKind.u8 (0), Value.int IntKind.u8 (0), Value.int IntKind.u8 (0), Value.int IntKind.u8 (0), Value.int IntKind.u8 (0), Value.int IntKind.u8 (0), Value.int IntKind.u8 (0), Value.int IntKind.u8 (0), Value.int IntKind.u8 (0), Value.int IntKind.u8 (0)], fields := [], elem := none, str := false, flat := none }),
  (180, { agg := false, size := 1, bytes := 8, zero := [Value.int IntKind.u64 (0)], fields := [], elem := none, str := false, flat := some [CK.int IntKind.u64] }),
  (187, { agg := true, size := 20, bytes := 160, zero := [Value.int IntKind.u64 (0), Value.int IntKind.u64 (0), Value.int IntKind.u64 (0), Value.int IntKind.u64 (0), Value.int IntKind.u64 (0), Value.int IntKind.u64 (0), Value.int IntKind.u64 (0), Value.int IntKind.u64 (0), Value.int IntKind.u64 (0), Value.int IntKind.u64 (0), Value.int IntKind.u64 (0), Value.int IntKind.u64 (0), Value.int IntKind.u64 (0), Value.int IntKind.u64 (0), Value.int IntKind.u64 (0), Value.int IntKind.u64 (0), Value.int IntKind.u64 (0), Value.int IntKind.u64 (0), Value.int IntKind.u64 (0), Value.int IntKind.u64 (0)], fields := [], elem := none, str := false, flat := none }),
  (188, { agg := false, size := 1, bytes := 4, zero := [Value.int IntKind.u32 (0)], fields := [], elem := none, str := false, flat := some [CK.int IntKind.u32] }),
  (191, { agg := false, size := 1, bytes := 8, zero := [Value.int IntKind.u64 (0)], fields := [], elem := none, str := false, flat := some [CK.int IntKind.u64] }),
  (194, { agg := true, size := 32, bytes := 32, zero := [Value.int IntKind.u8 (0), Value.int IntKind.u8 (0), Value.int IntKind.u8 (0), Value.int IntKind.u8 (0), Value.int IntKind.u8 (0), Value.int IntKind.u8 (0), Value.int IntKind.u8 (0), Value.int IntKind.u8 (0), Value.int IntKind.u8 (0), Value.int IntKind.u8 (0), Value.int IntKind.u8 (0), Value.int IntKind.u8 (0), Value.int IntKind.u8 (0), Value.int IntKind.u8 (0), Value.int IntKind.u8 (0), Value.int IntKind.u8 (0), Value.int IntKind.u8 (0), Value.int IntKind.u8 (0), Value.int IntKind.u8 (0), Value.int IntKind.u8 (0), Value.int IntKind.u8 (0), Value.int IntKind.u8 (0), Value.int IntKind.u8 (0), Value.int IntKind.u8 (0), Value.int IntKind.u8 (0), Value.int IntKind.u8 (0), Value.int IntKind.u8 (0), Value.int IntKind.u8 (0), Value.int IntKind.u8 (0), Value.int IntKind.u8 (0), Value.int IntKind.u8 (0), Value.int IntKind.u8 (0)], fields := [], elem := none, str := false, flat := none }),
  (206, { agg := false, size := 1, bytes := 8, zero := [Value.pointer none], fields := [], elem := none, str := false, flat := none })]

theorem tbl_ok : TblOk Tryd.prog tbl :=
  (.cons (by kernel_rfl) (.cons (by kernel_rfl) (.cons (by kernel_rfl) (.cons (by kernel_rfl) (.cons (by kernel_rfl) (.cons (by kernel_rfl) (.cons (by kernel_rfl) (.cons (by kernel_rfl) (.cons (by kernel_rfl) (.cons (by kernel_rfl) (.cons (by kernel_rfl) (.cons (by kernel_rfl) (.cons (by kernel_rfl) (.cons (by kernel_rfl) (.cons (by kernel_rfl) (.cons (by kernel_rfl) (.cons (by kernel_rfl) (.cons (by kernel_rfl) (.cons (by kernel_rfl) (.cons (by kernel_rfl) (.cons (by kernel_rfl) (.cons (by kernel_rfl) (.cons (by kernel_rfl) (.cons (by kernel_rfl) (.cons (by kernel_rfl) (.cons (by kernel_rfl) (.cons (by kernel_rfl) (.cons (by kernel_rfl) (.cons (by kernel_rfl) (.cons (by kernel_rfl) (.cons (by kernel_rfl) (.cons (by kernel_rfl) (.cons (by kernel_rfl) (.cons (by kernel_rfl) (.cons (by kernel_rfl) (.cons (by kernel_rfl) (.cons (by kernel_rfl) (.cons (by kernel_rfl) (.cons (by kernel_rfl) (.cons (by kernel_rfl) (.cons (by kernel_rfl) (.cons (by kernel_rfl) (.cons (by kernel_rfl) (.cons (by kernel_rfl) (.cons (by kernel_rfl) (.cons (by kernel_rfl) (.cons (by kernel_rfl) (.cons (by kernel_rfl) (.cons (by kernel_rfl) (.cons (by kernel_rfl) (.cons (by kernel_rfl) (.cons (by kernel_rfl) (.cons (by kernel_rfl) (.cons (by kernel_rfl) (.cons (by kernel_rfl) (.cons (by kernel_rfl) (.cons (by kernel_rfl) (.cons (by kernel_rfl) (.cons (by kernel_rfl) (.cons (by kernel_rfl) (.cons (by kernel_rfl) (.cons (by kernel_rfl) (.cons (by kernel_rfl) (.cons (by kernel_rfl) (.cons (by kernel_rfl) (.cons (by kernel_rfl) (.cons (by kernel_rfl) (.cons (by kernel_rfl) (.cons (by kernel_rfl) (.cons (by kernel_rfl) (.cons (by kernel_rfl) (.cons (by kernel_rfl) (.cons (by kernel_rfl) (.cons (by kernel_rfl) (.cons (by kernel_rfl) (.cons (by kernel_rfl) (.cons (by kernel_rfl) (.cons (by kernel_rfl) (.cons (by kernel_rfl) (.cons (by kernel_rfl) (.cons (by kernel_rfl) .nil)))))))))))))))))))))))))))))))))))))))))))))))))))))))))))))))))))))))))))))))))
theorem szIntS (xs : List Int) (left : Int) (ho : xs.length ≤ maxLen) (h0 : 0 ≤ left) (h1 : left ≤ 1048576) : Meets Tryd.prog 99 [.one (sInt xs), .one (vi left)] [.one (vi (szR (xs.length) left))] := by
  have hl : xs.length ≤ 9223372036854775807 := ho
  refine enterW tbl_ok false Tryd.func99 rfl (by decide) fun W => ?_
  conv => whnf
  refine ⟨by simp only [inR]; omega, ?_⟩
  conv => whnf
  refine ⟨fun h => ?_, fun h => ?_⟩ <;> simp only [decide_eq_true_eq, decide_eq_false_iff_not] at h <;> conv => whnf
  · refine retW tbl_ok rfl rfl ⟨?_, trivial⟩
    conv => whnf
    rw [szR_neg (by omega)]
  · refine retW tbl_ok rfl rfl ⟨?_, trivial⟩
    conv => whnf
    rw [szR_pos (by omega)]

theorem szNode (x : GNode) (left : Int) (ho : x.ok) (h0 : 0 ≤ left) (h1 : left ≤ 1048576) : Meets Tryd.prog 86 [.agg x.c, .one (vi left)] [.one (vi (szR x.w left))] := by
  have hw : x.w = x.outs.length := rfl
  obtain ⟨o_kind, o_a, o_b, o_outs⟩ := ho
  refine enterW tbl_ok false Tryd.func86 rfl (by decide) fun W => ?_
  conv => whnf
  refine callR (szIntS x.outs (left) o_outs.1 (by omega) (by omega)) rfl (go tbl_ok false ?_)
  conv => whnf
  refine ⟨fun h => ?_, fun h => ?_⟩ <;> simp only [decide_eq_true_eq, decide_eq_false_iff_not] at h <;> conv => whnf
  · refine retW tbl_ok rfl rfl ⟨?_, trivial⟩
    conv => whnf
    have h := szR_lt h (by omega)
    rw [szR_neg (by omega)]
  have h_outs := szR_ge h
  rw [szR_pos h_outs]
  refine retW tbl_ok rfl rfl ⟨?_, trivial⟩
  conv => whnf
  rw [szR_pos (by omega)]
  exact congrArg vi (by omega)

theorem szNodeS (xs : List GNode) (left : Int) (ho : xs.length ≤ maxLen ∧ ∀ y ∈ xs, GNode.ok y) (h0 : 0 ≤ left) (h1 : left ≤ 1048576) : Meets Tryd.prog 58 [.one (sGNode xs), .one (vi left)] [.one (vi (szR (wS GNode.w xs) left))] := by
  have hl : xs.length ≤ 9223372036854775807 := ho.1
  refine enterW tbl_ok false Tryd.func58 rfl (by decide) fun W => ?_
  conv => whnf
  refine ⟨by simp only [inR]; omega, ?_⟩
  conv => whnf
  refine ⟨fun h => ?_, fun h => ?_⟩ <;> simp only [decide_eq_true_eq, decide_eq_false_iff_not] at h <;> conv => whnf
  · refine retW tbl_ok rfl rfl ⟨?_, trivial⟩
    conv => whnf
    rw [szR_neg (by rw [wS_eq]; omega)]
  refine loopW tbl_ok false [] (fun k : Nat => [(1, .c (vi (left - xs.length - (((xs.take k).map GNode.w).sum : Nat)))), (5, .c (vi k))]) (fun _ => []) (fun _ => [])
    (fun k => k ≤ xs.length ∧ 0 ≤ left - xs.length - (((xs.take k).map GNode.w).sum : Nat)) (fun k => xs.length - k) 0 ⟨Nat.zero_le _, by simp; omega⟩ ⟨by simp [nth, ren2, ren1, ren0], rfl, trivial⟩ trivial trivial trivial (by kernel_rfl) (fun k hk => ?_)
  obtain ⟨hk, hp⟩ := hk
  conv => whnf
  refine ⟨fun h => ?_, fun h => ?_⟩ <;> simp only [decide_eq_true_eq, decide_eq_false_iff_not] at h <;> conv => whnf
  · have h : k < xs.length := by omega
    have hle := wS_take_le GNode.w xs k h
    have hst := wS_take GNode.w xs k h
    refine ⟨by omega, ?_⟩
    conv => whnf
    refine callR (szNode (xs.getD k default) _ (ho.2 _ (by rw [List.getD, List.getElem?_eq_getElem h]; exact List.getElem_mem h)) hp (by omega)) rfl (go tbl_ok false ?_)
    conv => whnf
    refine ⟨fun h' => ?_, fun h' => ?_⟩ <;> simp only [decide_eq_true_eq, decide_eq_false_iff_not] at h' <;> conv => whnf
    · refine retW tbl_ok rfl rfl ⟨?_, trivial⟩
      conv => whnf
      have h' := szR_lt h' hp
      rw [szR_neg (by rw [wS_eq]; omega)]
    · have h' := szR_ge h'
      refine ⟨by simp only [inR]; omega, ?_⟩
      conv => whnf
      refine loopE [] (k + 1) ⟨by omega, by omega⟩ (by omega) ⟨?_, rfl, trivial⟩ trivial trivial (by kernel_rfl) trivial (by kernel_rfl)
      conv => whnf
      rw [szR_pos h']
      exact congrArg (fun n => AV.c (vi n)) (by omega)
  · refine retW tbl_ok rfl rfl ⟨?_, trivial⟩
    conv => whnf
    have := wS_all GNode.w xs k (by omega)
    rw [szR_pos (by rw [wS_eq]; omega)]
    exact congrArg vi (by rw [wS_eq]; omega)

theorem szGraph (x : GGraph) (left : Int) (ho : x.ok) (h0 : 0 ≤ left) (h1 : left ≤ 1048576) : Meets Tryd.prog 19 [.agg x.c, .one (vi left)] [.one (vi (szR x.w left))] := by
  have hw : x.w = wS GNode.w x.nodes := rfl
  obtain ⟨o_nodes, o_workers, o_cap⟩ := ho
  refine enterW tbl_ok false Tryd.func19 rfl (by decide) fun W => ?_
  conv => whnf
  refine callR (szNodeS x.nodes (left) o_nodes (by omega) (by omega)) rfl (go tbl_ok false ?_)
  conv => whnf
  refine ⟨fun h => ?_, fun h => ?_⟩ <;> simp only [decide_eq_true_eq, decide_eq_false_iff_not] at h <;> conv => whnf
  · refine retW tbl_ok rfl rfl ⟨?_, trivial⟩
    conv => whnf
    have h := szR_lt h (by omega)
    rw [szR_neg (by omega)]
  have h_nodes := szR_ge h
  rw [szR_pos h_nodes]
  refine retW tbl_ok rfl rfl ⟨?_, trivial⟩
  conv => whnf
  rw [szR_pos (by omega)]
  exact congrArg vi (by omega)

theorem szRecordS (xs : List GRecord) (left : Int) (ho : xs.length ≤ maxLen) (h0 : 0 ≤ left) (h1 : left ≤ 1048576) : Meets Tryd.prog 20 [.one (sGRecord xs), .one (vi left)] [.one (vi (szR (xs.length) left))] := by
  have hl : xs.length ≤ 9223372036854775807 := ho
  refine enterW tbl_ok false Tryd.func20 rfl (by decide) fun W => ?_
  conv => whnf
  refine ⟨by simp only [inR]; omega, ?_⟩
  conv => whnf
  refine ⟨fun h => ?_, fun h => ?_⟩ <;> simp only [decide_eq_true_eq, decide_eq_false_iff_not] at h <;> conv => whnf
  · refine retW tbl_ok rfl rfl ⟨?_, trivial⟩
    conv => whnf
    rw [szR_neg (by omega)]
  · refine retW tbl_ok rfl rfl ⟨?_, trivial⟩
    conv => whnf
    rw [szR_pos (by omega)]

theorem szPickS (xs : List GPick) (left : Int) (ho : xs.length ≤ maxLen) (h0 : 0 ≤ left) (h1 : left ≤ 1048576) : Meets Tryd.prog 21 [.one (sGPick xs), .one (vi left)] [.one (vi (szR (xs.length) left))] := by
  have hl : xs.length ≤ 9223372036854775807 := ho
  refine enterW tbl_ok false Tryd.func21 rfl (by decide) fun W => ?_
  conv => whnf
  refine ⟨by simp only [inR]; omega, ?_⟩
  conv => whnf
  refine ⟨fun h => ?_, fun h => ?_⟩ <;> simp only [decide_eq_true_eq, decide_eq_false_iff_not] at h <;> conv => whnf
  · refine retW tbl_ok rfl rfl ⟨?_, trivial⟩
    conv => whnf
    rw [szR_neg (by omega)]
  · refine retW tbl_ok rfl rfl ⟨?_, trivial⟩
    conv => whnf
    rw [szR_pos (by omega)]

theorem szScript (x : GScript) (left : Int) (ho : x.ok) (h0 : 0 ≤ left) (h1 : left ≤ 1048576) : Meets Tryd.prog 5 [.agg x.c, .one (vi left)] [.one (vi (szR x.w left))] := by
  have hw : x.w = x.graph.w + x.inputs.length + x.picks.length := rfl
  obtain ⟨o_graph, o_inputs, o_picks, o_rounds⟩ := ho
  refine enterW tbl_ok false Tryd.func5 rfl (by decide) fun W => ?_
  conv => whnf
  refine callR (szGraph x.graph (left) o_graph (by omega) (by omega)) rfl (go tbl_ok false ?_)
  conv => whnf
  refine ⟨fun h => ?_, fun h => ?_⟩ <;> simp only [decide_eq_true_eq, decide_eq_false_iff_not] at h <;> conv => whnf
  · refine retW tbl_ok rfl rfl ⟨?_, trivial⟩
    conv => whnf
    have h := szR_lt h (by omega)
    rw [szR_neg (by omega)]
  have h_graph := szR_ge h
  rw [szR_pos h_graph]
  refine callR (szRecordS x.inputs (left - (x.graph.w : Nat)) o_inputs.1 (by omega) (by omega)) rfl (go tbl_ok false ?_)
  conv => whnf
  refine ⟨fun h => ?_, fun h => ?_⟩ <;> simp only [decide_eq_true_eq, decide_eq_false_iff_not] at h <;> conv => whnf
  · refine retW tbl_ok rfl rfl ⟨?_, trivial⟩
    conv => whnf
    have h := szR_lt h (by omega)
    rw [szR_neg (by omega)]
  have h_inputs := szR_ge h
  rw [szR_pos h_inputs]
  refine callR (szPickS x.picks (left - (x.graph.w : Nat) - (x.inputs.length : Nat)) o_picks.1 (by omega) (by omega)) rfl (go tbl_ok false ?_)
  conv => whnf
  refine ⟨fun h => ?_, fun h => ?_⟩ <;> simp only [decide_eq_true_eq, decide_eq_false_iff_not] at h <;> conv => whnf
  · refine retW tbl_ok rfl rfl ⟨?_, trivial⟩
    conv => whnf
    have h := szR_lt h (by omega)
    rw [szR_neg (by omega)]
  have h_picks := szR_ge h
  rw [szR_pos h_picks]
  refine retW tbl_ok rfl rfl ⟨?_, trivial⟩
  conv => whnf
  rw [szR_pos (by omega)]
  exact congrArg vi (by omega)

theorem toIntS (xs : List Int) (hx : xs.length ≤ 1048576) : Meets Tryd.prog 103 [.one (sInt xs)] [.one (sInt xs)] := by
  have hl := hx
  refine enterW tbl_ok false Tryd.func103 rfl (by decide) fun W => ?_
  conv => whnf
  refine ⟨by omega, ?_⟩
  conv => whnf
  refine castW 0 (sInt (List.replicate xs.length default)) rfl (cast_make (α := Int) (e := (fun n => [vi n])) xs.length ⟨.inl rfl, trivial⟩) ?_
  refine loopW tbl_ok false [] (fun k : Nat => [(4, .c (vi k))]) (fun _ => []) (fun k => [⟨0, sInt (xs.take k ++ List.replicate (xs.length - k) default)⟩])
    (fun k => k ≤ xs.length) (fun k => xs.length - k) 0 (Nat.zero_le _) ⟨rfl, trivial⟩ trivial ⟨?_, trivial⟩ trivial (by kernel_rfl) (fun k hk => ?_)
  · conv => whnf
    exact rep_start (e := (fun n => [vi n])) xs
  conv => whnf
  refine ⟨fun h => ?_, fun h => ?_⟩ <;> simp at h <;> conv => whnf
  · refine ⟨by omega, ?_⟩
    conv => whnf
    refine ⟨by simp; omega, ?_⟩
    conv => whnf
    refine storeW tbl_ok rfl rfl rfl rfl rfl rfl rfl rfl _ (slC_set (xs := xs.take k ++ List.replicate (xs.length - k) default) (x := xs.getD k default) (e := (fun n => [vi n])) (by simp; omega) ?_) (go tbl_ok false ?_)
    · rfl
    conv => whnf
    refine ⟨by simp only [inR]; omega, ?_⟩
    conv => whnf
    refine loopE [] (k + 1) (by omega) (by omega) ⟨rfl, trivial⟩ ⟨?_, trivial⟩ trivial (by kernel_rfl) trivial (by kernel_rfl)
    conv => whnf
    exact congrArg (slC 1 (fun n => [vi n])) (take_rep_set xs k default h)
  · exact retW tbl_ok rfl rfl ⟨by conv => whnf
                                  rw [take_rep_end _ _ _ (by omega)], trivial⟩

theorem toNode (x : GNode) (h : x.w ≤ 1048576) : Meets Tryd.prog 89 [.agg x.c] [.agg x.c] := by
  refine enterW tbl_ok false Tryd.func89 rfl (by decide) fun W => ?_
  conv => whnf
  refine callW (toIntS x.outs (by simp only [GNode.w] at h; omega)) rfl (go tbl_ok false ?_)
  conv => whnf
  exact retW tbl_ok rfl rfl ⟨⟨rfl, rfl, rfl, rfl, trivial⟩, trivial⟩

theorem toNodeS (xs : List GNode) (hx : wS GNode.w xs ≤ 1048576) : Meets Tryd.prog 64 [.one (sGNode xs)] [.one (sGNode xs)] := by
  have hl : xs.length ≤ 1048576 := by simp only [wS] at hx; omega
  refine enterW tbl_ok false Tryd.func64 rfl (by decide) fun W => ?_
  conv => whnf
  refine ⟨by omega, ?_⟩
  conv => whnf
  refine castW 0 (sGNode (List.replicate xs.length default)) rfl (cast_make (α := GNode) (e := GNode.c) xs.length ⟨.inl rfl, .inl rfl, .inl rfl, .nil _ _, trivial⟩) ?_
  refine loopW tbl_ok false [] (fun k : Nat => [(4, .c (vi k))]) (fun _ => []) (fun k => [⟨0, sGNode (xs.take k ++ List.replicate (xs.length - k) default)⟩])
    (fun k => k ≤ xs.length) (fun k => xs.length - k) 0 (Nat.zero_le _) ⟨rfl, trivial⟩ trivial ⟨?_, trivial⟩ trivial (by kernel_rfl) (fun k hk => ?_)
  · conv => whnf
    exact rep_start (e := GNode.c) xs
  conv => whnf
  refine ⟨fun h => ?_, fun h => ?_⟩ <;> simp at h <;> conv => whnf
  · refine ⟨by omega, ?_⟩
    conv => whnf
    refine callW (toNode (xs.getD k default) (by have := wS_take_le GNode.w xs k h; simp only [wS] at hx; omega)) rfl (go tbl_ok false ?_)
    conv => whnf
    refine ⟨by simp; omega, ?_⟩
    conv => whnf
    refine storeW tbl_ok rfl rfl rfl rfl rfl rfl rfl rfl _ (slC_set (xs := xs.take k ++ List.replicate (xs.length - k) default) (x := xs.getD k default) (e := GNode.c) (by simp; omega) ?_) (go tbl_ok false ?_)
    · rfl
    conv => whnf
    refine ⟨by simp only [inR]; omega, ?_⟩
    conv => whnf
    refine loopE [] (k + 1) (by omega) (by omega) ⟨rfl, trivial⟩ ⟨?_, trivial⟩ trivial (by kernel_rfl) trivial (by kernel_rfl)
    conv => whnf
    exact congrArg (slC 4 GNode.c) (take_rep_set xs k default h)
  · exact retW tbl_ok rfl rfl ⟨by conv => whnf
                                  rw [take_rep_end _ _ _ (by omega)], trivial⟩

theorem toGraph (x : GGraph) (h : x.w ≤ 1048576) : Meets Tryd.prog 27 [.agg x.c] [.agg x.c] := by
  refine enterW tbl_ok false Tryd.func27 rfl (by decide) fun W => ?_
  conv => whnf
  refine callW (toNodeS x.nodes (by simp only [GGraph.w] at h; omega)) rfl (go tbl_ok false ?_)
  conv => whnf
  exact retW tbl_ok rfl rfl ⟨⟨rfl, rfl, rfl, trivial⟩, trivial⟩

theorem toStamp (x : GStamp) : Meets Tryd.prog 90 [.agg x.c] [.agg x.c] := by
  refine enterW tbl_ok false Tryd.func90 rfl (by decide) fun W => ?_
  conv => whnf
  exact retW tbl_ok rfl rfl ⟨⟨rfl, rfl, trivial⟩, trivial⟩

theorem toRecord (x : GRecord) : Meets Tryd.prog 65 [.agg x.c] [.agg x.c] := by
  refine enterW tbl_ok false Tryd.func65 rfl (by decide) fun W => ?_
  conv => whnf
  refine callW (toStamp x.stamp) rfl (go tbl_ok false ?_)
  conv => whnf
  exact retW tbl_ok rfl rfl ⟨⟨rfl, rfl, rfl, rfl, rfl, trivial⟩, trivial⟩

theorem toRecordS (xs : List GRecord) (hx : xs.length ≤ 1048576) : Meets Tryd.prog 28 [.one (sGRecord xs)] [.one (sGRecord xs)] := by
  have hl := hx
  refine enterW tbl_ok false Tryd.func28 rfl (by decide) fun W => ?_
  conv => whnf
  refine ⟨by omega, ?_⟩
  conv => whnf
  refine castW 0 (sGRecord (List.replicate xs.length default)) rfl (cast_make (α := GRecord) (e := GRecord.c) xs.length ⟨.inl rfl, .inl rfl, .inl rfl, .inl rfl, .inl rfl, trivial⟩) ?_
  refine loopW tbl_ok false [] (fun k : Nat => [(4, .c (vi k))]) (fun _ => []) (fun k => [⟨0, sGRecord (xs.take k ++ List.replicate (xs.length - k) default)⟩])
    (fun k => k ≤ xs.length) (fun k => xs.length - k) 0 (Nat.zero_le _) ⟨rfl, trivial⟩ trivial ⟨?_, trivial⟩ trivial (by kernel_rfl) (fun k hk => ?_)
  · conv => whnf
    exact rep_start (e := GRecord.c) xs
  conv => whnf
  refine ⟨fun h => ?_, fun h => ?_⟩ <;> simp at h <;> conv => whnf
  · refine ⟨by omega, ?_⟩
    conv => whnf
    refine callW (toRecord (xs.getD k default)) rfl (go tbl_ok false ?_)
    conv => whnf
    refine ⟨by simp; omega, ?_⟩
    conv => whnf
    refine storeW tbl_ok rfl rfl rfl rfl rfl rfl rfl rfl _ (slC_set (xs := xs.take k ++ List.replicate (xs.length - k) default) (x := xs.getD k default) (e := GRecord.c) (by simp; omega) ?_) (go tbl_ok false ?_)
    · rfl
    conv => whnf
    refine ⟨by simp only [inR]; omega, ?_⟩
    conv => whnf
    refine loopE [] (k + 1) (by omega) (by omega) ⟨rfl, trivial⟩ ⟨?_, trivial⟩ trivial (by kernel_rfl) trivial (by kernel_rfl)
    conv => whnf
    exact congrArg (slC 5 GRecord.c) (take_rep_set xs k default h)
  · exact retW tbl_ok rfl rfl ⟨by conv => whnf
                                  rw [take_rep_end _ _ _ (by omega)], trivial⟩

theorem toPick (x : GPick) : Meets Tryd.prog 66 [.agg x.c] [.agg x.c] := by
  refine enterW tbl_ok false Tryd.func66 rfl (by decide) fun W => ?_
  conv => whnf
  exact retW tbl_ok rfl rfl ⟨⟨rfl, rfl, rfl, trivial⟩, trivial⟩

theorem toPickS (xs : List GPick) (hx : xs.length ≤ 1048576) : Meets Tryd.prog 29 [.one (sGPick xs)] [.one (sGPick xs)] := by
  have hl := hx
  refine enterW tbl_ok false Tryd.func29 rfl (by decide) fun W => ?_
  conv => whnf
  refine ⟨by omega, ?_⟩
  conv => whnf
  refine castW 0 (sGPick (List.replicate xs.length default)) rfl (cast_make (α := GPick) (e := GPick.c) xs.length ⟨.inl rfl, .inl rfl, .inl rfl, trivial⟩) ?_
  refine loopW tbl_ok false [] (fun k : Nat => [(4, .c (vi k))]) (fun _ => []) (fun k => [⟨0, sGPick (xs.take k ++ List.replicate (xs.length - k) default)⟩])
    (fun k => k ≤ xs.length) (fun k => xs.length - k) 0 (Nat.zero_le _) ⟨rfl, trivial⟩ trivial ⟨?_, trivial⟩ trivial (by kernel_rfl) (fun k hk => ?_)
  · conv => whnf
    exact rep_start (e := GPick.c) xs
  conv => whnf
  refine ⟨fun h => ?_, fun h => ?_⟩ <;> simp at h <;> conv => whnf
  · refine ⟨by omega, ?_⟩
    conv => whnf
    refine callW (toPick (xs.getD k default)) rfl (go tbl_ok false ?_)
    conv => whnf
    refine ⟨by simp; omega, ?_⟩
    conv => whnf
    refine storeW tbl_ok rfl rfl rfl rfl rfl rfl rfl rfl _ (slC_set (xs := xs.take k ++ List.replicate (xs.length - k) default) (x := xs.getD k default) (e := GPick.c) (by simp; omega) ?_) (go tbl_ok false ?_)
    · rfl
    conv => whnf
    refine ⟨by simp only [inR]; omega, ?_⟩
    conv => whnf
    refine loopE [] (k + 1) (by omega) (by omega) ⟨rfl, trivial⟩ ⟨?_, trivial⟩ trivial (by kernel_rfl) trivial (by kernel_rfl)
    conv => whnf
    exact congrArg (slC 3 GPick.c) (take_rep_set xs k default h)
  · exact retW tbl_ok rfl rfl ⟨by conv => whnf
                                  rw [take_rep_end _ _ _ (by omega)], trivial⟩

theorem toScript (x : GScript) (h : x.w ≤ 1048576) : Meets Tryd.prog 7 [.agg x.c] [.agg x.c] := by
  refine enterW tbl_ok false Tryd.func7 rfl (by decide) fun W => ?_
  conv => whnf
  refine callW (toGraph x.graph (by simp only [GScript.w] at h; omega)) rfl (go tbl_ok false ?_)
  conv => whnf
  refine callW (toRecordS x.inputs (by simp only [GScript.w] at h; omega)) rfl (go tbl_ok false ?_)
  conv => whnf
  refine callW (toPickS x.picks (by simp only [GScript.w] at h; omega)) rfl (go tbl_ok false ?_)
  conv => whnf
  exact retW tbl_ok rfl rfl ⟨⟨rfl, rfl, rfl, rfl, rfl, rfl, trivial⟩, trivial⟩

theorem eqStringS (xs : List ByteArray) (hx : xs.length ≤ 1048576) : Meets Tryd.prog 9 [.one (sStr xs), .one (sStr xs)] [.one (vb true)] := by
  have hl := hx
  refine enterW tbl_ok false Tryd.func9 rfl (by decide) fun W => ?_
  conv => whnf
  refine ⟨fun h => ?_, fun _ => ?_⟩ <;> conv => whnf
  · simp at h
  refine loopW tbl_ok false [] (fun k : Nat => [(5, .c (vi k))]) (fun _ => []) (fun _ => [])
    (fun k => k ≤ xs.length) (fun k => xs.length - k) 0 (Nat.zero_le _) ⟨rfl, trivial⟩ trivial trivial trivial (by kernel_rfl) (fun k hk => ?_)
  conv => whnf
  refine ⟨fun h => ?_, fun h => ?_⟩ <;> simp at h <;> conv => whnf
  · refine drawW rfl [0, 1, 2, 3, 4, 5, 6, 7, 8] (by kernel_rfl) (go tbl_ok false ?_)
    conv => whnf
    refine ⟨by omega, ?_⟩
    conv => whnf
    refine ⟨by omega, ?_⟩
    conv => whnf
    refine ⟨fun h' => ?_, fun _ => ?_⟩ <;> conv => whnf
    · simp [ba_self] at h'
    refine ⟨by simp only [inR]; omega, ?_⟩
    conv => whnf
    exact loopE [] (k + 1) (by omega) (by omega) ⟨rfl, trivial⟩ trivial trivial (by kernel_rfl) trivial (by kernel_rfl)
  · exact retW tbl_ok rfl rfl ⟨rfl, trivial⟩

theorem eqIntS (xs : List Int) (hx : xs.length ≤ 1048576) : Meets Tryd.prog 107 [.one (sInt xs), .one (sInt xs)] [.one (vb true)] := by
  have hl := hx
  refine enterW tbl_ok false Tryd.func107 rfl (by decide) fun W => ?_
  conv => whnf
  refine ⟨fun h => ?_, fun _ => ?_⟩ <;> conv => whnf
  · simp at h
  refine loopW tbl_ok false [] (fun k : Nat => [(5, .c (vi k))]) (fun _ => []) (fun _ => [])
    (fun k => k ≤ xs.length) (fun k => xs.length - k) 0 (Nat.zero_le _) ⟨rfl, trivial⟩ trivial trivial trivial (by kernel_rfl) (fun k hk => ?_)
  conv => whnf
  refine ⟨fun h => ?_, fun h => ?_⟩ <;> simp at h <;> conv => whnf
  · refine drawW rfl [0, 1, 2, 3, 4, 5, 6, 7, 8] (by kernel_rfl) (go tbl_ok false ?_)
    conv => whnf
    refine ⟨by omega, ?_⟩
    conv => whnf
    refine ⟨by omega, ?_⟩
    conv => whnf
    refine ⟨fun h' => ?_, fun _ => ?_⟩ <;> conv => whnf
    · simp at h'
    refine ⟨by simp only [inR]; omega, ?_⟩
    conv => whnf
    exact loopE [] (k + 1) (by omega) (by omega) ⟨rfl, trivial⟩ trivial trivial (by kernel_rfl) trivial (by kernel_rfl)
  · exact retW tbl_ok rfl rfl ⟨rfl, trivial⟩

theorem eqNode (x : GNode) (h : x.w ≤ 1048576) : Meets Tryd.prog 95 [.agg x.c, .agg x.c] [.one (vb true)] := by
  refine enterW tbl_ok false Tryd.func95 rfl (by decide) fun W => ?_
  conv => whnf
  refine ⟨fun h => ?_, fun _ => ?_⟩ <;> conv => whnf
  · simp at h
  refine ⟨fun h => ?_, fun _ => ?_⟩ <;> conv => whnf
  · simp at h
  refine ⟨fun h => ?_, fun _ => ?_⟩ <;> conv => whnf
  · simp at h
  refine callR (eqIntS x.outs (by simp only [GNode.w] at h; omega)) rfl (go tbl_ok false ?_)
  conv => whnf
  refine ⟨fun h => ?_, fun _ => ?_⟩ <;> conv => whnf
  · simp at h
  exact retW tbl_ok rfl rfl ⟨rfl, trivial⟩

theorem eqNodeS (xs : List GNode) (hx : wS GNode.w xs ≤ 1048576) : Meets Tryd.prog 72 [.one (sGNode xs), .one (sGNode xs)] [.one (vb true)] := by
  have hl : xs.length ≤ 1048576 := by simp only [wS] at hx; omega
  refine enterW tbl_ok false Tryd.func72 rfl (by decide) fun W => ?_
  conv => whnf
  refine ⟨fun h => ?_, fun _ => ?_⟩ <;> conv => whnf
  · simp at h
  refine loopW tbl_ok false [] (fun k : Nat => [(5, .c (vi k))]) (fun _ => []) (fun _ => [])
    (fun k => k ≤ xs.length) (fun k => xs.length - k) 0 (Nat.zero_le _) ⟨rfl, trivial⟩ trivial trivial trivial (by kernel_rfl) (fun k hk => ?_)
  conv => whnf
  refine ⟨fun h => ?_, fun h => ?_⟩ <;> simp at h <;> conv => whnf
  · refine drawW rfl [0, 1, 2, 3, 4, 5, 6, 7, 8, 9] (by kernel_rfl) (go tbl_ok false ?_)
    conv => whnf
    refine ⟨by omega, ?_⟩
    conv => whnf
    refine ⟨by omega, ?_⟩
    conv => whnf
    refine callR (eqNode (xs.getD k default) (by have := wS_take_le GNode.w xs k h; simp only [wS] at hx; omega)) rfl (go tbl_ok false ?_)
    conv => whnf
    refine ⟨fun h' => ?_, fun _ => ?_⟩ <;> conv => whnf
    · simp at h'
    refine ⟨by simp only [inR]; omega, ?_⟩
    conv => whnf
    exact loopE [] (k + 1) (by omega) (by omega) ⟨rfl, trivial⟩ trivial trivial (by kernel_rfl) trivial (by kernel_rfl)
  · exact retW tbl_ok rfl rfl ⟨rfl, trivial⟩

theorem eqGraph (x : GGraph) (h : x.w ≤ 1048576) : Meets Tryd.prog 35 [.agg x.c, .agg x.c] [.one (vb true)] := by
  refine enterW tbl_ok false Tryd.func35 rfl (by decide) fun W => ?_
  conv => whnf
  refine callR (eqNodeS x.nodes (by simp only [GGraph.w] at h; omega)) rfl (go tbl_ok false ?_)
  conv => whnf
  refine ⟨fun h => ?_, fun _ => ?_⟩ <;> conv => whnf
  · simp at h
  refine ⟨fun h => ?_, fun _ => ?_⟩ <;> conv => whnf
  · simp at h
  refine ⟨fun h => ?_, fun _ => ?_⟩ <;> conv => whnf
  · simp at h
  exact retW tbl_ok rfl rfl ⟨rfl, trivial⟩

theorem eqStamp (x : GStamp) : Meets Tryd.prog 96 [.agg x.c, .agg x.c] [.one (vb true)] := by
  refine enterW tbl_ok false Tryd.func96 rfl (by decide) fun W => ?_
  conv => whnf
  refine ⟨fun h => ?_, fun _ => ?_⟩ <;> conv => whnf
  · simp at h
  refine ⟨fun h => ?_, fun _ => ?_⟩ <;> conv => whnf
  · simp at h
  exact retW tbl_ok rfl rfl ⟨rfl, trivial⟩

theorem eqRecord (x : GRecord) : Meets Tryd.prog 73 [.agg x.c, .agg x.c] [.one (vb true)] := by
  refine enterW tbl_ok false Tryd.func73 rfl (by decide) fun W => ?_
  conv => whnf
  refine ⟨fun h => ?_, fun _ => ?_⟩ <;> conv => whnf
  · simp at h
  refine callR (eqStamp x.stamp) rfl (go tbl_ok false ?_)
  conv => whnf
  refine ⟨fun h => ?_, fun _ => ?_⟩ <;> conv => whnf
  · simp at h
  refine ⟨fun h => ?_, fun _ => ?_⟩ <;> conv => whnf
  · simp at h
  refine ⟨fun h => ?_, fun _ => ?_⟩ <;> conv => whnf
  · simp at h
  exact retW tbl_ok rfl rfl ⟨rfl, trivial⟩

theorem eqRecordS (xs : List GRecord) (hx : xs.length ≤ 1048576) : Meets Tryd.prog 36 [.one (sGRecord xs), .one (sGRecord xs)] [.one (vb true)] := by
  have hl := hx
  refine enterW tbl_ok false Tryd.func36 rfl (by decide) fun W => ?_
  conv => whnf
  refine ⟨fun h => ?_, fun _ => ?_⟩ <;> conv => whnf
  · simp at h
  refine loopW tbl_ok false [] (fun k : Nat => [(5, .c (vi k))]) (fun _ => []) (fun _ => [])
    (fun k => k ≤ xs.length) (fun k => xs.length - k) 0 (Nat.zero_le _) ⟨rfl, trivial⟩ trivial trivial trivial (by kernel_rfl) (fun k hk => ?_)
  conv => whnf
  refine ⟨fun h => ?_, fun h => ?_⟩ <;> simp at h <;> conv => whnf
  · refine drawW rfl [0, 1, 2, 3, 4, 5, 6, 7, 8, 9] (by kernel_rfl) (go tbl_ok false ?_)
    conv => whnf
    refine ⟨by omega, ?_⟩
    conv => whnf
    refine ⟨by omega, ?_⟩
    conv => whnf
    refine callR (eqRecord (xs.getD k default)) rfl (go tbl_ok false ?_)
    conv => whnf
    refine ⟨fun h' => ?_, fun _ => ?_⟩ <;> conv => whnf
    · simp at h'
    refine ⟨by simp only [inR]; omega, ?_⟩
    conv => whnf
    exact loopE [] (k + 1) (by omega) (by omega) ⟨rfl, trivial⟩ trivial trivial (by kernel_rfl) trivial (by kernel_rfl)
  · exact retW tbl_ok rfl rfl ⟨rfl, trivial⟩

theorem eqPick (x : GPick) : Meets Tryd.prog 74 [.agg x.c, .agg x.c] [.one (vb true)] := by
  refine enterW tbl_ok false Tryd.func74 rfl (by decide) fun W => ?_
  conv => whnf
  refine ⟨fun h => ?_, fun _ => ?_⟩ <;> conv => whnf
  · simp at h
  refine ⟨fun h => ?_, fun _ => ?_⟩ <;> conv => whnf
  · simp at h
  refine ⟨fun h => ?_, fun _ => ?_⟩ <;> conv => whnf
  · simp at h
  exact retW tbl_ok rfl rfl ⟨rfl, trivial⟩

theorem eqPickS (xs : List GPick) (hx : xs.length ≤ 1048576) : Meets Tryd.prog 37 [.one (sGPick xs), .one (sGPick xs)] [.one (vb true)] := by
  have hl := hx
  refine enterW tbl_ok false Tryd.func37 rfl (by decide) fun W => ?_
  conv => whnf
  refine ⟨fun h => ?_, fun _ => ?_⟩ <;> conv => whnf
  · simp at h
  refine loopW tbl_ok false [] (fun k : Nat => [(5, .c (vi k))]) (fun _ => []) (fun _ => [])
    (fun k => k ≤ xs.length) (fun k => xs.length - k) 0 (Nat.zero_le _) ⟨rfl, trivial⟩ trivial trivial trivial (by kernel_rfl) (fun k hk => ?_)
  conv => whnf
  refine ⟨fun h => ?_, fun h => ?_⟩ <;> simp at h <;> conv => whnf
  · refine drawW rfl [0, 1, 2, 3, 4, 5, 6, 7, 8, 9] (by kernel_rfl) (go tbl_ok false ?_)
    conv => whnf
    refine ⟨by omega, ?_⟩
    conv => whnf
    refine ⟨by omega, ?_⟩
    conv => whnf
    refine callR (eqPick (xs.getD k default)) rfl (go tbl_ok false ?_)
    conv => whnf
    refine ⟨fun h' => ?_, fun _ => ?_⟩ <;> conv => whnf
    · simp at h'
    refine ⟨by simp only [inR]; omega, ?_⟩
    conv => whnf
    exact loopE [] (k + 1) (by omega) (by omega) ⟨rfl, trivial⟩ trivial trivial (by kernel_rfl) trivial (by kernel_rfl)
  · exact retW tbl_ok rfl rfl ⟨rfl, trivial⟩

theorem eqScript (x : GScript) (h : x.w ≤ 1048576) : Meets Tryd.prog 10 [.agg x.c, .agg x.c] [.one (vb true)] := by
  refine enterW tbl_ok false Tryd.func10 rfl (by decide) fun W => ?_
  conv => whnf
  refine callR (eqGraph x.graph (by simp only [GScript.w] at h; omega)) rfl (go tbl_ok false ?_)
  conv => whnf
  refine ⟨fun h => ?_, fun _ => ?_⟩ <;> conv => whnf
  · simp at h
  refine callR (eqRecordS x.inputs (by simp only [GScript.w] at h; omega)) rfl (go tbl_ok false ?_)
  conv => whnf
  refine ⟨fun h => ?_, fun _ => ?_⟩ <;> conv => whnf
  · simp at h
  refine callR (eqPickS x.picks (by simp only [GScript.w] at h; omega)) rfl (go tbl_ok false ?_)
  conv => whnf
  refine ⟨fun h => ?_, fun _ => ?_⟩ <;> conv => whnf
  · simp at h
  refine ⟨fun h => ?_, fun _ => ?_⟩ <;> conv => whnf
  · simp at h
  exact retW tbl_ok rfl rfl ⟨rfl, trivial⟩

theorem szCellS (xs : List GCell) (left : Int) (ho : xs.length ≤ maxLen) (h0 : 0 ≤ left) (h1 : left ≤ 1048576) : Meets Tryd.prog 98 [.one (sGCell xs), .one (vi left)] [.one (vi (szR (xs.length) left))] := by
  have hl : xs.length ≤ 9223372036854775807 := ho
  refine enterW tbl_ok false Tryd.func98 rfl (by decide) fun W => ?_
  conv => whnf
  refine ⟨by simp only [inR]; omega, ?_⟩
  conv => whnf
  refine ⟨fun h => ?_, fun h => ?_⟩ <;> simp only [decide_eq_true_eq, decide_eq_false_iff_not] at h <;> conv => whnf
  · refine retW tbl_ok rfl rfl ⟨?_, trivial⟩
    conv => whnf
    rw [szR_neg (by omega)]
  · refine retW tbl_ok rfl rfl ⟨?_, trivial⟩
    conv => whnf
    rw [szR_pos (by omega)]

theorem szBoolS (xs : List Bool) (left : Int) (ho : xs.length ≤ maxLen) (h0 : 0 ≤ left) (h1 : left ≤ 1048576) : Meets Tryd.prog 100 [.one (sBool xs), .one (vi left)] [.one (vi (szR (xs.length) left))] := by
  have hl : xs.length ≤ 9223372036854775807 := ho
  refine enterW tbl_ok false Tryd.func100 rfl (by decide) fun W => ?_
  conv => whnf
  refine ⟨by simp only [inR]; omega, ?_⟩
  conv => whnf
  refine ⟨fun h => ?_, fun h => ?_⟩ <;> simp only [decide_eq_true_eq, decide_eq_false_iff_not] at h <;> conv => whnf
  · refine retW tbl_ok rfl rfl ⟨?_, trivial⟩
    conv => whnf
    rw [szR_neg (by omega)]
  · refine retW tbl_ok rfl rfl ⟨?_, trivial⟩
    conv => whnf
    rw [szR_pos (by omega)]

theorem szDoneS (xs : List GDone) (left : Int) (ho : xs.length ≤ maxLen) (h0 : 0 ≤ left) (h1 : left ≤ 1048576) : Meets Tryd.prog 101 [.one (sGDone xs), .one (vi left)] [.one (vi (szR (xs.length) left))] := by
  have hl : xs.length ≤ 9223372036854775807 := ho
  refine enterW tbl_ok false Tryd.func101 rfl (by decide) fun W => ?_
  conv => whnf
  refine ⟨by simp only [inR]; omega, ?_⟩
  conv => whnf
  refine ⟨fun h => ?_, fun h => ?_⟩ <;> simp only [decide_eq_true_eq, decide_eq_false_iff_not] at h <;> conv => whnf
  · refine retW tbl_ok rfl rfl ⟨?_, trivial⟩
    conv => whnf
    rw [szR_neg (by omega)]
  · refine retW tbl_ok rfl rfl ⟨?_, trivial⟩
    conv => whnf
    rw [szR_pos (by omega)]

theorem szWorker (x : GWorker) (left : Int) (ho : x.ok) (h0 : 0 ≤ left) (h1 : left ≤ 1048576) : Meets Tryd.prog 76 [.agg x.c, .one (vi left)] [.one (vi (szR x.w left))] := by
  have hw : x.w = x.queue.length + x.staged.length + x.inputs.length + x.cells.length + x.sums.length + x.black.length + x.caps.length + x.dones.length := rfl
  obtain ⟨o_queue, o_staged, o_inputs, o_cells, o_sums, o_black, o_caps, o_dones⟩ := ho
  refine enterW tbl_ok false Tryd.func76 rfl (by decide) fun W => ?_
  conv => whnf
  refine callR (szRecordS x.queue (left) o_queue.1 (by omega) (by omega)) rfl (go tbl_ok false ?_)
  conv => whnf
  refine ⟨fun h => ?_, fun h => ?_⟩ <;> simp only [decide_eq_true_eq, decide_eq_false_iff_not] at h <;> conv => whnf
  · refine retW tbl_ok rfl rfl ⟨?_, trivial⟩
    conv => whnf
    have h := szR_lt h (by omega)
    rw [szR_neg (by omega)]
  have h_queue := szR_ge h
  rw [szR_pos h_queue]
  refine callR (szRecordS x.staged (left - (x.queue.length : Nat)) o_staged.1 (by omega) (by omega)) rfl (go tbl_ok false ?_)
  conv => whnf
  refine ⟨fun h => ?_, fun h => ?_⟩ <;> simp only [decide_eq_true_eq, decide_eq_false_iff_not] at h <;> conv => whnf
  · refine retW tbl_ok rfl rfl ⟨?_, trivial⟩
    conv => whnf
    have h := szR_lt h (by omega)
    rw [szR_neg (by omega)]
  have h_staged := szR_ge h
  rw [szR_pos h_staged]
  refine callR (szRecordS x.inputs (left - (x.queue.length : Nat) - (x.staged.length : Nat)) o_inputs.1 (by omega) (by omega)) rfl (go tbl_ok false ?_)
  conv => whnf
  refine ⟨fun h => ?_, fun h => ?_⟩ <;> simp only [decide_eq_true_eq, decide_eq_false_iff_not] at h <;> conv => whnf
  · refine retW tbl_ok rfl rfl ⟨?_, trivial⟩
    conv => whnf
    have h := szR_lt h (by omega)
    rw [szR_neg (by omega)]
  have h_inputs := szR_ge h
  rw [szR_pos h_inputs]
  refine callR (szCellS x.cells (left - (x.queue.length : Nat) - (x.staged.length : Nat) - (x.inputs.length : Nat)) o_cells.1 (by omega) (by omega)) rfl (go tbl_ok false ?_)
  conv => whnf
  refine ⟨fun h => ?_, fun h => ?_⟩ <;> simp only [decide_eq_true_eq, decide_eq_false_iff_not] at h <;> conv => whnf
  · refine retW tbl_ok rfl rfl ⟨?_, trivial⟩
    conv => whnf
    have h := szR_lt h (by omega)
    rw [szR_neg (by omega)]
  have h_cells := szR_ge h
  rw [szR_pos h_cells]
  refine callR (szIntS x.sums (left - (x.queue.length : Nat) - (x.staged.length : Nat) - (x.inputs.length : Nat) - (x.cells.length : Nat)) o_sums.1 (by omega) (by omega)) rfl (go tbl_ok false ?_)
  conv => whnf
  refine ⟨fun h => ?_, fun h => ?_⟩ <;> simp only [decide_eq_true_eq, decide_eq_false_iff_not] at h <;> conv => whnf
  · refine retW tbl_ok rfl rfl ⟨?_, trivial⟩
    conv => whnf
    have h := szR_lt h (by omega)
    rw [szR_neg (by omega)]
  have h_sums := szR_ge h
  rw [szR_pos h_sums]
  refine callR (szBoolS x.black (left - (x.queue.length : Nat) - (x.staged.length : Nat) - (x.inputs.length : Nat) - (x.cells.length : Nat) - (x.sums.length : Nat)) o_black (by omega) (by omega)) rfl (go tbl_ok false ?_)
  conv => whnf
  refine ⟨fun h => ?_, fun h => ?_⟩ <;> simp only [decide_eq_true_eq, decide_eq_false_iff_not] at h <;> conv => whnf
  · refine retW tbl_ok rfl rfl ⟨?_, trivial⟩
    conv => whnf
    have h := szR_lt h (by omega)
    rw [szR_neg (by omega)]
  have h_black := szR_ge h
  rw [szR_pos h_black]
  refine callR (szBoolS x.caps (left - (x.queue.length : Nat) - (x.staged.length : Nat) - (x.inputs.length : Nat) - (x.cells.length : Nat) - (x.sums.length : Nat) - (x.black.length : Nat)) o_caps (by omega) (by omega)) rfl (go tbl_ok false ?_)
  conv => whnf
  refine ⟨fun h => ?_, fun h => ?_⟩ <;> simp only [decide_eq_true_eq, decide_eq_false_iff_not] at h <;> conv => whnf
  · refine retW tbl_ok rfl rfl ⟨?_, trivial⟩
    conv => whnf
    have h := szR_lt h (by omega)
    rw [szR_neg (by omega)]
  have h_caps := szR_ge h
  rw [szR_pos h_caps]
  refine callR (szDoneS x.dones (left - (x.queue.length : Nat) - (x.staged.length : Nat) - (x.inputs.length : Nat) - (x.cells.length : Nat) - (x.sums.length : Nat) - (x.black.length : Nat) - (x.caps.length : Nat)) o_dones.1 (by omega) (by omega)) rfl (go tbl_ok false ?_)
  conv => whnf
  refine ⟨fun h => ?_, fun h => ?_⟩ <;> simp only [decide_eq_true_eq, decide_eq_false_iff_not] at h <;> conv => whnf
  · refine retW tbl_ok rfl rfl ⟨?_, trivial⟩
    conv => whnf
    have h := szR_lt h (by omega)
    rw [szR_neg (by omega)]
  have h_dones := szR_ge h
  rw [szR_pos h_dones]
  refine retW tbl_ok rfl rfl ⟨?_, trivial⟩
  conv => whnf
  rw [szR_pos (by omega)]
  exact congrArg vi (by omega)

theorem szWorkerS (xs : List GWorker) (left : Int) (ho : xs.length ≤ maxLen ∧ ∀ y ∈ xs, GWorker.ok y) (h0 : 0 ≤ left) (h1 : left ≤ 1048576) : Meets Tryd.prog 42 [.one (sGWorker xs), .one (vi left)] [.one (vi (szR (wS GWorker.w xs) left))] := by
  have hl : xs.length ≤ 9223372036854775807 := ho.1
  refine enterW tbl_ok false Tryd.func42 rfl (by decide) fun W => ?_
  conv => whnf
  refine ⟨by simp only [inR]; omega, ?_⟩
  conv => whnf
  refine ⟨fun h => ?_, fun h => ?_⟩ <;> simp only [decide_eq_true_eq, decide_eq_false_iff_not] at h <;> conv => whnf
  · refine retW tbl_ok rfl rfl ⟨?_, trivial⟩
    conv => whnf
    rw [szR_neg (by rw [wS_eq]; omega)]
  refine loopW tbl_ok false [] (fun k : Nat => [(1, .c (vi (left - xs.length - (((xs.take k).map GWorker.w).sum : Nat)))), (5, .c (vi k))]) (fun _ => []) (fun _ => [])
    (fun k => k ≤ xs.length ∧ 0 ≤ left - xs.length - (((xs.take k).map GWorker.w).sum : Nat)) (fun k => xs.length - k) 0 ⟨Nat.zero_le _, by simp; omega⟩ ⟨by simp [nth, ren2, ren1, ren0], rfl, trivial⟩ trivial trivial trivial (by kernel_rfl) (fun k hk => ?_)
  obtain ⟨hk, hp⟩ := hk
  conv => whnf
  refine ⟨fun h => ?_, fun h => ?_⟩ <;> simp only [decide_eq_true_eq, decide_eq_false_iff_not] at h <;> conv => whnf
  · have h : k < xs.length := by omega
    have hle := wS_take_le GWorker.w xs k h
    have hst := wS_take GWorker.w xs k h
    refine ⟨by omega, ?_⟩
    conv => whnf
    refine callR (szWorker (xs.getD k default) _ (ho.2 _ (by rw [List.getD, List.getElem?_eq_getElem h]; exact List.getElem_mem h)) hp (by omega)) rfl (go tbl_ok false ?_)
    conv => whnf
    refine ⟨fun h' => ?_, fun h' => ?_⟩ <;> simp only [decide_eq_true_eq, decide_eq_false_iff_not] at h' <;> conv => whnf
    · refine retW tbl_ok rfl rfl ⟨?_, trivial⟩
      conv => whnf
      have h' := szR_lt h' hp
      rw [szR_neg (by rw [wS_eq]; omega)]
    · have h' := szR_ge h'
      refine ⟨by simp only [inR]; omega, ?_⟩
      conv => whnf
      refine loopE [] (k + 1) ⟨by omega, by omega⟩ (by omega) ⟨?_, rfl, trivial⟩ trivial trivial (by kernel_rfl) trivial (by kernel_rfl)
      conv => whnf
      rw [szR_pos h']
      exact congrArg (fun n => AV.c (vi n)) (by omega)
  · refine retW tbl_ok rfl rfl ⟨?_, trivial⟩
    conv => whnf
    have := wS_all GWorker.w xs k (by omega)
    rw [szR_pos (by rw [wS_eq]; omega)]
    exact congrArg vi (by rw [wS_eq]; omega)

theorem szLink (x : GLink) (left : Int) (ho : x.ok) (h0 : 0 ≤ left) (h1 : left ≤ 1048576) : Meets Tryd.prog 77 [.agg x.c, .one (vi left)] [.one (vi (szR x.w left))] := by
  have hw : x.w = x.queue.length := rfl
  obtain ⟨o_cap, o_queue, o_credits, o_back, o_sent, o_got⟩ := ho
  refine enterW tbl_ok false Tryd.func77 rfl (by decide) fun W => ?_
  conv => whnf
  refine callR (szRecordS x.queue (left) o_queue.1 (by omega) (by omega)) rfl (go tbl_ok false ?_)
  conv => whnf
  refine ⟨fun h => ?_, fun h => ?_⟩ <;> simp only [decide_eq_true_eq, decide_eq_false_iff_not] at h <;> conv => whnf
  · refine retW tbl_ok rfl rfl ⟨?_, trivial⟩
    conv => whnf
    have h := szR_lt h (by omega)
    rw [szR_neg (by omega)]
  have h_queue := szR_ge h
  rw [szR_pos h_queue]
  refine retW tbl_ok rfl rfl ⟨?_, trivial⟩
  conv => whnf
  rw [szR_pos (by omega)]
  exact congrArg vi (by omega)

theorem szLinkS (xs : List GLink) (left : Int) (ho : xs.length ≤ maxLen ∧ ∀ y ∈ xs, GLink.ok y) (h0 : 0 ≤ left) (h1 : left ≤ 1048576) : Meets Tryd.prog 43 [.one (sGLink xs), .one (vi left)] [.one (vi (szR (wS GLink.w xs) left))] := by
  have hl : xs.length ≤ 9223372036854775807 := ho.1
  refine enterW tbl_ok false Tryd.func43 rfl (by decide) fun W => ?_
  conv => whnf
  refine ⟨by simp only [inR]; omega, ?_⟩
  conv => whnf
  refine ⟨fun h => ?_, fun h => ?_⟩ <;> simp only [decide_eq_true_eq, decide_eq_false_iff_not] at h <;> conv => whnf
  · refine retW tbl_ok rfl rfl ⟨?_, trivial⟩
    conv => whnf
    rw [szR_neg (by rw [wS_eq]; omega)]
  refine loopW tbl_ok false [] (fun k : Nat => [(1, .c (vi (left - xs.length - (((xs.take k).map GLink.w).sum : Nat)))), (5, .c (vi k))]) (fun _ => []) (fun _ => [])
    (fun k => k ≤ xs.length ∧ 0 ≤ left - xs.length - (((xs.take k).map GLink.w).sum : Nat)) (fun k => xs.length - k) 0 ⟨Nat.zero_le _, by simp; omega⟩ ⟨by simp [nth, ren2, ren1, ren0], rfl, trivial⟩ trivial trivial trivial (by kernel_rfl) (fun k hk => ?_)
  obtain ⟨hk, hp⟩ := hk
  conv => whnf
  refine ⟨fun h => ?_, fun h => ?_⟩ <;> simp only [decide_eq_true_eq, decide_eq_false_iff_not] at h <;> conv => whnf
  · have h : k < xs.length := by omega
    have hle := wS_take_le GLink.w xs k h
    have hst := wS_take GLink.w xs k h
    refine ⟨by omega, ?_⟩
    conv => whnf
    refine callR (szLink (xs.getD k default) _ (ho.2 _ (by rw [List.getD, List.getElem?_eq_getElem h]; exact List.getElem_mem h)) hp (by omega)) rfl (go tbl_ok false ?_)
    conv => whnf
    refine ⟨fun h' => ?_, fun h' => ?_⟩ <;> simp only [decide_eq_true_eq, decide_eq_false_iff_not] at h' <;> conv => whnf
    · refine retW tbl_ok rfl rfl ⟨?_, trivial⟩
      conv => whnf
      have h' := szR_lt h' hp
      rw [szR_neg (by rw [wS_eq]; omega)]
    · have h' := szR_ge h'
      refine ⟨by simp only [inR]; omega, ?_⟩
      conv => whnf
      refine loopE [] (k + 1) ⟨by omega, by omega⟩ (by omega) ⟨?_, rfl, trivial⟩ trivial trivial (by kernel_rfl) trivial (by kernel_rfl)
      conv => whnf
      rw [szR_pos h']
      exact congrArg (fun n => AV.c (vi n)) (by omega)
  · refine retW tbl_ok rfl rfl ⟨?_, trivial⟩
    conv => whnf
    have := wS_all GLink.w xs k (by omega)
    rw [szR_pos (by rw [wS_eq]; omega)]
    exact congrArg vi (by rw [wS_eq]; omega)

theorem szTokenS (xs : List GToken) (left : Int) (ho : xs.length ≤ maxLen) (h0 : 0 ≤ left) (h1 : left ≤ 1048576) : Meets Tryd.prog 44 [.one (sGToken xs), .one (vi left)] [.one (vi (szR (xs.length) left))] := by
  have hl : xs.length ≤ 9223372036854775807 := ho
  refine enterW tbl_ok false Tryd.func44 rfl (by decide) fun W => ?_
  conv => whnf
  refine ⟨by simp only [inR]; omega, ?_⟩
  conv => whnf
  refine ⟨fun h => ?_, fun h => ?_⟩ <;> simp only [decide_eq_true_eq, decide_eq_false_iff_not] at h <;> conv => whnf
  · refine retW tbl_ok rfl rfl ⟨?_, trivial⟩
    conv => whnf
    rw [szR_neg (by omega)]
  · refine retW tbl_ok rfl rfl ⟨?_, trivial⟩
    conv => whnf
    rw [szR_pos (by omega)]

theorem szNewsS (xs : List GNews) (left : Int) (ho : xs.length ≤ maxLen) (h0 : 0 ≤ left) (h1 : left ≤ 1048576) : Meets Tryd.prog 45 [.one (sGNews xs), .one (vi left)] [.one (vi (szR (xs.length) left))] := by
  have hl : xs.length ≤ 9223372036854775807 := ho
  refine enterW tbl_ok false Tryd.func45 rfl (by decide) fun W => ?_
  conv => whnf
  refine ⟨by simp only [inR]; omega, ?_⟩
  conv => whnf
  refine ⟨fun h => ?_, fun h => ?_⟩ <;> simp only [decide_eq_true_eq, decide_eq_false_iff_not] at h <;> conv => whnf
  · refine retW tbl_ok rfl rfl ⟨?_, trivial⟩
    conv => whnf
    rw [szR_neg (by omega)]
  · refine retW tbl_ok rfl rfl ⟨?_, trivial⟩
    conv => whnf
    rw [szR_pos (by omega)]

theorem szCluster (x : GCluster) (left : Int) (ho : x.ok) (h0 : 0 ≤ left) (h1 : left ≤ 1048576) : Meets Tryd.prog 14 [.agg x.c, .one (vi left)] [.one (vi (szR x.w left))] := by
  have hw : x.w = x.graph.w + wS GWorker.w x.workers + wS GLink.w x.links + x.tokens.length + x.news.length := rfl
  obtain ⟨o_graph, o_workers, o_links, o_tokens, o_news⟩ := ho
  refine enterW tbl_ok false Tryd.func14 rfl (by decide) fun W => ?_
  conv => whnf
  refine callR (szGraph x.graph (left) o_graph (by omega) (by omega)) rfl (go tbl_ok false ?_)
  conv => whnf
  refine ⟨fun h => ?_, fun h => ?_⟩ <;> simp only [decide_eq_true_eq, decide_eq_false_iff_not] at h <;> conv => whnf
  · refine retW tbl_ok rfl rfl ⟨?_, trivial⟩
    conv => whnf
    have h := szR_lt h (by omega)
    rw [szR_neg (by omega)]
  have h_graph := szR_ge h
  rw [szR_pos h_graph]
  refine callR (szWorkerS x.workers (left - (x.graph.w : Nat)) o_workers (by omega) (by omega)) rfl (go tbl_ok false ?_)
  conv => whnf
  refine ⟨fun h => ?_, fun h => ?_⟩ <;> simp only [decide_eq_true_eq, decide_eq_false_iff_not] at h <;> conv => whnf
  · refine retW tbl_ok rfl rfl ⟨?_, trivial⟩
    conv => whnf
    have h := szR_lt h (by omega)
    rw [szR_neg (by omega)]
  have h_workers := szR_ge h
  rw [szR_pos h_workers]
  refine callR (szLinkS x.links (left - (x.graph.w : Nat) - (wS GWorker.w x.workers : Nat)) o_links (by omega) (by omega)) rfl (go tbl_ok false ?_)
  conv => whnf
  refine ⟨fun h => ?_, fun h => ?_⟩ <;> simp only [decide_eq_true_eq, decide_eq_false_iff_not] at h <;> conv => whnf
  · refine retW tbl_ok rfl rfl ⟨?_, trivial⟩
    conv => whnf
    have h := szR_lt h (by omega)
    rw [szR_neg (by omega)]
  have h_links := szR_ge h
  rw [szR_pos h_links]
  refine callR (szTokenS x.tokens (left - (x.graph.w : Nat) - (wS GWorker.w x.workers : Nat) - (wS GLink.w x.links : Nat)) o_tokens.1 (by omega) (by omega)) rfl (go tbl_ok false ?_)
  conv => whnf
  refine ⟨fun h => ?_, fun h => ?_⟩ <;> simp only [decide_eq_true_eq, decide_eq_false_iff_not] at h <;> conv => whnf
  · refine retW tbl_ok rfl rfl ⟨?_, trivial⟩
    conv => whnf
    have h := szR_lt h (by omega)
    rw [szR_neg (by omega)]
  have h_tokens := szR_ge h
  rw [szR_pos h_tokens]
  refine callR (szNewsS x.news (left - (x.graph.w : Nat) - (wS GWorker.w x.workers : Nat) - (wS GLink.w x.links : Nat) - (x.tokens.length : Nat)) o_news.1 (by omega) (by omega)) rfl (go tbl_ok false ?_)
  conv => whnf
  refine ⟨fun h => ?_, fun h => ?_⟩ <;> simp only [decide_eq_true_eq, decide_eq_false_iff_not] at h <;> conv => whnf
  · refine retW tbl_ok rfl rfl ⟨?_, trivial⟩
    conv => whnf
    have h := szR_lt h (by omega)
    rw [szR_neg (by omega)]
  have h_news := szR_ge h
  rw [szR_pos h_news]
  refine retW tbl_ok rfl rfl ⟨?_, trivial⟩
  conv => whnf
  rw [szR_pos (by omega)]
  exact congrArg vi (by omega)

theorem toCell (x : GCell) : Meets Tryd.prog 111 [.agg x.c] [.agg x.c] := by
  refine enterW tbl_ok false Tryd.func111 rfl (by decide) fun W => ?_
  conv => whnf
  exact retW tbl_ok rfl rfl ⟨⟨rfl, rfl, rfl, rfl, trivial⟩, trivial⟩

theorem toCellS (xs : List GCell) (hx : xs.length ≤ 1048576) : Meets Tryd.prog 102 [.one (sGCell xs)] [.one (sGCell xs)] := by
  have hl := hx
  refine enterW tbl_ok false Tryd.func102 rfl (by decide) fun W => ?_
  conv => whnf
  refine ⟨by omega, ?_⟩
  conv => whnf
  refine castW 0 (sGCell (List.replicate xs.length default)) rfl (cast_make (α := GCell) (e := GCell.c) xs.length ⟨.inl rfl, .inl rfl, .inl rfl, .inl rfl, trivial⟩) ?_
  refine loopW tbl_ok false [] (fun k : Nat => [(4, .c (vi k))]) (fun _ => []) (fun k => [⟨0, sGCell (xs.take k ++ List.replicate (xs.length - k) default)⟩])
    (fun k => k ≤ xs.length) (fun k => xs.length - k) 0 (Nat.zero_le _) ⟨rfl, trivial⟩ trivial ⟨?_, trivial⟩ trivial (by kernel_rfl) (fun k hk => ?_)
  · conv => whnf
    exact rep_start (e := GCell.c) xs
  conv => whnf
  refine ⟨fun h => ?_, fun h => ?_⟩ <;> simp at h <;> conv => whnf
  · refine ⟨by omega, ?_⟩
    conv => whnf
    refine callW (toCell (xs.getD k default)) rfl (go tbl_ok false ?_)
    conv => whnf
    refine ⟨by simp; omega, ?_⟩
    conv => whnf
    refine storeW tbl_ok rfl rfl rfl rfl rfl rfl rfl rfl _ (slC_set (xs := xs.take k ++ List.replicate (xs.length - k) default) (x := xs.getD k default) (e := GCell.c) (by simp; omega) ?_) (go tbl_ok false ?_)
    · rfl
    conv => whnf
    refine ⟨by simp only [inR]; omega, ?_⟩
    conv => whnf
    refine loopE [] (k + 1) (by omega) (by omega) ⟨rfl, trivial⟩ ⟨?_, trivial⟩ trivial (by kernel_rfl) trivial (by kernel_rfl)
    conv => whnf
    exact congrArg (slC 4 GCell.c) (take_rep_set xs k default h)
  · exact retW tbl_ok rfl rfl ⟨by conv => whnf
                                  rw [take_rep_end _ _ _ (by omega)], trivial⟩

theorem toBoolS (xs : List Bool) (hx : xs.length ≤ 1048576) : Meets Tryd.prog 104 [.one (sBool xs)] [.one (sBool xs)] := by
  have hl := hx
  refine enterW tbl_ok false Tryd.func104 rfl (by decide) fun W => ?_
  conv => whnf
  refine ⟨by omega, ?_⟩
  conv => whnf
  refine castW 0 (sBool (List.replicate xs.length default)) rfl (cast_make (α := Bool) (e := (fun b => [vb b])) xs.length ⟨.inl rfl, trivial⟩) ?_
  refine loopW tbl_ok false [] (fun k : Nat => [(4, .c (vi k))]) (fun _ => []) (fun k => [⟨0, sBool (xs.take k ++ List.replicate (xs.length - k) default)⟩])
    (fun k => k ≤ xs.length) (fun k => xs.length - k) 0 (Nat.zero_le _) ⟨rfl, trivial⟩ trivial ⟨?_, trivial⟩ trivial (by kernel_rfl) (fun k hk => ?_)
  · conv => whnf
    exact rep_start (e := (fun b => [vb b])) xs
  conv => whnf
  refine ⟨fun h => ?_, fun h => ?_⟩ <;> simp at h <;> conv => whnf
  · refine ⟨by omega, ?_⟩
    conv => whnf
    refine ⟨by simp; omega, ?_⟩
    conv => whnf
    refine storeW tbl_ok rfl rfl rfl rfl rfl rfl rfl rfl _ (slC_set (xs := xs.take k ++ List.replicate (xs.length - k) default) (x := xs.getD k default) (e := (fun b => [vb b])) (by simp; omega) ?_) (go tbl_ok false ?_)
    · rfl
    conv => whnf
    refine ⟨by simp only [inR]; omega, ?_⟩
    conv => whnf
    refine loopE [] (k + 1) (by omega) (by omega) ⟨rfl, trivial⟩ ⟨?_, trivial⟩ trivial (by kernel_rfl) trivial (by kernel_rfl)
    conv => whnf
    exact congrArg (slC 1 (fun b => [vb b])) (take_rep_set xs k default h)
  · exact retW tbl_ok rfl rfl ⟨by conv => whnf
                                  rw [take_rep_end _ _ _ (by omega)], trivial⟩

theorem toDone (x : GDone) : Meets Tryd.prog 112 [.agg x.c] [.agg x.c] := by
  refine enterW tbl_ok false Tryd.func112 rfl (by decide) fun W => ?_
  conv => whnf
  exact retW tbl_ok rfl rfl ⟨⟨rfl, rfl, trivial⟩, trivial⟩

theorem toDoneS (xs : List GDone) (hx : xs.length ≤ 1048576) : Meets Tryd.prog 105 [.one (sGDone xs)] [.one (sGDone xs)] := by
  have hl := hx
  refine enterW tbl_ok false Tryd.func105 rfl (by decide) fun W => ?_
  conv => whnf
  refine ⟨by omega, ?_⟩
  conv => whnf
  refine castW 0 (sGDone (List.replicate xs.length default)) rfl (cast_make (α := GDone) (e := GDone.c) xs.length ⟨.inl rfl, .inl rfl, trivial⟩) ?_
  refine loopW tbl_ok false [] (fun k : Nat => [(4, .c (vi k))]) (fun _ => []) (fun k => [⟨0, sGDone (xs.take k ++ List.replicate (xs.length - k) default)⟩])
    (fun k => k ≤ xs.length) (fun k => xs.length - k) 0 (Nat.zero_le _) ⟨rfl, trivial⟩ trivial ⟨?_, trivial⟩ trivial (by kernel_rfl) (fun k hk => ?_)
  · conv => whnf
    exact rep_start (e := GDone.c) xs
  conv => whnf
  refine ⟨fun h => ?_, fun h => ?_⟩ <;> simp at h <;> conv => whnf
  · refine ⟨by omega, ?_⟩
    conv => whnf
    refine callW (toDone (xs.getD k default)) rfl (go tbl_ok false ?_)
    conv => whnf
    refine ⟨by simp; omega, ?_⟩
    conv => whnf
    refine storeW tbl_ok rfl rfl rfl rfl rfl rfl rfl rfl _ (slC_set (xs := xs.take k ++ List.replicate (xs.length - k) default) (x := xs.getD k default) (e := GDone.c) (by simp; omega) ?_) (go tbl_ok false ?_)
    · rfl
    conv => whnf
    refine ⟨by simp only [inR]; omega, ?_⟩
    conv => whnf
    refine loopE [] (k + 1) (by omega) (by omega) ⟨rfl, trivial⟩ ⟨?_, trivial⟩ trivial (by kernel_rfl) trivial (by kernel_rfl)
    conv => whnf
    exact congrArg (slC 2 GDone.c) (take_rep_set xs k default h)
  · exact retW tbl_ok rfl rfl ⟨by conv => whnf
                                  rw [take_rep_end _ _ _ (by omega)], trivial⟩

theorem toWorker (x : GWorker) (h : x.w ≤ 1048576) : Meets Tryd.prog 78 [.agg x.c] [.agg x.c] := by
  refine enterW tbl_ok false Tryd.func78 rfl (by decide) fun W => ?_
  conv => whnf
  refine callW (toRecordS x.queue (by simp only [GWorker.w] at h; omega)) rfl (go tbl_ok false ?_)
  conv => whnf
  refine callW (toRecordS x.staged (by simp only [GWorker.w] at h; omega)) rfl (go tbl_ok false ?_)
  conv => whnf
  refine callW (toRecordS x.inputs (by simp only [GWorker.w] at h; omega)) rfl (go tbl_ok false ?_)
  conv => whnf
  refine callW (toCellS x.cells (by simp only [GWorker.w] at h; omega)) rfl (go tbl_ok false ?_)
  conv => whnf
  refine callW (toIntS x.sums (by simp only [GWorker.w] at h; omega)) rfl (go tbl_ok false ?_)
  conv => whnf
  refine callW (toBoolS x.black (by simp only [GWorker.w] at h; omega)) rfl (go tbl_ok false ?_)
  conv => whnf
  refine callW (toBoolS x.caps (by simp only [GWorker.w] at h; omega)) rfl (go tbl_ok false ?_)
  conv => whnf
  refine callW (toDoneS x.dones (by simp only [GWorker.w] at h; omega)) rfl (go tbl_ok false ?_)
  conv => whnf
  exact retW tbl_ok rfl rfl ⟨⟨rfl, rfl, rfl, rfl, rfl, rfl, rfl, rfl, trivial⟩, trivial⟩

theorem toWorkerS (xs : List GWorker) (hx : wS GWorker.w xs ≤ 1048576) : Meets Tryd.prog 48 [.one (sGWorker xs)] [.one (sGWorker xs)] := by
  have hl : xs.length ≤ 1048576 := by simp only [wS] at hx; omega
  refine enterW tbl_ok false Tryd.func48 rfl (by decide) fun W => ?_
  conv => whnf
  refine ⟨by omega, ?_⟩
  conv => whnf
  refine castW 0 (sGWorker (List.replicate xs.length default)) rfl (cast_make (α := GWorker) (e := GWorker.c) xs.length ⟨.nil _ _, .nil _ _, .nil _ _, .nil _ _, .nil _ _, .nil _ _, .nil _ _, .nil _ _, trivial⟩) ?_
  refine loopW tbl_ok false [] (fun k : Nat => [(4, .c (vi k))]) (fun _ => []) (fun k => [⟨0, sGWorker (xs.take k ++ List.replicate (xs.length - k) default)⟩])
    (fun k => k ≤ xs.length) (fun k => xs.length - k) 0 (Nat.zero_le _) ⟨rfl, trivial⟩ trivial ⟨?_, trivial⟩ trivial (by kernel_rfl) (fun k hk => ?_)
  · conv => whnf
    exact rep_start (e := GWorker.c) xs
  conv => whnf
  refine ⟨fun h => ?_, fun h => ?_⟩ <;> simp at h <;> conv => whnf
  · refine ⟨by omega, ?_⟩
    conv => whnf
    refine callW (toWorker (xs.getD k default) (by have := wS_take_le GWorker.w xs k h; simp only [wS] at hx; omega)) rfl (go tbl_ok false ?_)
    conv => whnf
    refine ⟨by simp; omega, ?_⟩
    conv => whnf
    refine storeW tbl_ok rfl rfl rfl rfl rfl rfl rfl rfl _ (slC_set (xs := xs.take k ++ List.replicate (xs.length - k) default) (x := xs.getD k default) (e := GWorker.c) (by simp; omega) ?_) (go tbl_ok false ?_)
    · rfl
    conv => whnf
    refine ⟨by simp only [inR]; omega, ?_⟩
    conv => whnf
    refine loopE [] (k + 1) (by omega) (by omega) ⟨rfl, trivial⟩ ⟨?_, trivial⟩ trivial (by kernel_rfl) trivial (by kernel_rfl)
    conv => whnf
    exact congrArg (slC 8 GWorker.c) (take_rep_set xs k default h)
  · exact retW tbl_ok rfl rfl ⟨by conv => whnf
                                  rw [take_rep_end _ _ _ (by omega)], trivial⟩

theorem toLink (x : GLink) (h : x.w ≤ 1048576) : Meets Tryd.prog 79 [.agg x.c] [.agg x.c] := by
  refine enterW tbl_ok false Tryd.func79 rfl (by decide) fun W => ?_
  conv => whnf
  refine callW (toRecordS x.queue (by simp only [GLink.w] at h; omega)) rfl (go tbl_ok false ?_)
  conv => whnf
  exact retW tbl_ok rfl rfl ⟨⟨rfl, rfl, rfl, rfl, rfl, rfl, trivial⟩, trivial⟩

theorem toLinkS (xs : List GLink) (hx : wS GLink.w xs ≤ 1048576) : Meets Tryd.prog 49 [.one (sGLink xs)] [.one (sGLink xs)] := by
  have hl : xs.length ≤ 1048576 := by simp only [wS] at hx; omega
  refine enterW tbl_ok false Tryd.func49 rfl (by decide) fun W => ?_
  conv => whnf
  refine ⟨by omega, ?_⟩
  conv => whnf
  refine castW 0 (sGLink (List.replicate xs.length default)) rfl (cast_make (α := GLink) (e := GLink.c) xs.length ⟨.inl rfl, .nil _ _, .inl rfl, .inl rfl, .inl rfl, .inl rfl, trivial⟩) ?_
  refine loopW tbl_ok false [] (fun k : Nat => [(4, .c (vi k))]) (fun _ => []) (fun k => [⟨0, sGLink (xs.take k ++ List.replicate (xs.length - k) default)⟩])
    (fun k => k ≤ xs.length) (fun k => xs.length - k) 0 (Nat.zero_le _) ⟨rfl, trivial⟩ trivial ⟨?_, trivial⟩ trivial (by kernel_rfl) (fun k hk => ?_)
  · conv => whnf
    exact rep_start (e := GLink.c) xs
  conv => whnf
  refine ⟨fun h => ?_, fun h => ?_⟩ <;> simp at h <;> conv => whnf
  · refine ⟨by omega, ?_⟩
    conv => whnf
    refine callW (toLink (xs.getD k default) (by have := wS_take_le GLink.w xs k h; simp only [wS] at hx; omega)) rfl (go tbl_ok false ?_)
    conv => whnf
    refine ⟨by simp; omega, ?_⟩
    conv => whnf
    refine storeW tbl_ok rfl rfl rfl rfl rfl rfl rfl rfl _ (slC_set (xs := xs.take k ++ List.replicate (xs.length - k) default) (x := xs.getD k default) (e := GLink.c) (by simp; omega) ?_) (go tbl_ok false ?_)
    · rfl
    conv => whnf
    refine ⟨by simp only [inR]; omega, ?_⟩
    conv => whnf
    refine loopE [] (k + 1) (by omega) (by omega) ⟨rfl, trivial⟩ ⟨?_, trivial⟩ trivial (by kernel_rfl) trivial (by kernel_rfl)
    conv => whnf
    exact congrArg (slC 6 GLink.c) (take_rep_set xs k default h)
  · exact retW tbl_ok rfl rfl ⟨by conv => whnf
                                  rw [take_rep_end _ _ _ (by omega)], trivial⟩

theorem toToken (x : GToken) : Meets Tryd.prog 80 [.agg x.c] [.agg x.c] := by
  refine enterW tbl_ok false Tryd.func80 rfl (by decide) fun W => ?_
  conv => whnf
  exact retW tbl_ok rfl rfl ⟨⟨rfl, rfl, rfl, rfl, rfl, trivial⟩, trivial⟩

theorem toTokenS (xs : List GToken) (hx : xs.length ≤ 1048576) : Meets Tryd.prog 50 [.one (sGToken xs)] [.one (sGToken xs)] := by
  have hl := hx
  refine enterW tbl_ok false Tryd.func50 rfl (by decide) fun W => ?_
  conv => whnf
  refine ⟨by omega, ?_⟩
  conv => whnf
  refine castW 0 (sGToken (List.replicate xs.length default)) rfl (cast_make (α := GToken) (e := GToken.c) xs.length ⟨.inl rfl, .inl rfl, .inl rfl, .inl rfl, .inl rfl, trivial⟩) ?_
  refine loopW tbl_ok false [] (fun k : Nat => [(4, .c (vi k))]) (fun _ => []) (fun k => [⟨0, sGToken (xs.take k ++ List.replicate (xs.length - k) default)⟩])
    (fun k => k ≤ xs.length) (fun k => xs.length - k) 0 (Nat.zero_le _) ⟨rfl, trivial⟩ trivial ⟨?_, trivial⟩ trivial (by kernel_rfl) (fun k hk => ?_)
  · conv => whnf
    exact rep_start (e := GToken.c) xs
  conv => whnf
  refine ⟨fun h => ?_, fun h => ?_⟩ <;> simp at h <;> conv => whnf
  · refine ⟨by omega, ?_⟩
    conv => whnf
    refine callW (toToken (xs.getD k default)) rfl (go tbl_ok false ?_)
    conv => whnf
    refine ⟨by simp; omega, ?_⟩
    conv => whnf
    refine storeW tbl_ok rfl rfl rfl rfl rfl rfl rfl rfl _ (slC_set (xs := xs.take k ++ List.replicate (xs.length - k) default) (x := xs.getD k default) (e := GToken.c) (by simp; omega) ?_) (go tbl_ok false ?_)
    · rfl
    conv => whnf
    refine ⟨by simp only [inR]; omega, ?_⟩
    conv => whnf
    refine loopE [] (k + 1) (by omega) (by omega) ⟨rfl, trivial⟩ ⟨?_, trivial⟩ trivial (by kernel_rfl) trivial (by kernel_rfl)
    conv => whnf
    exact congrArg (slC 5 GToken.c) (take_rep_set xs k default h)
  · exact retW tbl_ok rfl rfl ⟨by conv => whnf
                                  rw [take_rep_end _ _ _ (by omega)], trivial⟩

theorem toNews (x : GNews) : Meets Tryd.prog 81 [.agg x.c] [.agg x.c] := by
  refine enterW tbl_ok false Tryd.func81 rfl (by decide) fun W => ?_
  conv => whnf
  exact retW tbl_ok rfl rfl ⟨⟨rfl, rfl, rfl, trivial⟩, trivial⟩

theorem toNewsS (xs : List GNews) (hx : xs.length ≤ 1048576) : Meets Tryd.prog 51 [.one (sGNews xs)] [.one (sGNews xs)] := by
  have hl := hx
  refine enterW tbl_ok false Tryd.func51 rfl (by decide) fun W => ?_
  conv => whnf
  refine ⟨by omega, ?_⟩
  conv => whnf
  refine castW 0 (sGNews (List.replicate xs.length default)) rfl (cast_make (α := GNews) (e := GNews.c) xs.length ⟨.inl rfl, .inl rfl, .inl rfl, trivial⟩) ?_
  refine loopW tbl_ok false [] (fun k : Nat => [(4, .c (vi k))]) (fun _ => []) (fun k => [⟨0, sGNews (xs.take k ++ List.replicate (xs.length - k) default)⟩])
    (fun k => k ≤ xs.length) (fun k => xs.length - k) 0 (Nat.zero_le _) ⟨rfl, trivial⟩ trivial ⟨?_, trivial⟩ trivial (by kernel_rfl) (fun k hk => ?_)
  · conv => whnf
    exact rep_start (e := GNews.c) xs
  conv => whnf
  refine ⟨fun h => ?_, fun h => ?_⟩ <;> simp at h <;> conv => whnf
  · refine ⟨by omega, ?_⟩
    conv => whnf
    refine callW (toNews (xs.getD k default)) rfl (go tbl_ok false ?_)
    conv => whnf
    refine ⟨by simp; omega, ?_⟩
    conv => whnf
    refine storeW tbl_ok rfl rfl rfl rfl rfl rfl rfl rfl _ (slC_set (xs := xs.take k ++ List.replicate (xs.length - k) default) (x := xs.getD k default) (e := GNews.c) (by simp; omega) ?_) (go tbl_ok false ?_)
    · rfl
    conv => whnf
    refine ⟨by simp only [inR]; omega, ?_⟩
    conv => whnf
    refine loopE [] (k + 1) (by omega) (by omega) ⟨rfl, trivial⟩ ⟨?_, trivial⟩ trivial (by kernel_rfl) trivial (by kernel_rfl)
    conv => whnf
    exact congrArg (slC 3 GNews.c) (take_rep_set xs k default h)
  · exact retW tbl_ok rfl rfl ⟨by conv => whnf
                                  rw [take_rep_end _ _ _ (by omega)], trivial⟩

theorem toCluster (x : GCluster) (h : x.w ≤ 1048576) : Meets Tryd.prog 16 [.agg x.c] [.agg x.c] := by
  refine enterW tbl_ok false Tryd.func16 rfl (by decide) fun W => ?_
  conv => whnf
  refine callW (toGraph x.graph (by simp only [GCluster.w] at h; omega)) rfl (go tbl_ok false ?_)
  conv => whnf
  refine callW (toWorkerS x.workers (by simp only [GCluster.w] at h; omega)) rfl (go tbl_ok false ?_)
  conv => whnf
  refine callW (toLinkS x.links (by simp only [GCluster.w] at h; omega)) rfl (go tbl_ok false ?_)
  conv => whnf
  refine callW (toTokenS x.tokens (by simp only [GCluster.w] at h; omega)) rfl (go tbl_ok false ?_)
  conv => whnf
  refine callW (toNewsS x.news (by simp only [GCluster.w] at h; omega)) rfl (go tbl_ok false ?_)
  conv => whnf
  exact retW tbl_ok rfl rfl ⟨⟨rfl, rfl, rfl, rfl, rfl, rfl, rfl, trivial⟩, trivial⟩

theorem eqCell (x : GCell) : Meets Tryd.prog 113 [.agg x.c, .agg x.c] [.one (vb true)] := by
  refine enterW tbl_ok false Tryd.func113 rfl (by decide) fun W => ?_
  conv => whnf
  refine ⟨fun h => ?_, fun _ => ?_⟩ <;> conv => whnf
  · simp at h
  refine ⟨fun h => ?_, fun _ => ?_⟩ <;> conv => whnf
  · simp at h
  refine ⟨fun h => ?_, fun _ => ?_⟩ <;> conv => whnf
  · simp at h
  refine ⟨fun h => ?_, fun _ => ?_⟩ <;> conv => whnf
  · simp at h
  exact retW tbl_ok rfl rfl ⟨rfl, trivial⟩

theorem eqCellS (xs : List GCell) (hx : xs.length ≤ 1048576) : Meets Tryd.prog 106 [.one (sGCell xs), .one (sGCell xs)] [.one (vb true)] := by
  have hl := hx
  refine enterW tbl_ok false Tryd.func106 rfl (by decide) fun W => ?_
  conv => whnf
  refine ⟨fun h => ?_, fun _ => ?_⟩ <;> conv => whnf
  · simp at h
  refine loopW tbl_ok false [] (fun k : Nat => [(5, .c (vi k))]) (fun _ => []) (fun _ => [])
    (fun k => k ≤ xs.length) (fun k => xs.length - k) 0 (Nat.zero_le _) ⟨rfl, trivial⟩ trivial trivial trivial (by kernel_rfl) (fun k hk => ?_)
  conv => whnf
  refine ⟨fun h => ?_, fun h => ?_⟩ <;> simp at h <;> conv => whnf
  · refine drawW rfl [0, 1, 2, 3, 4, 5, 6, 7, 8, 9] (by kernel_rfl) (go tbl_ok false ?_)
    conv => whnf
    refine ⟨by omega, ?_⟩
    conv => whnf
    refine ⟨by omega, ?_⟩
    conv => whnf
    refine callR (eqCell (xs.getD k default)) rfl (go tbl_ok false ?_)
    conv => whnf
    refine ⟨fun h' => ?_, fun _ => ?_⟩ <;> conv => whnf
    · simp at h'
    refine ⟨by simp only [inR]; omega, ?_⟩
    conv => whnf
    exact loopE [] (k + 1) (by omega) (by omega) ⟨rfl, trivial⟩ trivial trivial (by kernel_rfl) trivial (by kernel_rfl)
  · exact retW tbl_ok rfl rfl ⟨rfl, trivial⟩

theorem eqBoolS (xs : List Bool) (hx : xs.length ≤ 1048576) : Meets Tryd.prog 108 [.one (sBool xs), .one (sBool xs)] [.one (vb true)] := by
  have hl := hx
  refine enterW tbl_ok false Tryd.func108 rfl (by decide) fun W => ?_
  conv => whnf
  refine ⟨fun h => ?_, fun _ => ?_⟩ <;> conv => whnf
  · simp at h
  refine loopW tbl_ok false [] (fun k : Nat => [(5, .c (vi k))]) (fun _ => []) (fun _ => [])
    (fun k => k ≤ xs.length) (fun k => xs.length - k) 0 (Nat.zero_le _) ⟨rfl, trivial⟩ trivial trivial trivial (by kernel_rfl) (fun k hk => ?_)
  conv => whnf
  refine ⟨fun h => ?_, fun h => ?_⟩ <;> simp at h <;> conv => whnf
  · refine drawW rfl [0, 1, 2, 3, 4, 5, 6, 7, 8] (by kernel_rfl) (go tbl_ok false ?_)
    conv => whnf
    refine ⟨by omega, ?_⟩
    conv => whnf
    refine ⟨by omega, ?_⟩
    conv => whnf
    refine ⟨fun h' => ?_, fun _ => ?_⟩ <;> conv => whnf
    · simp at h'
    refine ⟨by simp only [inR]; omega, ?_⟩
    conv => whnf
    exact loopE [] (k + 1) (by omega) (by omega) ⟨rfl, trivial⟩ trivial trivial (by kernel_rfl) trivial (by kernel_rfl)
  · exact retW tbl_ok rfl rfl ⟨rfl, trivial⟩

theorem eqDone (x : GDone) : Meets Tryd.prog 114 [.agg x.c, .agg x.c] [.one (vb true)] := by
  refine enterW tbl_ok false Tryd.func114 rfl (by decide) fun W => ?_
  conv => whnf
  refine ⟨fun h => ?_, fun _ => ?_⟩ <;> conv => whnf
  · simp at h
  refine ⟨fun h => ?_, fun _ => ?_⟩ <;> conv => whnf
  · simp at h
  exact retW tbl_ok rfl rfl ⟨rfl, trivial⟩

theorem eqDoneS (xs : List GDone) (hx : xs.length ≤ 1048576) : Meets Tryd.prog 109 [.one (sGDone xs), .one (sGDone xs)] [.one (vb true)] := by
  have hl := hx
  refine enterW tbl_ok false Tryd.func109 rfl (by decide) fun W => ?_
  conv => whnf
  refine ⟨fun h => ?_, fun _ => ?_⟩ <;> conv => whnf
  · simp at h
  refine loopW tbl_ok false [] (fun k : Nat => [(5, .c (vi k))]) (fun _ => []) (fun _ => [])
    (fun k => k ≤ xs.length) (fun k => xs.length - k) 0 (Nat.zero_le _) ⟨rfl, trivial⟩ trivial trivial trivial (by kernel_rfl) (fun k hk => ?_)
  conv => whnf
  refine ⟨fun h => ?_, fun h => ?_⟩ <;> simp at h <;> conv => whnf
  · refine drawW rfl [0, 1, 2, 3, 4, 5, 6, 7, 8, 9] (by kernel_rfl) (go tbl_ok false ?_)
    conv => whnf
    refine ⟨by omega, ?_⟩
    conv => whnf
    refine ⟨by omega, ?_⟩
    conv => whnf
    refine callR (eqDone (xs.getD k default)) rfl (go tbl_ok false ?_)
    conv => whnf
    refine ⟨fun h' => ?_, fun _ => ?_⟩ <;> conv => whnf
    · simp at h'
    refine ⟨by simp only [inR]; omega, ?_⟩
    conv => whnf
    exact loopE [] (k + 1) (by omega) (by omega) ⟨rfl, trivial⟩ trivial trivial (by kernel_rfl) trivial (by kernel_rfl)
  · exact retW tbl_ok rfl rfl ⟨rfl, trivial⟩

theorem eqWorker (x : GWorker) (h : x.w ≤ 1048576) : Meets Tryd.prog 82 [.agg x.c, .agg x.c] [.one (vb true)] := by
  refine enterW tbl_ok false Tryd.func82 rfl (by decide) fun W => ?_
  conv => whnf
  refine callR (eqRecordS x.queue (by simp only [GWorker.w] at h; omega)) rfl (go tbl_ok false ?_)
  conv => whnf
  refine ⟨fun h => ?_, fun _ => ?_⟩ <;> conv => whnf
  · simp at h
  refine callR (eqRecordS x.staged (by simp only [GWorker.w] at h; omega)) rfl (go tbl_ok false ?_)
  conv => whnf
  refine ⟨fun h => ?_, fun _ => ?_⟩ <;> conv => whnf
  · simp at h
  refine callR (eqRecordS x.inputs (by simp only [GWorker.w] at h; omega)) rfl (go tbl_ok false ?_)
  conv => whnf
  refine ⟨fun h => ?_, fun _ => ?_⟩ <;> conv => whnf
  · simp at h
  refine callR (eqCellS x.cells (by simp only [GWorker.w] at h; omega)) rfl (go tbl_ok false ?_)
  conv => whnf
  refine ⟨fun h => ?_, fun _ => ?_⟩ <;> conv => whnf
  · simp at h
  refine callR (eqIntS x.sums (by simp only [GWorker.w] at h; omega)) rfl (go tbl_ok false ?_)
  conv => whnf
  refine ⟨fun h => ?_, fun _ => ?_⟩ <;> conv => whnf
  · simp at h
  refine callR (eqBoolS x.black (by simp only [GWorker.w] at h; omega)) rfl (go tbl_ok false ?_)
  conv => whnf
  refine ⟨fun h => ?_, fun _ => ?_⟩ <;> conv => whnf
  · simp at h
  refine callR (eqBoolS x.caps (by simp only [GWorker.w] at h; omega)) rfl (go tbl_ok false ?_)
  conv => whnf
  refine ⟨fun h => ?_, fun _ => ?_⟩ <;> conv => whnf
  · simp at h
  refine callR (eqDoneS x.dones (by simp only [GWorker.w] at h; omega)) rfl (go tbl_ok false ?_)
  conv => whnf
  refine ⟨fun h => ?_, fun _ => ?_⟩ <;> conv => whnf
  · simp at h
  exact retW tbl_ok rfl rfl ⟨rfl, trivial⟩

theorem eqWorkerS (xs : List GWorker) (hx : wS GWorker.w xs ≤ 1048576) : Meets Tryd.prog 54 [.one (sGWorker xs), .one (sGWorker xs)] [.one (vb true)] := by
  have hl : xs.length ≤ 1048576 := by simp only [wS] at hx; omega
  refine enterW tbl_ok false Tryd.func54 rfl (by decide) fun W => ?_
  conv => whnf
  refine ⟨fun h => ?_, fun _ => ?_⟩ <;> conv => whnf
  · simp at h
  refine loopW tbl_ok false [] (fun k : Nat => [(5, .c (vi k))]) (fun _ => []) (fun _ => [])
    (fun k => k ≤ xs.length) (fun k => xs.length - k) 0 (Nat.zero_le _) ⟨rfl, trivial⟩ trivial trivial trivial (by kernel_rfl) (fun k hk => ?_)
  conv => whnf
  refine ⟨fun h => ?_, fun h => ?_⟩ <;> simp at h <;> conv => whnf
  · refine drawW rfl [0, 1, 2, 3, 4, 5, 6, 7, 8, 9] (by kernel_rfl) (go tbl_ok false ?_)
    conv => whnf
    refine ⟨by omega, ?_⟩
    conv => whnf
    refine ⟨by omega, ?_⟩
    conv => whnf
    refine callR (eqWorker (xs.getD k default) (by have := wS_take_le GWorker.w xs k h; simp only [wS] at hx; omega)) rfl (go tbl_ok false ?_)
    conv => whnf
    refine ⟨fun h' => ?_, fun _ => ?_⟩ <;> conv => whnf
    · simp at h'
    refine ⟨by simp only [inR]; omega, ?_⟩
    conv => whnf
    exact loopE [] (k + 1) (by omega) (by omega) ⟨rfl, trivial⟩ trivial trivial (by kernel_rfl) trivial (by kernel_rfl)
  · exact retW tbl_ok rfl rfl ⟨rfl, trivial⟩

theorem eqLink (x : GLink) (h : x.w ≤ 1048576) : Meets Tryd.prog 83 [.agg x.c, .agg x.c] [.one (vb true)] := by
  refine enterW tbl_ok false Tryd.func83 rfl (by decide) fun W => ?_
  conv => whnf
  refine ⟨fun h => ?_, fun _ => ?_⟩ <;> conv => whnf
  · simp at h
  refine callR (eqRecordS x.queue (by simp only [GLink.w] at h; omega)) rfl (go tbl_ok false ?_)
  conv => whnf
  refine ⟨fun h => ?_, fun _ => ?_⟩ <;> conv => whnf
  · simp at h
  refine ⟨fun h => ?_, fun _ => ?_⟩ <;> conv => whnf
  · simp at h
  refine ⟨fun h => ?_, fun _ => ?_⟩ <;> conv => whnf
  · simp at h
  refine ⟨fun h => ?_, fun _ => ?_⟩ <;> conv => whnf
  · simp at h
  refine ⟨fun h => ?_, fun _ => ?_⟩ <;> conv => whnf
  · simp at h
  exact retW tbl_ok rfl rfl ⟨rfl, trivial⟩

theorem eqLinkS (xs : List GLink) (hx : wS GLink.w xs ≤ 1048576) : Meets Tryd.prog 55 [.one (sGLink xs), .one (sGLink xs)] [.one (vb true)] := by
  have hl : xs.length ≤ 1048576 := by simp only [wS] at hx; omega
  refine enterW tbl_ok false Tryd.func55 rfl (by decide) fun W => ?_
  conv => whnf
  refine ⟨fun h => ?_, fun _ => ?_⟩ <;> conv => whnf
  · simp at h
  refine loopW tbl_ok false [] (fun k : Nat => [(5, .c (vi k))]) (fun _ => []) (fun _ => [])
    (fun k => k ≤ xs.length) (fun k => xs.length - k) 0 (Nat.zero_le _) ⟨rfl, trivial⟩ trivial trivial trivial (by kernel_rfl) (fun k hk => ?_)
  conv => whnf
  refine ⟨fun h => ?_, fun h => ?_⟩ <;> simp at h <;> conv => whnf
  · refine drawW rfl [0, 1, 2, 3, 4, 5, 6, 7, 8, 9] (by kernel_rfl) (go tbl_ok false ?_)
    conv => whnf
    refine ⟨by omega, ?_⟩
    conv => whnf
    refine ⟨by omega, ?_⟩
    conv => whnf
    refine callR (eqLink (xs.getD k default) (by have := wS_take_le GLink.w xs k h; simp only [wS] at hx; omega)) rfl (go tbl_ok false ?_)
    conv => whnf
    refine ⟨fun h' => ?_, fun _ => ?_⟩ <;> conv => whnf
    · simp at h'
    refine ⟨by simp only [inR]; omega, ?_⟩
    conv => whnf
    exact loopE [] (k + 1) (by omega) (by omega) ⟨rfl, trivial⟩ trivial trivial (by kernel_rfl) trivial (by kernel_rfl)
  · exact retW tbl_ok rfl rfl ⟨rfl, trivial⟩

theorem eqToken (x : GToken) : Meets Tryd.prog 84 [.agg x.c, .agg x.c] [.one (vb true)] := by
  refine enterW tbl_ok false Tryd.func84 rfl (by decide) fun W => ?_
  conv => whnf
  refine ⟨fun h => ?_, fun _ => ?_⟩ <;> conv => whnf
  · simp at h
  refine ⟨fun h => ?_, fun _ => ?_⟩ <;> conv => whnf
  · simp at h
  refine ⟨fun h => ?_, fun _ => ?_⟩ <;> conv => whnf
  · simp at h
  refine ⟨fun h => ?_, fun _ => ?_⟩ <;> conv => whnf
  · simp at h
  refine ⟨fun h => ?_, fun _ => ?_⟩ <;> conv => whnf
  · simp at h
  exact retW tbl_ok rfl rfl ⟨rfl, trivial⟩

theorem eqTokenS (xs : List GToken) (hx : xs.length ≤ 1048576) : Meets Tryd.prog 56 [.one (sGToken xs), .one (sGToken xs)] [.one (vb true)] := by
  have hl := hx
  refine enterW tbl_ok false Tryd.func56 rfl (by decide) fun W => ?_
  conv => whnf
  refine ⟨fun h => ?_, fun _ => ?_⟩ <;> conv => whnf
  · simp at h
  refine loopW tbl_ok false [] (fun k : Nat => [(5, .c (vi k))]) (fun _ => []) (fun _ => [])
    (fun k => k ≤ xs.length) (fun k => xs.length - k) 0 (Nat.zero_le _) ⟨rfl, trivial⟩ trivial trivial trivial (by kernel_rfl) (fun k hk => ?_)
  conv => whnf
  refine ⟨fun h => ?_, fun h => ?_⟩ <;> simp at h <;> conv => whnf
  · refine drawW rfl [0, 1, 2, 3, 4, 5, 6, 7, 8, 9] (by kernel_rfl) (go tbl_ok false ?_)
    conv => whnf
    refine ⟨by omega, ?_⟩
    conv => whnf
    refine ⟨by omega, ?_⟩
    conv => whnf
    refine callR (eqToken (xs.getD k default)) rfl (go tbl_ok false ?_)
    conv => whnf
    refine ⟨fun h' => ?_, fun _ => ?_⟩ <;> conv => whnf
    · simp at h'
    refine ⟨by simp only [inR]; omega, ?_⟩
    conv => whnf
    exact loopE [] (k + 1) (by omega) (by omega) ⟨rfl, trivial⟩ trivial trivial (by kernel_rfl) trivial (by kernel_rfl)
  · exact retW tbl_ok rfl rfl ⟨rfl, trivial⟩

theorem eqNews (x : GNews) : Meets Tryd.prog 85 [.agg x.c, .agg x.c] [.one (vb true)] := by
  refine enterW tbl_ok false Tryd.func85 rfl (by decide) fun W => ?_
  conv => whnf
  refine ⟨fun h => ?_, fun _ => ?_⟩ <;> conv => whnf
  · simp at h
  refine ⟨fun h => ?_, fun _ => ?_⟩ <;> conv => whnf
  · simp at h
  refine ⟨fun h => ?_, fun _ => ?_⟩ <;> conv => whnf
  · simp at h
  exact retW tbl_ok rfl rfl ⟨rfl, trivial⟩

theorem eqNewsS (xs : List GNews) (hx : xs.length ≤ 1048576) : Meets Tryd.prog 57 [.one (sGNews xs), .one (sGNews xs)] [.one (vb true)] := by
  have hl := hx
  refine enterW tbl_ok false Tryd.func57 rfl (by decide) fun W => ?_
  conv => whnf
  refine ⟨fun h => ?_, fun _ => ?_⟩ <;> conv => whnf
  · simp at h
  refine loopW tbl_ok false [] (fun k : Nat => [(5, .c (vi k))]) (fun _ => []) (fun _ => [])
    (fun k => k ≤ xs.length) (fun k => xs.length - k) 0 (Nat.zero_le _) ⟨rfl, trivial⟩ trivial trivial trivial (by kernel_rfl) (fun k hk => ?_)
  conv => whnf
  refine ⟨fun h => ?_, fun h => ?_⟩ <;> simp at h <;> conv => whnf
  · refine drawW rfl [0, 1, 2, 3, 4, 5, 6, 7, 8, 9] (by kernel_rfl) (go tbl_ok false ?_)
    conv => whnf
    refine ⟨by omega, ?_⟩
    conv => whnf
    refine ⟨by omega, ?_⟩
    conv => whnf
    refine callR (eqNews (xs.getD k default)) rfl (go tbl_ok false ?_)
    conv => whnf
    refine ⟨fun h' => ?_, fun _ => ?_⟩ <;> conv => whnf
    · simp at h'
    refine ⟨by simp only [inR]; omega, ?_⟩
    conv => whnf
    exact loopE [] (k + 1) (by omega) (by omega) ⟨rfl, trivial⟩ trivial trivial (by kernel_rfl) trivial (by kernel_rfl)
  · exact retW tbl_ok rfl rfl ⟨rfl, trivial⟩

theorem eqCluster (x : GCluster) (h : x.w ≤ 1048576) : Meets Tryd.prog 18 [.agg x.c, .agg x.c] [.one (vb true)] := by
  refine enterW tbl_ok false Tryd.func18 rfl (by decide) fun W => ?_
  conv => whnf
  refine callR (eqGraph x.graph (by simp only [GCluster.w] at h; omega)) rfl (go tbl_ok false ?_)
  conv => whnf
  refine ⟨fun h => ?_, fun _ => ?_⟩ <;> conv => whnf
  · simp at h
  refine callR (eqWorkerS x.workers (by simp only [GCluster.w] at h; omega)) rfl (go tbl_ok false ?_)
  conv => whnf
  refine ⟨fun h => ?_, fun _ => ?_⟩ <;> conv => whnf
  · simp at h
  refine callR (eqLinkS x.links (by simp only [GCluster.w] at h; omega)) rfl (go tbl_ok false ?_)
  conv => whnf
  refine ⟨fun h => ?_, fun _ => ?_⟩ <;> conv => whnf
  · simp at h
  refine callR (eqTokenS x.tokens (by simp only [GCluster.w] at h; omega)) rfl (go tbl_ok false ?_)
  conv => whnf
  refine ⟨fun h => ?_, fun _ => ?_⟩ <;> conv => whnf
  · simp at h
  refine callR (eqNewsS x.news (by simp only [GCluster.w] at h; omega)) rfl (go tbl_ok false ?_)
  conv => whnf
  refine ⟨fun h => ?_, fun _ => ?_⟩ <;> conv => whnf
  · simp at h
  exact retW tbl_ok rfl rfl ⟨rfl, trivial⟩

end Go.Proofs.YthnemokfcnejkaaDoor
