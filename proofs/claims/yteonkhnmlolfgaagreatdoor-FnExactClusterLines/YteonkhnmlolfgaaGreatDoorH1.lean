/- Texts for the law FnExactClusterLines: H1. No conditions. -/
import Derived.Test.YteonkhnmlolfgaaGreatDoorEng3
import Derived.Test.YteonkhnmlolfgaaGreatDoorProg
import Derived.KernelRfl

set_option maxRecDepth 100000
namespace Go.Proofs.YteonkhnmlolfgaaGreatDoor
open Go.Sx
/-- What the program says of its types, as the executor reads it. -/
def tbl : List (TypeId × TI) := [
  (2, { agg := false, size := 1, bytes := 8, zero := [Value.int IntKind.i64 (0)], fields := [], elem := none, str := false, flat := some [CK.int IntKind.i64] }),
  (3, { agg := false, size := 1, bytes := 8, zero := [Value.int IntKind.i64 (0)], fields := [], elem := none, str := false, flat := some [CK.int IntKind.i64] }),
  (4, { agg := false, size := 1, bytes := 1, zero := [Value.bool false], fields := [], elem := none, str := false, flat := some [CK.bool] }),
  (5, { agg := false, size := 1, bytes := 1, zero := [Value.int IntKind.u8 (0)], fields := [], elem := none, str := false, flat := some [CK.int IntKind.u8] }),
  (9, { agg := false, size := 1, bytes := 16, zero := [Value.string ByteArray.empty], fields := [], elem := none, str := true, flat := none }),
  (12, { agg := false, size := 1, bytes := 8, zero := [Value.int IntKind.u64 (0)], fields := [], elem := none, str := false, flat := some [CK.int IntKind.u64] }),
  (21, { agg := false, size := 1, bytes := 4, zero := [Value.int IntKind.i32 (0)], fields := [], elem := none, str := false, flat := some [CK.int IntKind.i32] }),
  (22, { agg := false, size := 1, bytes := 24, zero := [Value.slice none 0 0], fields := [], elem := some 124, str := false, flat := none }),
  (23, { agg := true, size := 3, bytes := 40, zero := [Value.slice none 0 0, Value.int IntKind.i64 (0), Value.int IntKind.i64 (0)], fields := [(0, 22), (1, 3), (2, 3)], elem := none, str := false, flat := none }),
  (24, { agg := true, size := 3, bytes := 40, zero := [Value.slice none 0 0, Value.int IntKind.i64 (0), Value.int IntKind.i64 (0)], fields := [(0, 22), (1, 3), (2, 3)], elem := none, str := false, flat := none }),
  (25, { agg := false, size := 1, bytes := 24, zero := [Value.slice none 0 0], fields := [], elem := some 87, str := false, flat := none }),
  (26, { agg := false, size := 1, bytes := 24, zero := [Value.slice none 0 0], fields := [], elem := some 90, str := false, flat := none }),
  (27, { agg := false, size := 1, bytes := 24, zero := [Value.slice none 0 0], fields := [], elem := some 103, str := false, flat := none }),
  (28, { agg := false, size := 1, bytes := 24, zero := [Value.slice none 0 0], fields := [], elem := some 107, str := false, flat := none }),
  (29, { agg := true, size := 7, bytes := 136, zero := [Value.slice none 0 0, Value.int IntKind.i64 (0), Value.int IntKind.i64 (0), Value.slice none 0 0, Value.slice none 0 0, Value.slice none 0 0, Value.slice none 0 0], fields := [(0, 24), (3, 25), (4, 26), (5, 27), (6, 28)], elem := none, str := false, flat := none }),
  (30, { agg := true, size := 7, bytes := 136, zero := [Value.slice none 0 0, Value.int IntKind.i64 (0), Value.int IntKind.i64 (0), Value.slice none 0 0, Value.slice none 0 0, Value.slice none 0 0, Value.slice none 0 0], fields := [(0, 24), (3, 25), (4, 26), (5, 27), (6, 28)], elem := none, str := false, flat := none }),
  (32, { agg := false, size := 1, bytes := 24, zero := [Value.slice none 0 0], fields := [], elem := some 9, str := false, flat := none }),
  (34, { agg := false, size := 1, bytes := 24, zero := [Value.slice none 0 0], fields := [], elem := some 128, str := false, flat := none }),
  (35, { agg := true, size := 3, bytes := 40, zero := [Value.slice none 0 0, Value.int IntKind.i64 (0), Value.int IntKind.i64 (0)], fields := [(0, 34), (1, 3), (2, 3)], elem := none, str := false, flat := none }),
  (36, { agg := true, size := 3, bytes := 40, zero := [Value.slice none 0 0, Value.int IntKind.i64 (0), Value.int IntKind.i64 (0)], fields := [(0, 34), (1, 3), (2, 3)], elem := none, str := false, flat := none }),
  (37, { agg := false, size := 1, bytes := 24, zero := [Value.slice none 0 0], fields := [], elem := some 97, str := false, flat := none }),
  (38, { agg := false, size := 1, bytes := 24, zero := [Value.slice none 0 0], fields := [], elem := some 100, str := false, flat := none }),
  (39, { agg := false, size := 1, bytes := 24, zero := [Value.slice none 0 0], fields := [], elem := some 78, str := false, flat := none }),
  (40, { agg := false, size := 1, bytes := 24, zero := [Value.slice none 0 0], fields := [], elem := some 105, str := false, flat := none }),
  (41, { agg := true, size := 7, bytes := 136, zero := [Value.slice none 0 0, Value.int IntKind.i64 (0), Value.int IntKind.i64 (0), Value.slice none 0 0, Value.slice none 0 0, Value.slice none 0 0, Value.slice none 0 0], fields := [(0, 36), (3, 37), (4, 38), (5, 39), (6, 40)], elem := none, str := false, flat := none }),
  (42, { agg := true, size := 7, bytes := 136, zero := [Value.slice none 0 0, Value.int IntKind.i64 (0), Value.int IntKind.i64 (0), Value.slice none 0 0, Value.slice none 0 0, Value.slice none 0 0, Value.slice none 0 0], fields := [(0, 36), (3, 37), (4, 38), (5, 39), (6, 40)], elem := none, str := false, flat := none }),
  (54, { agg := false, size := 1, bytes := 24, zero := [Value.slice none 0 0], fields := [], elem := some 58, str := false, flat := none }),
  (57, { agg := true, size := 4, bytes := 32, zero := [Value.int IntKind.i64 (0), Value.int IntKind.i64 (0), Value.int IntKind.i64 (0), Value.int IntKind.i64 (0)], fields := [(0, 3), (1, 3), (2, 3), (3, 3)], elem := none, str := false, flat := some [CK.int IntKind.i64, CK.int IntKind.i64, CK.int IntKind.i64, CK.int IntKind.i64] }),
  (58, { agg := true, size := 4, bytes := 32, zero := [Value.int IntKind.i64 (0), Value.int IntKind.i64 (0), Value.int IntKind.i64 (0), Value.int IntKind.i64 (0)], fields := [(0, 3), (1, 3), (2, 3), (3, 3)], elem := none, str := false, flat := some [CK.int IntKind.i64, CK.int IntKind.i64, CK.int IntKind.i64, CK.int IntKind.i64] }),
  (77, { agg := true, size := 5, bytes := 32, zero := [Value.bool false, Value.int IntKind.i64 (0), Value.int IntKind.i64 (0), Value.bool false, Value.bool false], fields := [(0, 4), (1, 3), (2, 3), (3, 4), (4, 4)], elem := none, str := false, flat := some [CK.bool, CK.int IntKind.i64, CK.int IntKind.i64, CK.bool, CK.bool] }),
  (78, { agg := true, size := 5, bytes := 32, zero := [Value.bool false, Value.int IntKind.i64 (0), Value.int IntKind.i64 (0), Value.bool false, Value.bool false], fields := [(0, 4), (1, 3), (2, 3), (3, 4), (4, 4)], elem := none, str := false, flat := some [CK.bool, CK.int IntKind.i64, CK.int IntKind.i64, CK.bool, CK.bool] }),
  (81, { agg := false, size := 1, bytes := 24, zero := [Value.slice none 0 0], fields := [], elem := some 158, str := false, flat := none }),
  (82, { agg := false, size := 1, bytes := 24, zero := [Value.slice none 0 0], fields := [], elem := some 160, str := false, flat := none }),
  (83, { agg := false, size := 1, bytes := 24, zero := [Value.slice none 0 0], fields := [], elem := some 3, str := false, flat := none }),
  (84, { agg := false, size := 1, bytes := 24, zero := [Value.slice none 0 0], fields := [], elem := some 4, str := false, flat := none }),
  (85, { agg := false, size := 1, bytes := 24, zero := [Value.slice none 0 0], fields := [], elem := some 162, str := false, flat := none }),
  (86, { agg := true, size := 8, bytes := 192, zero := [Value.slice none 0 0, Value.slice none 0 0, Value.slice none 0 0, Value.slice none 0 0, Value.slice none 0 0, Value.slice none 0 0, Value.slice none 0 0, Value.slice none 0 0], fields := [(0, 81), (1, 81), (2, 81), (3, 82), (4, 83), (5, 84), (6, 84), (7, 85)], elem := none, str := false, flat := none }),
  (87, { agg := true, size := 8, bytes := 192, zero := [Value.slice none 0 0, Value.slice none 0 0, Value.slice none 0 0, Value.slice none 0 0, Value.slice none 0 0, Value.slice none 0 0, Value.slice none 0 0, Value.slice none 0 0], fields := [(0, 81), (1, 81), (2, 81), (3, 82), (4, 83), (5, 84), (6, 84), (7, 85)], elem := none, str := false, flat := none }),
  (89, { agg := true, size := 6, bytes := 64, zero := [Value.int IntKind.i64 (0), Value.slice none 0 0, Value.int IntKind.i64 (0), Value.int IntKind.i64 (0), Value.int IntKind.i64 (0), Value.int IntKind.i64 (0)], fields := [(0, 3), (1, 81), (2, 3), (3, 3), (4, 3), (5, 3)], elem := none, str := false, flat := none }),
  (90, { agg := true, size := 6, bytes := 64, zero := [Value.int IntKind.i64 (0), Value.slice none 0 0, Value.int IntKind.i64 (0), Value.int IntKind.i64 (0), Value.int IntKind.i64 (0), Value.int IntKind.i64 (0)], fields := [(0, 3), (1, 81), (2, 3), (3, 3), (4, 3), (5, 3)], elem := none, str := false, flat := none }),
  (94, { agg := false, size := 1, bytes := 24, zero := [Value.slice none 0 0], fields := [], elem := some 149, str := false, flat := none }),
  (95, { agg := false, size := 1, bytes := 24, zero := [Value.slice none 0 0], fields := [], elem := some 151, str := false, flat := none }),
  (96, { agg := true, size := 8, bytes := 192, zero := [Value.slice none 0 0, Value.slice none 0 0, Value.slice none 0 0, Value.slice none 0 0, Value.slice none 0 0, Value.slice none 0 0, Value.slice none 0 0, Value.slice none 0 0], fields := [(0, 94), (1, 94), (2, 94), (3, 54), (4, 83), (5, 84), (6, 84), (7, 95)], elem := none, str := false, flat := none }),
  (97, { agg := true, size := 8, bytes := 192, zero := [Value.slice none 0 0, Value.slice none 0 0, Value.slice none 0 0, Value.slice none 0 0, Value.slice none 0 0, Value.slice none 0 0, Value.slice none 0 0, Value.slice none 0 0], fields := [(0, 94), (1, 94), (2, 94), (3, 54), (4, 83), (5, 84), (6, 84), (7, 95)], elem := none, str := false, flat := none }),
  (99, { agg := true, size := 6, bytes := 64, zero := [Value.int IntKind.i64 (0), Value.slice none 0 0, Value.int IntKind.i64 (0), Value.int IntKind.i64 (0), Value.int IntKind.i64 (0), Value.int IntKind.i64 (0)], fields := [(0, 3), (1, 94), (2, 3), (3, 3), (4, 3), (5, 3)], elem := none, str := false, flat := none }),
  (100, { agg := true, size := 6, bytes := 64, zero := [Value.int IntKind.i64 (0), Value.slice none 0 0, Value.int IntKind.i64 (0), Value.int IntKind.i64 (0), Value.int IntKind.i64 (0), Value.int IntKind.i64 (0)], fields := [(0, 3), (1, 94), (2, 3), (3, 3), (4, 3), (5, 3)], elem := none, str := false, flat := none }),
  (103, { agg := true, size := 5, bytes := 32, zero := [Value.bool false, Value.int IntKind.i64 (0), Value.int IntKind.i64 (0), Value.bool false, Value.bool false], fields := [(0, 4), (1, 3), (2, 3), (3, 4), (4, 4)], elem := none, str := false, flat := some [CK.bool, CK.int IntKind.i64, CK.int IntKind.i64, CK.bool, CK.bool] }),
  (104, { agg := true, size := 3, bytes := 24, zero := [Value.int IntKind.i64 (0), Value.int IntKind.i64 (0), Value.bool false], fields := [(0, 3), (1, 3), (2, 4)], elem := none, str := false, flat := some [CK.int IntKind.i64, CK.int IntKind.i64, CK.bool] }),
  (105, { agg := true, size := 3, bytes := 24, zero := [Value.int IntKind.i64 (0), Value.int IntKind.i64 (0), Value.bool false], fields := [(0, 3), (1, 3), (2, 4)], elem := none, str := false, flat := some [CK.int IntKind.i64, CK.int IntKind.i64, CK.bool] }),
  (107, { agg := true, size := 3, bytes := 24, zero := [Value.int IntKind.i64 (0), Value.int IntKind.i64 (0), Value.bool false], fields := [(0, 3), (1, 3), (2, 4)], elem := none, str := false, flat := some [CK.int IntKind.i64, CK.int IntKind.i64, CK.bool] }),
  (119, { agg := false, size := 1, bytes := 24, zero := [Value.slice none 0 0], fields := [], elem := some 5, str := false, flat := none }),
  (123, { agg := true, size := 4, bytes := 48, zero := [Value.int IntKind.i64 (0), Value.int IntKind.i64 (0), Value.int IntKind.i64 (0), Value.slice none 0 0], fields := [(0, 3), (1, 3), (2, 3), (3, 83)], elem := none, str := false, flat := none }),
  (124, { agg := true, size := 4, bytes := 48, zero := [Value.int IntKind.i64 (0), Value.int IntKind.i64 (0), Value.int IntKind.i64 (0), Value.slice none 0 0], fields := [(0, 3), (1, 3), (2, 3), (3, 83)], elem := none, str := false, flat := none }),
  (128, { agg := true, size := 4, bytes := 48, zero := [Value.int IntKind.i64 (0), Value.int IntKind.i64 (0), Value.int IntKind.i64 (0), Value.slice none 0 0], fields := [(0, 3), (1, 3), (2, 3), (3, 83)], elem := none, str := false, flat := none }),
  (146, { agg := true, size := 2, bytes := 16, zero := [Value.int IntKind.i64 (0), Value.int IntKind.i64 (0)], fields := [(0, 3), (1, 3)], elem := none, str := false, flat := some [CK.int IntKind.i64, CK.int IntKind.i64] }),
  (147, { agg := true, size := 2, bytes := 16, zero := [Value.int IntKind.i64 (0), Value.int IntKind.i64 (0)], fields := [(0, 3), (1, 3)], elem := none, str := false, flat := some [CK.int IntKind.i64, CK.int IntKind.i64] }),
  (148, { agg := true, size := 5, bytes := 40, zero := [Value.int IntKind.i64 (0), Value.int IntKind.i64 (0), Value.int IntKind.i64 (0), Value.int IntKind.i64 (0), Value.int IntKind.i64 (0)], fields := [(0, 3), (1, 147), (3, 3), (4, 3)], elem := none, str := false, flat := some [CK.int IntKind.i64, CK.int IntKind.i64, CK.int IntKind.i64, CK.int IntKind.i64, CK.int IntKind.i64] }),
  (149, { agg := true, size := 5, bytes := 40, zero := [Value.int IntKind.i64 (0), Value.int IntKind.i64 (0), Value.int IntKind.i64 (0), Value.int IntKind.i64 (0), Value.int IntKind.i64 (0)], fields := [(0, 3), (1, 147), (3, 3), (4, 3)], elem := none, str := false, flat := some [CK.int IntKind.i64, CK.int IntKind.i64, CK.int IntKind.i64, CK.int IntKind.i64, CK.int IntKind.i64] }),
  (150, { agg := true, size := 2, bytes := 16, zero := [Value.int IntKind.i64 (0), Value.bool false], fields := [(0, 3), (1, 4)], elem := none, str := false, flat := some [CK.int IntKind.i64, CK.bool] }),
  (151, { agg := true, size := 2, bytes := 16, zero := [Value.int IntKind.i64 (0), Value.bool false], fields := [(0, 3), (1, 4)], elem := none, str := false, flat := some [CK.int IntKind.i64, CK.bool] }),
  (156, { agg := true, size := 2, bytes := 16, zero := [Value.int IntKind.i64 (0), Value.int IntKind.i64 (0)], fields := [(0, 3), (1, 3)], elem := none, str := false, flat := some [CK.int IntKind.i64, CK.int IntKind.i64] }),
  (157, { agg := true, size := 5, bytes := 40, zero := [Value.int IntKind.i64 (0), Value.int IntKind.i64 (0), Value.int IntKind.i64 (0), Value.int IntKind.i64 (0), Value.int IntKind.i64 (0)], fields := [(0, 3), (1, 156), (3, 3), (4, 3)], elem := none, str := false, flat := some [CK.int IntKind.i64, CK.int IntKind.i64, CK.int IntKind.i64, CK.int IntKind.i64, CK.int IntKind.i64] }),
  (158, { agg := true, size := 5, bytes := 40, zero := [Value.int IntKind.i64 (0), Value.int IntKind.i64 (0), Value.int IntKind.i64 (0), Value.int IntKind.i64 (0), Value.int IntKind.i64 (0)], fields := [(0, 3), (1, 156), (3, 3), (4, 3)], elem := none, str := false, flat := some [CK.int IntKind.i64, CK.int IntKind.i64, CK.int IntKind.i64, CK.int IntKind.i64, CK.int IntKind.i64] }),
  (160, { agg := true, size := 4, bytes := 32, zero := [Value.int IntKind.i64 (0), Value.int IntKind.i64 (0), Value.int IntKind.i64 (0), Value.int IntKind.i64 (0)], fields := [(0, 3), (1, 3), (2, 3), (3, 3)], elem := none, str := false, flat := some [CK.int IntKind.i64, CK.int IntKind.i64, CK.int IntKind.i64, CK.int IntKind.i64] }),
  (162, { agg := true, size := 2, bytes := 16, zero := [Value.int IntKind.i64 (0), Value.bool false], fields := [(0, 3), (1, 4)], elem := none, str := false, flat := some [CK.int IntKind.i64, CK.bool] }),
  (168, { agg := false, size := 1, bytes := 8, zero := [Value.pointer none], fields := [], elem := none, str := false, flat := none }),
  (169, { agg := true, size := 2, bytes := 32, zero := [Value.pointer none, Value.slice none 0 0], fields := [(0, 168), (1, 119)], elem := none, str := false, flat := none }),
  (170, { agg := true, size := 2, bytes := 32, zero := [Value.pointer none, Value.slice none 0 0], fields := [(0, 168), (1, 119)], elem := none, str := false, flat := none }),
  (173, { agg := false, size := 1, bytes := 16, zero := [Value.nilIface], fields := [], elem := none, str := false, flat := none }),
  (183, { agg := false, size := 1, bytes := 8, zero := [Value.pointer none], fields := [], elem := none, str := false, flat := none }),
  (185, { agg := true, size := 24, bytes := 24, zero := [Value.int IntKind.u8 (0), Value.int IntKind.u8 (0), Value.int IntKind.u8 (0), Value.int IntKind.u8 (0), Value.int IntKind.u8 (0), Value.int IntKind.u8 (0), Value.int IntKind.u8 (0), Value.int IntKind.u8 (0), Value.int IntKind.u8 (0), Value.int IntKind.u8 (0), Value.int IntKind.u8 (0), Value.int IntKind.u8 (0), Value.int IntKind.u8 (0), Value.int IntKind.u8 (0), Value.int IntKind.u8 (0), Value.int IntKind.u8 (0), Value.int IntKind.u8 (0), Value.int IntKind.u8 (0), Value.int IntKind.u8 (0), Value.int IntKind.u8 (0), Value.int IntKind.u8 (0), Value.int IntKind.u8 (0), Value.int IntKind.u8 (0), Value.int IntKind.u8 (0)], fields := [], elem := none, str := false, flat := none }),
  (186, { agg := false, size := 1, bytes := 8, zero := [Value.int IntKind.u64 (0)], fields := [], elem := none, str := false, flat := some [CK.int IntKind.u64] }),
  (197, { agg := true, size := 20, bytes := 160, zero := [Value.int IntKind.u64 (0), Value.int IntKind.u64 (0), Value.int IntKind.u64 (0), Value.int IntKind.u64 (0), Value.int IntKind.u64 (0), Value.int IntKind.u64 (0), Value.int IntKind.u64 (0), Value.int IntKind.u64 (0), Value.int IntKind.u64 (0), Value.int IntKind.u64 (0), Value.int IntKind.u64 (0), Value.int IntKind.u64 (0), Value.int IntKind.u64 (0), Value.int IntKind.u64 (0), Value.int IntKind.u64 (0), Value.int IntKind.u64 (0), Value.int IntKind.u64 (0), Value.int IntKind.u64 (0), Value.int IntKind.u64 (0), Value.int IntKind.u64 (0)], fields := [], elem := none, str := false, flat := none }),
  (198, { agg := false, size := 1, bytes := 4, zero := [Value.int IntKind.u32 (0)], fields := [], elem := none, str := false, flat := some [CK.int IntKind.u32] }),
  (201, { agg := false, size := 1, bytes := 8, zero := [Value.int IntKind.u64 (0)], fields := [], elem := none, str := false, flat := some [CK.int IntKind.u64] }),
  (204, { agg := true, size := 32, bytes := 32, zero := [Value.int IntKind.u8 (0), Value.int IntKind.u8 (0), Value.int IntKind.u8 (0), Value.int IntKind.u8 (0), Value.int IntKind.u8 (0), Value.int IntKind.u8 (0), Value.int IntKind.u8 (0), Value.int IntKind.u8 (0), Value.int IntKind.u8 (0), Value.int IntKind.u8 (0), Value.int IntKind.u8 (0), Value.int IntKind.u8 (0), Value.int IntKind.u8 (0), Value.int IntKind.u8 (0), Value.int IntKind.u8 (0), Value.int IntKind.u8 (0), Value.int IntKind.u8 (0), Value.int IntKind.u8 (0), Value.int IntKind.u8 (0), Value.int IntKind.u8 (0), Value.int IntKind.u8 (0), Value.int IntKind.u8 (0), Value.int IntKind.u8 (0), Value.int IntKind.u8 (0), Value.int IntKind.u8 (0), Value.int IntKind.u8 (0), Value.int IntKind.u8 (0), Value.int IntKind.u8 (0), Value.int IntKind.u8 (0), Value.int IntKind.u8 (0), Value.int IntKind.u8 (0), Value.int IntKind.u8 (0)], fields := [], elem := none, str := false, flat := none })]

theorem tbl_ok : TblOk Tryz.prog tbl :=
  (.cons (by kernel_rfl) (.cons (by kernel_rfl) (.cons (by kernel_rfl) (.cons (by kernel_rfl) (.cons (by kernel_rfl) (.cons (by kernel_rfl) (.cons (by kernel_rfl) (.cons (by kernel_rfl) (.cons (by kernel_rfl) (.cons (by kernel_rfl) (.cons (by kernel_rfl) (.cons (by kernel_rfl) (.cons (by kernel_rfl) (.cons (by kernel_rfl) (.cons (by kernel_rfl) (.cons (by kernel_rfl) (.cons (by kernel_rfl) (.cons (by kernel_rfl) (.cons (by kernel_rfl) (.cons (by kernel_rfl) (.cons (by kernel_rfl) (.cons (by kernel_rfl) (.cons (by kernel_rfl) (.cons (by kernel_rfl) (.cons (by kernel_rfl) (.cons (by kernel_rfl) (.cons (by kernel_rfl) (.cons (by kernel_rfl) (.cons (by kernel_rfl) (.cons (by kernel_rfl) (.cons (by kernel_rfl) (.cons (by kernel_rfl) (.cons (by kernel_rfl) (.cons (by kernel_rfl) (.cons (by kernel_rfl) (.cons (by kernel_rfl) (.cons (by kernel_rfl) (.cons (by kernel_rfl) (.cons (by kernel_rfl) (.cons (by kernel_rfl) (.cons (by kernel_rfl) (.cons (by kernel_rfl) (.cons (by kernel_rfl) (.cons (by kernel_rfl) (.cons (by kernel_rfl) (.cons (by kernel_rfl) (.cons (by kernel_rfl) (.cons (by kernel_rfl) (.cons (by kernel_rfl) (.cons (by kernel_rfl) (.cons (by kernel_rfl) (.cons (by kernel_rfl) (.cons (by kernel_rfl) (.cons (by kernel_rfl) (.cons (by kernel_rfl) (.cons (by kernel_rfl) (.cons (by kernel_rfl) (.cons (by kernel_rfl) (.cons (by kernel_rfl) (.cons (by kernel_rfl) (.cons (by kernel_rfl) (.cons (by kernel_rfl) (.cons (by kernel_rfl) (.cons (by kernel_rfl) (.cons (by kernel_rfl) (.cons (by kernel_rfl) (.cons (by kernel_rfl) (.cons (by kernel_rfl) (.cons (by kernel_rfl) (.cons (by kernel_rfl) (.cons (by kernel_rfl) (.cons (by kernel_rfl) (.cons (by kernel_rfl) (.cons (by kernel_rfl) (.cons (by kernel_rfl) (.cons (by kernel_rfl) .nil))))))))))))))))))))))))))))))))))))))))))))))))))))))))))))))))))))))))))))
theorem szIntS (xs : List Int) (left : Int) (ho : xs.length ≤ maxLen) (h0 : 0 ≤ left) (h1 : left ≤ 1048576) : Meets Tryz.prog 77 [.one (sInt xs), .one (vi left)] [.one (vi (szR (xs.length) left))] := by
  have hl : xs.length ≤ 9223372036854775807 := ho
  refine enterW tbl_ok false Tryz.func77 rfl (by decide) fun W => ?_
  conv => whnf
  refine ⟨by simp only [inR]; omega, ?_⟩
  conv => whnf
  refine ⟨fun h => ?_, fun h => ?_⟩ <;> simp only [decide_eq_true_eq, decide_eq_false_iff_not] at h <;> conv => whnf
  · refine retW tbl_ok rfl rfl ⟨?_, trivial⟩
    conv => whnf
    rw [szR_neg (by omega)]
  · refine retW tbl_ok rfl rfl ⟨?_, trivial⟩
    conv => whnf
    rw [szR_pos (by omega)]

theorem szNode (x : GNode) (left : Int) (ho : x.ok) (h0 : 0 ≤ left) (h1 : left ≤ 1048576) : Meets Tryz.prog 74 [.agg x.c, .one (vi left)] [.one (vi (szR x.w left))] := by
  have hw : x.w = x.outs.length := rfl
  obtain ⟨o_kind, o_a, o_b, o_outs⟩ := ho
  refine enterW tbl_ok false Tryz.func74 rfl (by decide) fun W => ?_
  conv => whnf
  refine callR (szIntS x.outs (left) o_outs.1 (by omega) (by omega)) rfl (go tbl_ok false ?_)
  conv => whnf
  refine ⟨fun h => ?_, fun h => ?_⟩ <;> simp only [decide_eq_true_eq, decide_eq_false_iff_not] at h <;> conv => whnf
  · refine retW tbl_ok rfl rfl ⟨?_, trivial⟩
    conv => whnf
    have h := szR_lt h (by omega)
    rw [szR_neg (by omega)]
  have h_outs := szR_ge h
  rw [szR_pos h_outs]
  refine retW tbl_ok rfl rfl ⟨?_, trivial⟩
  conv => whnf
  rw [szR_pos (by omega)]
  exact congrArg vi (by omega)

theorem szNodeS (xs : List GNode) (left : Int) (ho : xs.length ≤ maxLen ∧ ∀ y ∈ xs, GNode.ok y) (h0 : 0 ≤ left) (h1 : left ≤ 1048576) : Meets Tryz.prog 45 [.one (sGNode xs), .one (vi left)] [.one (vi (szR (wS GNode.w xs) left))] := by
  have hl : xs.length ≤ 9223372036854775807 := ho.1
  refine enterW tbl_ok false Tryz.func45 rfl (by decide) fun W => ?_
  conv => whnf
  refine ⟨by simp only [inR]; omega, ?_⟩
  conv => whnf
  refine ⟨fun h => ?_, fun h => ?_⟩ <;> simp only [decide_eq_true_eq, decide_eq_false_iff_not] at h <;> conv => whnf
  · refine retW tbl_ok rfl rfl ⟨?_, trivial⟩
    conv => whnf
    rw [szR_neg (by rw [wS_eq]; omega)]
  refine loopW tbl_ok false [] (fun k : Nat => [(1, .c (vi (left - xs.length - (((xs.take k).map GNode.w).sum : Nat)))), (5, .c (vi k))]) (fun _ => []) (fun _ => [])
    (fun k => k ≤ xs.length ∧ 0 ≤ left - xs.length - (((xs.take k).map GNode.w).sum : Nat)) (fun k => xs.length - k) 0 ⟨Nat.zero_le _, by simp; omega⟩ ⟨by simp [nth, ren2, ren1, ren0], rfl, trivial⟩ trivial trivial trivial (by kernel_rfl) (fun k hk => ?_)
  obtain ⟨hk, hp⟩ := hk
  conv => whnf
  refine ⟨fun h => ?_, fun h => ?_⟩ <;> simp only [decide_eq_true_eq, decide_eq_false_iff_not] at h <;> conv => whnf
  · have h : k < xs.length := by omega
    have hle := wS_take_le GNode.w xs k h
    have hst := wS_take GNode.w xs k h
    refine ⟨by omega, ?_⟩
    conv => whnf
    refine callR (szNode (xs.getD k default) _ (ho.2 _ (by rw [List.getD, List.getElem?_eq_getElem h]; exact List.getElem_mem h)) hp (by omega)) rfl (go tbl_ok false ?_)
    conv => whnf
    refine ⟨fun h' => ?_, fun h' => ?_⟩ <;> simp only [decide_eq_true_eq, decide_eq_false_iff_not] at h' <;> conv => whnf
    · refine retW tbl_ok rfl rfl ⟨?_, trivial⟩
      conv => whnf
      have h' := szR_lt h' hp
      rw [szR_neg (by rw [wS_eq]; omega)]
    · have h' := szR_ge h'
      refine ⟨by simp only [inR]; omega, ?_⟩
      conv => whnf
      refine loopE [] (k + 1) ⟨by omega, by omega⟩ (by omega) ⟨?_, rfl, trivial⟩ trivial trivial (by kernel_rfl) trivial (by kernel_rfl)
      conv => whnf
      rw [szR_pos h']
      exact congrArg (fun n => AV.c (vi n)) (by omega)
  · refine retW tbl_ok rfl rfl ⟨?_, trivial⟩
    conv => whnf
    have := wS_all GNode.w xs k (by omega)
    rw [szR_pos (by rw [wS_eq]; omega)]
    exact congrArg vi (by rw [wS_eq]; omega)

theorem szGraph (x : GGraph) (left : Int) (ho : x.ok) (h0 : 0 ≤ left) (h1 : left ≤ 1048576) : Meets Tryz.prog 16 [.agg x.c, .one (vi left)] [.one (vi (szR x.w left))] := by
  have hw : x.w = wS GNode.w x.nodes := rfl
  obtain ⟨o_nodes, o_workers, o_cap⟩ := ho
  refine enterW tbl_ok false Tryz.func16 rfl (by decide) fun W => ?_
  conv => whnf
  refine callR (szNodeS x.nodes (left) o_nodes (by omega) (by omega)) rfl (go tbl_ok false ?_)
  conv => whnf
  refine ⟨fun h => ?_, fun h => ?_⟩ <;> simp only [decide_eq_true_eq, decide_eq_false_iff_not] at h <;> conv => whnf
  · refine retW tbl_ok rfl rfl ⟨?_, trivial⟩
    conv => whnf
    have h := szR_lt h (by omega)
    rw [szR_neg (by omega)]
  have h_nodes := szR_ge h
  rw [szR_pos h_nodes]
  refine retW tbl_ok rfl rfl ⟨?_, trivial⟩
  conv => whnf
  rw [szR_pos (by omega)]
  exact congrArg vi (by omega)

theorem szRecordS (xs : List GRecord) (left : Int) (ho : xs.length ≤ maxLen) (h0 : 0 ≤ left) (h1 : left ≤ 1048576) : Meets Tryz.prog 75 [.one (sGRecord xs), .one (vi left)] [.one (vi (szR (xs.length) left))] := by
  have hl : xs.length ≤ 9223372036854775807 := ho
  refine enterW tbl_ok false Tryz.func75 rfl (by decide) fun W => ?_
  conv => whnf
  refine ⟨by simp only [inR]; omega, ?_⟩
  conv => whnf
  refine ⟨fun h => ?_, fun h => ?_⟩ <;> simp only [decide_eq_true_eq, decide_eq_false_iff_not] at h <;> conv => whnf
  · refine retW tbl_ok rfl rfl ⟨?_, trivial⟩
    conv => whnf
    rw [szR_neg (by omega)]
  · refine retW tbl_ok rfl rfl ⟨?_, trivial⟩
    conv => whnf
    rw [szR_pos (by omega)]

theorem szCellS (xs : List GCell) (left : Int) (ho : xs.length ≤ maxLen) (h0 : 0 ≤ left) (h1 : left ≤ 1048576) : Meets Tryz.prog 76 [.one (sGCell xs), .one (vi left)] [.one (vi (szR (xs.length) left))] := by
  have hl : xs.length ≤ 9223372036854775807 := ho
  refine enterW tbl_ok false Tryz.func76 rfl (by decide) fun W => ?_
  conv => whnf
  refine ⟨by simp only [inR]; omega, ?_⟩
  conv => whnf
  refine ⟨fun h => ?_, fun h => ?_⟩ <;> simp only [decide_eq_true_eq, decide_eq_false_iff_not] at h <;> conv => whnf
  · refine retW tbl_ok rfl rfl ⟨?_, trivial⟩
    conv => whnf
    rw [szR_neg (by omega)]
  · refine retW tbl_ok rfl rfl ⟨?_, trivial⟩
    conv => whnf
    rw [szR_pos (by omega)]

theorem szBoolS (xs : List Bool) (left : Int) (ho : xs.length ≤ maxLen) (h0 : 0 ≤ left) (h1 : left ≤ 1048576) : Meets Tryz.prog 78 [.one (sBool xs), .one (vi left)] [.one (vi (szR (xs.length) left))] := by
  have hl : xs.length ≤ 9223372036854775807 := ho
  refine enterW tbl_ok false Tryz.func78 rfl (by decide) fun W => ?_
  conv => whnf
  refine ⟨by simp only [inR]; omega, ?_⟩
  conv => whnf
  refine ⟨fun h => ?_, fun h => ?_⟩ <;> simp only [decide_eq_true_eq, decide_eq_false_iff_not] at h <;> conv => whnf
  · refine retW tbl_ok rfl rfl ⟨?_, trivial⟩
    conv => whnf
    rw [szR_neg (by omega)]
  · refine retW tbl_ok rfl rfl ⟨?_, trivial⟩
    conv => whnf
    rw [szR_pos (by omega)]

theorem szDoneS (xs : List GDone) (left : Int) (ho : xs.length ≤ maxLen) (h0 : 0 ≤ left) (h1 : left ≤ 1048576) : Meets Tryz.prog 79 [.one (sGDone xs), .one (vi left)] [.one (vi (szR (xs.length) left))] := by
  have hl : xs.length ≤ 9223372036854775807 := ho
  refine enterW tbl_ok false Tryz.func79 rfl (by decide) fun W => ?_
  conv => whnf
  refine ⟨by simp only [inR]; omega, ?_⟩
  conv => whnf
  refine ⟨fun h => ?_, fun h => ?_⟩ <;> simp only [decide_eq_true_eq, decide_eq_false_iff_not] at h <;> conv => whnf
  · refine retW tbl_ok rfl rfl ⟨?_, trivial⟩
    conv => whnf
    rw [szR_neg (by omega)]
  · refine retW tbl_ok rfl rfl ⟨?_, trivial⟩
    conv => whnf
    rw [szR_pos (by omega)]

theorem szWorker (x : GWorker) (left : Int) (ho : x.ok) (h0 : 0 ≤ left) (h1 : left ≤ 1048576) : Meets Tryz.prog 46 [.agg x.c, .one (vi left)] [.one (vi (szR x.w left))] := by
  have hw : x.w = x.queue.length + x.staged.length + x.inputs.length + x.cells.length + x.sums.length + x.black.length + x.caps.length + x.dones.length := rfl
  obtain ⟨o_queue, o_staged, o_inputs, o_cells, o_sums, o_black, o_caps, o_dones⟩ := ho
  refine enterW tbl_ok false Tryz.func46 rfl (by decide) fun W => ?_
  conv => whnf
  refine callR (szRecordS x.queue (left) o_queue.1 (by omega) (by omega)) rfl (go tbl_ok false ?_)
  conv => whnf
  refine ⟨fun h => ?_, fun h => ?_⟩ <;> simp only [decide_eq_true_eq, decide_eq_false_iff_not] at h <;> conv => whnf
  · refine retW tbl_ok rfl rfl ⟨?_, trivial⟩
    conv => whnf
    have h := szR_lt h (by omega)
    rw [szR_neg (by omega)]
  have h_queue := szR_ge h
  rw [szR_pos h_queue]
  refine callR (szRecordS x.staged (left - (x.queue.length : Nat)) o_staged.1 (by omega) (by omega)) rfl (go tbl_ok false ?_)
  conv => whnf
  refine ⟨fun h => ?_, fun h => ?_⟩ <;> simp only [decide_eq_true_eq, decide_eq_false_iff_not] at h <;> conv => whnf
  · refine retW tbl_ok rfl rfl ⟨?_, trivial⟩
    conv => whnf
    have h := szR_lt h (by omega)
    rw [szR_neg (by omega)]
  have h_staged := szR_ge h
  rw [szR_pos h_staged]
  refine callR (szRecordS x.inputs (left - (x.queue.length : Nat) - (x.staged.length : Nat)) o_inputs.1 (by omega) (by omega)) rfl (go tbl_ok false ?_)
  conv => whnf
  refine ⟨fun h => ?_, fun h => ?_⟩ <;> simp only [decide_eq_true_eq, decide_eq_false_iff_not] at h <;> conv => whnf
  · refine retW tbl_ok rfl rfl ⟨?_, trivial⟩
    conv => whnf
    have h := szR_lt h (by omega)
    rw [szR_neg (by omega)]
  have h_inputs := szR_ge h
  rw [szR_pos h_inputs]
  refine callR (szCellS x.cells (left - (x.queue.length : Nat) - (x.staged.length : Nat) - (x.inputs.length : Nat)) o_cells.1 (by omega) (by omega)) rfl (go tbl_ok false ?_)
  conv => whnf
  refine ⟨fun h => ?_, fun h => ?_⟩ <;> simp only [decide_eq_true_eq, decide_eq_false_iff_not] at h <;> conv => whnf
  · refine retW tbl_ok rfl rfl ⟨?_, trivial⟩
    conv => whnf
    have h := szR_lt h (by omega)
    rw [szR_neg (by omega)]
  have h_cells := szR_ge h
  rw [szR_pos h_cells]
  refine callR (szIntS x.sums (left - (x.queue.length : Nat) - (x.staged.length : Nat) - (x.inputs.length : Nat) - (x.cells.length : Nat)) o_sums.1 (by omega) (by omega)) rfl (go tbl_ok false ?_)
  conv => whnf
  refine ⟨fun h => ?_, fun h => ?_⟩ <;> simp only [decide_eq_true_eq, decide_eq_false_iff_not] at h <;> conv => whnf
  · refine retW tbl_ok rfl rfl ⟨?_, trivial⟩
    conv => whnf
    have h := szR_lt h (by omega)
    rw [szR_neg (by omega)]
  have h_sums := szR_ge h
  rw [szR_pos h_sums]
  refine callR (szBoolS x.black (left - (x.queue.length : Nat) - (x.staged.length : Nat) - (x.inputs.length : Nat) - (x.cells.length : Nat) - (x.sums.length : Nat)) o_black (by omega) (by omega)) rfl (go tbl_ok false ?_)
  conv => whnf
  refine ⟨fun h => ?_, fun h => ?_⟩ <;> simp only [decide_eq_true_eq, decide_eq_false_iff_not] at h <;> conv => whnf
  · refine retW tbl_ok rfl rfl ⟨?_, trivial⟩
    conv => whnf
    have h := szR_lt h (by omega)
    rw [szR_neg (by omega)]
  have h_black := szR_ge h
  rw [szR_pos h_black]
  refine callR (szBoolS x.caps (left - (x.queue.length : Nat) - (x.staged.length : Nat) - (x.inputs.length : Nat) - (x.cells.length : Nat) - (x.sums.length : Nat) - (x.black.length : Nat)) o_caps (by omega) (by omega)) rfl (go tbl_ok false ?_)
  conv => whnf
  refine ⟨fun h => ?_, fun h => ?_⟩ <;> simp only [decide_eq_true_eq, decide_eq_false_iff_not] at h <;> conv => whnf
  · refine retW tbl_ok rfl rfl ⟨?_, trivial⟩
    conv => whnf
    have h := szR_lt h (by omega)
    rw [szR_neg (by omega)]
  have h_caps := szR_ge h
  rw [szR_pos h_caps]
  refine callR (szDoneS x.dones (left - (x.queue.length : Nat) - (x.staged.length : Nat) - (x.inputs.length : Nat) - (x.cells.length : Nat) - (x.sums.length : Nat) - (x.black.length : Nat) - (x.caps.length : Nat)) o_dones.1 (by omega) (by omega)) rfl (go tbl_ok false ?_)
  conv => whnf
  refine ⟨fun h => ?_, fun h => ?_⟩ <;> simp only [decide_eq_true_eq, decide_eq_false_iff_not] at h <;> conv => whnf
  · refine retW tbl_ok rfl rfl ⟨?_, trivial⟩
    conv => whnf
    have h := szR_lt h (by omega)
    rw [szR_neg (by omega)]
  have h_dones := szR_ge h
  rw [szR_pos h_dones]
  refine retW tbl_ok rfl rfl ⟨?_, trivial⟩
  conv => whnf
  rw [szR_pos (by omega)]
  exact congrArg vi (by omega)

theorem szWorkerS (xs : List GWorker) (left : Int) (ho : xs.length ≤ maxLen ∧ ∀ y ∈ xs, GWorker.ok y) (h0 : 0 ≤ left) (h1 : left ≤ 1048576) : Meets Tryz.prog 17 [.one (sGWorker xs), .one (vi left)] [.one (vi (szR (wS GWorker.w xs) left))] := by
  have hl : xs.length ≤ 9223372036854775807 := ho.1
  refine enterW tbl_ok false Tryz.func17 rfl (by decide) fun W => ?_
  conv => whnf
  refine ⟨by simp only [inR]; omega, ?_⟩
  conv => whnf
  refine ⟨fun h => ?_, fun h => ?_⟩ <;> simp only [decide_eq_true_eq, decide_eq_false_iff_not] at h <;> conv => whnf
  · refine retW tbl_ok rfl rfl ⟨?_, trivial⟩
    conv => whnf
    rw [szR_neg (by rw [wS_eq]; omega)]
  refine loopW tbl_ok false [] (fun k : Nat => [(1, .c (vi (left - xs.length - (((xs.take k).map GWorker.w).sum : Nat)))), (5, .c (vi k))]) (fun _ => []) (fun _ => [])
    (fun k => k ≤ xs.length ∧ 0 ≤ left - xs.length - (((xs.take k).map GWorker.w).sum : Nat)) (fun k => xs.length - k) 0 ⟨Nat.zero_le _, by simp; omega⟩ ⟨by simp [nth, ren2, ren1, ren0], rfl, trivial⟩ trivial trivial trivial (by kernel_rfl) (fun k hk => ?_)
  obtain ⟨hk, hp⟩ := hk
  conv => whnf
  refine ⟨fun h => ?_, fun h => ?_⟩ <;> simp only [decide_eq_true_eq, decide_eq_false_iff_not] at h <;> conv => whnf
  · have h : k < xs.length := by omega
    have hle := wS_take_le GWorker.w xs k h
    have hst := wS_take GWorker.w xs k h
    refine ⟨by omega, ?_⟩
    conv => whnf
    refine callR (szWorker (xs.getD k default) _ (ho.2 _ (by rw [List.getD, List.getElem?_eq_getElem h]; exact List.getElem_mem h)) hp (by omega)) rfl (go tbl_ok false ?_)
    conv => whnf
    refine ⟨fun h' => ?_, fun h' => ?_⟩ <;> simp only [decide_eq_true_eq, decide_eq_false_iff_not] at h' <;> conv => whnf
    · refine retW tbl_ok rfl rfl ⟨?_, trivial⟩
      conv => whnf
      have h' := szR_lt h' hp
      rw [szR_neg (by rw [wS_eq]; omega)]
    · have h' := szR_ge h'
      refine ⟨by simp only [inR]; omega, ?_⟩
      conv => whnf
      refine loopE [] (k + 1) ⟨by omega, by omega⟩ (by omega) ⟨?_, rfl, trivial⟩ trivial trivial (by kernel_rfl) trivial (by kernel_rfl)
      conv => whnf
      rw [szR_pos h']
      exact congrArg (fun n => AV.c (vi n)) (by omega)
  · refine retW tbl_ok rfl rfl ⟨?_, trivial⟩
    conv => whnf
    have := wS_all GWorker.w xs k (by omega)
    rw [szR_pos (by rw [wS_eq]; omega)]
    exact congrArg vi (by rw [wS_eq]; omega)

theorem szLink (x : GLink) (left : Int) (ho : x.ok) (h0 : 0 ≤ left) (h1 : left ≤ 1048576) : Meets Tryz.prog 47 [.agg x.c, .one (vi left)] [.one (vi (szR x.w left))] := by
  have hw : x.w = x.queue.length := rfl
  obtain ⟨o_cap, o_queue, o_credits, o_back, o_sent, o_got⟩ := ho
  refine enterW tbl_ok false Tryz.func47 rfl (by decide) fun W => ?_
  conv => whnf
  refine callR (szRecordS x.queue (left) o_queue.1 (by omega) (by omega)) rfl (go tbl_ok false ?_)
  conv => whnf
  refine ⟨fun h => ?_, fun h => ?_⟩ <;> simp only [decide_eq_true_eq, decide_eq_false_iff_not] at h <;> conv => whnf
  · refine retW tbl_ok rfl rfl ⟨?_, trivial⟩
    conv => whnf
    have h := szR_lt h (by omega)
    rw [szR_neg (by omega)]
  have h_queue := szR_ge h
  rw [szR_pos h_queue]
  refine retW tbl_ok rfl rfl ⟨?_, trivial⟩
  conv => whnf
  rw [szR_pos (by omega)]
  exact congrArg vi (by omega)

theorem szLinkS (xs : List GLink) (left : Int) (ho : xs.length ≤ maxLen ∧ ∀ y ∈ xs, GLink.ok y) (h0 : 0 ≤ left) (h1 : left ≤ 1048576) : Meets Tryz.prog 18 [.one (sGLink xs), .one (vi left)] [.one (vi (szR (wS GLink.w xs) left))] := by
  have hl : xs.length ≤ 9223372036854775807 := ho.1
  refine enterW tbl_ok false Tryz.func18 rfl (by decide) fun W => ?_
  conv => whnf
  refine ⟨by simp only [inR]; omega, ?_⟩
  conv => whnf
  refine ⟨fun h => ?_, fun h => ?_⟩ <;> simp only [decide_eq_true_eq, decide_eq_false_iff_not] at h <;> conv => whnf
  · refine retW tbl_ok rfl rfl ⟨?_, trivial⟩
    conv => whnf
    rw [szR_neg (by rw [wS_eq]; omega)]
  refine loopW tbl_ok false [] (fun k : Nat => [(1, .c (vi (left - xs.length - (((xs.take k).map GLink.w).sum : Nat)))), (5, .c (vi k))]) (fun _ => []) (fun _ => [])
    (fun k => k ≤ xs.length ∧ 0 ≤ left - xs.length - (((xs.take k).map GLink.w).sum : Nat)) (fun k => xs.length - k) 0 ⟨Nat.zero_le _, by simp; omega⟩ ⟨by simp [nth, ren2, ren1, ren0], rfl, trivial⟩ trivial trivial trivial (by kernel_rfl) (fun k hk => ?_)
  obtain ⟨hk, hp⟩ := hk
  conv => whnf
  refine ⟨fun h => ?_, fun h => ?_⟩ <;> simp only [decide_eq_true_eq, decide_eq_false_iff_not] at h <;> conv => whnf
  · have h : k < xs.length := by omega
    have hle := wS_take_le GLink.w xs k h
    have hst := wS_take GLink.w xs k h
    refine ⟨by omega, ?_⟩
    conv => whnf
    refine callR (szLink (xs.getD k default) _ (ho.2 _ (by rw [List.getD, List.getElem?_eq_getElem h]; exact List.getElem_mem h)) hp (by omega)) rfl (go tbl_ok false ?_)
    conv => whnf
    refine ⟨fun h' => ?_, fun h' => ?_⟩ <;> simp only [decide_eq_true_eq, decide_eq_false_iff_not] at h' <;> conv => whnf
    · refine retW tbl_ok rfl rfl ⟨?_, trivial⟩
      conv => whnf
      have h' := szR_lt h' hp
      rw [szR_neg (by rw [wS_eq]; omega)]
    · have h' := szR_ge h'
      refine ⟨by simp only [inR]; omega, ?_⟩
      conv => whnf
      refine loopE [] (k + 1) ⟨by omega, by omega⟩ (by omega) ⟨?_, rfl, trivial⟩ trivial trivial (by kernel_rfl) trivial (by kernel_rfl)
      conv => whnf
      rw [szR_pos h']
      exact congrArg (fun n => AV.c (vi n)) (by omega)
  · refine retW tbl_ok rfl rfl ⟨?_, trivial⟩
    conv => whnf
    have := wS_all GLink.w xs k (by omega)
    rw [szR_pos (by rw [wS_eq]; omega)]
    exact congrArg vi (by rw [wS_eq]; omega)

theorem szTokenS (xs : List GToken) (left : Int) (ho : xs.length ≤ maxLen) (h0 : 0 ≤ left) (h1 : left ≤ 1048576) : Meets Tryz.prog 19 [.one (sGToken xs), .one (vi left)] [.one (vi (szR (xs.length) left))] := by
  have hl : xs.length ≤ 9223372036854775807 := ho
  refine enterW tbl_ok false Tryz.func19 rfl (by decide) fun W => ?_
  conv => whnf
  refine ⟨by simp only [inR]; omega, ?_⟩
  conv => whnf
  refine ⟨fun h => ?_, fun h => ?_⟩ <;> simp only [decide_eq_true_eq, decide_eq_false_iff_not] at h <;> conv => whnf
  · refine retW tbl_ok rfl rfl ⟨?_, trivial⟩
    conv => whnf
    rw [szR_neg (by omega)]
  · refine retW tbl_ok rfl rfl ⟨?_, trivial⟩
    conv => whnf
    rw [szR_pos (by omega)]

theorem szNewsS (xs : List GNews) (left : Int) (ho : xs.length ≤ maxLen) (h0 : 0 ≤ left) (h1 : left ≤ 1048576) : Meets Tryz.prog 20 [.one (sGNews xs), .one (vi left)] [.one (vi (szR (xs.length) left))] := by
  have hl : xs.length ≤ 9223372036854775807 := ho
  refine enterW tbl_ok false Tryz.func20 rfl (by decide) fun W => ?_
  conv => whnf
  refine ⟨by simp only [inR]; omega, ?_⟩
  conv => whnf
  refine ⟨fun h => ?_, fun h => ?_⟩ <;> simp only [decide_eq_true_eq, decide_eq_false_iff_not] at h <;> conv => whnf
  · refine retW tbl_ok rfl rfl ⟨?_, trivial⟩
    conv => whnf
    rw [szR_neg (by omega)]
  · refine retW tbl_ok rfl rfl ⟨?_, trivial⟩
    conv => whnf
    rw [szR_pos (by omega)]

theorem szCluster (x : GCluster) (left : Int) (ho : x.ok) (h0 : 0 ≤ left) (h1 : left ≤ 1048576) : Meets Tryz.prog 5 [.agg x.c, .one (vi left)] [.one (vi (szR x.w left))] := by
  have hw : x.w = x.graph.w + wS GWorker.w x.workers + wS GLink.w x.links + x.tokens.length + x.news.length := rfl
  obtain ⟨o_graph, o_workers, o_links, o_tokens, o_news⟩ := ho
  refine enterW tbl_ok false Tryz.func5 rfl (by decide) fun W => ?_
  conv => whnf
  refine callR (szGraph x.graph (left) o_graph (by omega) (by omega)) rfl (go tbl_ok false ?_)
  conv => whnf
  refine ⟨fun h => ?_, fun h => ?_⟩ <;> simp only [decide_eq_true_eq, decide_eq_false_iff_not] at h <;> conv => whnf
  · refine retW tbl_ok rfl rfl ⟨?_, trivial⟩
    conv => whnf
    have h := szR_lt h (by omega)
    rw [szR_neg (by omega)]
  have h_graph := szR_ge h
  rw [szR_pos h_graph]
  refine callR (szWorkerS x.workers (left - (x.graph.w : Nat)) o_workers (by omega) (by omega)) rfl (go tbl_ok false ?_)
  conv => whnf
  refine ⟨fun h => ?_, fun h => ?_⟩ <;> simp only [decide_eq_true_eq, decide_eq_false_iff_not] at h <;> conv => whnf
  · refine retW tbl_ok rfl rfl ⟨?_, trivial⟩
    conv => whnf
    have h := szR_lt h (by omega)
    rw [szR_neg (by omega)]
  have h_workers := szR_ge h
  rw [szR_pos h_workers]
  refine callR (szLinkS x.links (left - (x.graph.w : Nat) - (wS GWorker.w x.workers : Nat)) o_links (by omega) (by omega)) rfl (go tbl_ok false ?_)
  conv => whnf
  refine ⟨fun h => ?_, fun h => ?_⟩ <;> simp only [decide_eq_true_eq, decide_eq_false_iff_not] at h <;> conv => whnf
  · refine retW tbl_ok rfl rfl ⟨?_, trivial⟩
    conv => whnf
    have h := szR_lt h (by omega)
    rw [szR_neg (by omega)]
  have h_links := szR_ge h
  rw [szR_pos h_links]
  refine callR (szTokenS x.tokens (left - (x.graph.w : Nat) - (wS GWorker.w x.workers : Nat) - (wS GLink.w x.links : Nat)) o_tokens.1 (by omega) (by omega)) rfl (go tbl_ok false ?_)
  conv => whnf
  refine ⟨fun h => ?_, fun h => ?_⟩ <;> simp only [decide_eq_true_eq, decide_eq_false_iff_not] at h <;> conv => whnf
  · refine retW tbl_ok rfl rfl ⟨?_, trivial⟩
    conv => whnf
    have h := szR_lt h (by omega)
    rw [szR_neg (by omega)]
  have h_tokens := szR_ge h
  rw [szR_pos h_tokens]
  refine callR (szNewsS x.news (left - (x.graph.w : Nat) - (wS GWorker.w x.workers : Nat) - (wS GLink.w x.links : Nat) - (x.tokens.length : Nat)) o_news.1 (by omega) (by omega)) rfl (go tbl_ok false ?_)
  conv => whnf
  refine ⟨fun h => ?_, fun h => ?_⟩ <;> simp only [decide_eq_true_eq, decide_eq_false_iff_not] at h <;> conv => whnf
  · refine retW tbl_ok rfl rfl ⟨?_, trivial⟩
    conv => whnf
    have h := szR_lt h (by omega)
    rw [szR_neg (by omega)]
  have h_news := szR_ge h
  rw [szR_pos h_news]
  refine retW tbl_ok rfl rfl ⟨?_, trivial⟩
  conv => whnf
  rw [szR_pos (by omega)]
  exact congrArg vi (by omega)

theorem toIntS (xs : List Int) (hx : xs.length ≤ 1048576) : Meets Tryz.prog 86 [.one (sInt xs)] [.one (sInt xs)] := by
  have hl := hx
  refine enterW tbl_ok false Tryz.func86 rfl (by decide) fun W => ?_
  conv => whnf
  refine ⟨by omega, ?_⟩
  conv => whnf
  refine castW 0 (sInt (List.replicate xs.length default)) rfl (cast_make (α := Int) (e := (fun n => [vi n])) xs.length ⟨.inl rfl, trivial⟩) ?_
  refine loopW tbl_ok false [] (fun k : Nat => [(4, .c (vi k))]) (fun _ => []) (fun k => [⟨0, sInt (xs.take k ++ List.replicate (xs.length - k) default)⟩])
    (fun k => k ≤ xs.length) (fun k => xs.length - k) 0 (Nat.zero_le _) ⟨rfl, trivial⟩ trivial ⟨?_, trivial⟩ trivial (by kernel_rfl) (fun k hk => ?_)
  · conv => whnf
    exact rep_start (e := (fun n => [vi n])) xs
  conv => whnf
  refine ⟨fun h => ?_, fun h => ?_⟩ <;> simp at h <;> conv => whnf
  · refine ⟨by omega, ?_⟩
    conv => whnf
    refine ⟨by simp; omega, ?_⟩
    conv => whnf
    refine storeW tbl_ok rfl rfl rfl rfl rfl rfl rfl rfl _ (slC_set (xs := xs.take k ++ List.replicate (xs.length - k) default) (x := xs.getD k default) (e := (fun n => [vi n])) (by simp; omega) ?_) (go tbl_ok false ?_)
    · rfl
    conv => whnf
    refine ⟨by simp only [inR]; omega, ?_⟩
    conv => whnf
    refine loopE [] (k + 1) (by omega) (by omega) ⟨rfl, trivial⟩ ⟨?_, trivial⟩ trivial (by kernel_rfl) trivial (by kernel_rfl)
    conv => whnf
    exact congrArg (slC 1 (fun n => [vi n])) (take_rep_set xs k default h)
  · exact retW tbl_ok rfl rfl ⟨by conv => whnf
                                  rw [take_rep_end _ _ _ (by omega)], trivial⟩

theorem toNode (x : GNode) (h : x.w ≤ 1048576) : Meets Tryz.prog 83 [.agg x.c] [.agg x.c] := by
  refine enterW tbl_ok false Tryz.func83 rfl (by decide) fun W => ?_
  conv => whnf
  refine callW (toIntS x.outs (by simp only [GNode.w] at h; omega)) rfl (go tbl_ok false ?_)
  conv => whnf
  exact retW tbl_ok rfl rfl ⟨⟨rfl, rfl, rfl, rfl, trivial⟩, trivial⟩

theorem toNodeS (xs : List GNode) (hx : wS GNode.w xs ≤ 1048576) : Meets Tryz.prog 51 [.one (sGNode xs)] [.one (sGNode xs)] := by
  have hl : xs.length ≤ 1048576 := by simp only [wS] at hx; omega
  refine enterW tbl_ok false Tryz.func51 rfl (by decide) fun W => ?_
  conv => whnf
  refine ⟨by omega, ?_⟩
  conv => whnf
  refine castW 0 (sGNode (List.replicate xs.length default)) rfl (cast_make (α := GNode) (e := GNode.c) xs.length ⟨.inl rfl, .inl rfl, .inl rfl, .nil _ _, trivial⟩) ?_
  refine loopW tbl_ok false [] (fun k : Nat => [(4, .c (vi k))]) (fun _ => []) (fun k => [⟨0, sGNode (xs.take k ++ List.replicate (xs.length - k) default)⟩])
    (fun k => k ≤ xs.length) (fun k => xs.length - k) 0 (Nat.zero_le _) ⟨rfl, trivial⟩ trivial ⟨?_, trivial⟩ trivial (by kernel_rfl) (fun k hk => ?_)
  · conv => whnf
    exact rep_start (e := GNode.c) xs
  conv => whnf
  refine ⟨fun h => ?_, fun h => ?_⟩ <;> simp at h <;> conv => whnf
  · refine ⟨by omega, ?_⟩
    conv => whnf
    refine callW (toNode (xs.getD k default) (by have := wS_take_le GNode.w xs k h; simp only [wS] at hx; omega)) rfl (go tbl_ok false ?_)
    conv => whnf
    refine ⟨by simp; omega, ?_⟩
    conv => whnf
    refine storeW tbl_ok rfl rfl rfl rfl rfl rfl rfl rfl _ (slC_set (xs := xs.take k ++ List.replicate (xs.length - k) default) (x := xs.getD k default) (e := GNode.c) (by simp; omega) ?_) (go tbl_ok false ?_)
    · rfl
    conv => whnf
    refine ⟨by simp only [inR]; omega, ?_⟩
    conv => whnf
    refine loopE [] (k + 1) (by omega) (by omega) ⟨rfl, trivial⟩ ⟨?_, trivial⟩ trivial (by kernel_rfl) trivial (by kernel_rfl)
    conv => whnf
    exact congrArg (slC 4 GNode.c) (take_rep_set xs k default h)
  · exact retW tbl_ok rfl rfl ⟨by conv => whnf
                                  rw [take_rep_end _ _ _ (by omega)], trivial⟩

theorem toGraph (x : GGraph) (h : x.w ≤ 1048576) : Meets Tryz.prog 23 [.agg x.c] [.agg x.c] := by
  refine enterW tbl_ok false Tryz.func23 rfl (by decide) fun W => ?_
  conv => whnf
  refine callW (toNodeS x.nodes (by simp only [GGraph.w] at h; omega)) rfl (go tbl_ok false ?_)
  conv => whnf
  exact retW tbl_ok rfl rfl ⟨⟨rfl, rfl, rfl, trivial⟩, trivial⟩

theorem toStamp (x : GStamp) : Meets Tryz.prog 116 [.agg x.c] [.agg x.c] := by
  refine enterW tbl_ok false Tryz.func116 rfl (by decide) fun W => ?_
  conv => whnf
  exact retW tbl_ok rfl rfl ⟨⟨rfl, rfl, trivial⟩, trivial⟩

theorem toRecord (x : GRecord) : Meets Tryz.prog 101 [.agg x.c] [.agg x.c] := by
  refine enterW tbl_ok false Tryz.func101 rfl (by decide) fun W => ?_
  conv => whnf
  refine callW (toStamp x.stamp) rfl (go tbl_ok false ?_)
  conv => whnf
  exact retW tbl_ok rfl rfl ⟨⟨rfl, rfl, rfl, rfl, rfl, trivial⟩, trivial⟩

theorem toRecordS (xs : List GRecord) (hx : xs.length ≤ 1048576) : Meets Tryz.prog 84 [.one (sGRecord xs)] [.one (sGRecord xs)] := by
  have hl := hx
  refine enterW tbl_ok false Tryz.func84 rfl (by decide) fun W => ?_
  conv => whnf
  refine ⟨by omega, ?_⟩
  conv => whnf
  refine castW 0 (sGRecord (List.replicate xs.length default)) rfl (cast_make (α := GRecord) (e := GRecord.c) xs.length ⟨.inl rfl, .inl rfl, .inl rfl, .inl rfl, .inl rfl, trivial⟩) ?_
  refine loopW tbl_ok false [] (fun k : Nat => [(4, .c (vi k))]) (fun _ => []) (fun k => [⟨0, sGRecord (xs.take k ++ List.replicate (xs.length - k) default)⟩])
    (fun k => k ≤ xs.length) (fun k => xs.length - k) 0 (Nat.zero_le _) ⟨rfl, trivial⟩ trivial ⟨?_, trivial⟩ trivial (by kernel_rfl) (fun k hk => ?_)
  · conv => whnf
    exact rep_start (e := GRecord.c) xs
  conv => whnf
  refine ⟨fun h => ?_, fun h => ?_⟩ <;> simp at h <;> conv => whnf
  · refine ⟨by omega, ?_⟩
    conv => whnf
    refine callW (toRecord (xs.getD k default)) rfl (go tbl_ok false ?_)
    conv => whnf
    refine ⟨by simp; omega, ?_⟩
    conv => whnf
    refine storeW tbl_ok rfl rfl rfl rfl rfl rfl rfl rfl _ (slC_set (xs := xs.take k ++ List.replicate (xs.length - k) default) (x := xs.getD k default) (e := GRecord.c) (by simp; omega) ?_) (go tbl_ok false ?_)
    · rfl
    conv => whnf
    refine ⟨by simp only [inR]; omega, ?_⟩
    conv => whnf
    refine loopE [] (k + 1) (by omega) (by omega) ⟨rfl, trivial⟩ ⟨?_, trivial⟩ trivial (by kernel_rfl) trivial (by kernel_rfl)
    conv => whnf
    exact congrArg (slC 5 GRecord.c) (take_rep_set xs k default h)
  · exact retW tbl_ok rfl rfl ⟨by conv => whnf
                                  rw [take_rep_end _ _ _ (by omega)], trivial⟩

theorem toCell (x : GCell) : Meets Tryz.prog 102 [.agg x.c] [.agg x.c] := by
  refine enterW tbl_ok false Tryz.func102 rfl (by decide) fun W => ?_
  conv => whnf
  exact retW tbl_ok rfl rfl ⟨⟨rfl, rfl, rfl, rfl, trivial⟩, trivial⟩

theorem toCellS (xs : List GCell) (hx : xs.length ≤ 1048576) : Meets Tryz.prog 85 [.one (sGCell xs)] [.one (sGCell xs)] := by
  have hl := hx
  refine enterW tbl_ok false Tryz.func85 rfl (by decide) fun W => ?_
  conv => whnf
  refine ⟨by omega, ?_⟩
  conv => whnf
  refine castW 0 (sGCell (List.replicate xs.length default)) rfl (cast_make (α := GCell) (e := GCell.c) xs.length ⟨.inl rfl, .inl rfl, .inl rfl, .inl rfl, trivial⟩) ?_
  refine loopW tbl_ok false [] (fun k : Nat => [(4, .c (vi k))]) (fun _ => []) (fun k => [⟨0, sGCell (xs.take k ++ List.replicate (xs.length - k) default)⟩])
    (fun k => k ≤ xs.length) (fun k => xs.length - k) 0 (Nat.zero_le _) ⟨rfl, trivial⟩ trivial ⟨?_, trivial⟩ trivial (by kernel_rfl) (fun k hk => ?_)
  · conv => whnf
    exact rep_start (e := GCell.c) xs
  conv => whnf
  refine ⟨fun h => ?_, fun h => ?_⟩ <;> simp at h <;> conv => whnf
  · refine ⟨by omega, ?_⟩
    conv => whnf
    refine callW (toCell (xs.getD k default)) rfl (go tbl_ok false ?_)
    conv => whnf
    refine ⟨by simp; omega, ?_⟩
    conv => whnf
    refine storeW tbl_ok rfl rfl rfl rfl rfl rfl rfl rfl _ (slC_set (xs := xs.take k ++ List.replicate (xs.length - k) default) (x := xs.getD k default) (e := GCell.c) (by simp; omega) ?_) (go tbl_ok false ?_)
    · rfl
    conv => whnf
    refine ⟨by simp only [inR]; omega, ?_⟩
    conv => whnf
    refine loopE [] (k + 1) (by omega) (by omega) ⟨rfl, trivial⟩ ⟨?_, trivial⟩ trivial (by kernel_rfl) trivial (by kernel_rfl)
    conv => whnf
    exact congrArg (slC 4 GCell.c) (take_rep_set xs k default h)
  · exact retW tbl_ok rfl rfl ⟨by conv => whnf
                                  rw [take_rep_end _ _ _ (by omega)], trivial⟩

theorem toBoolS (xs : List Bool) (hx : xs.length ≤ 1048576) : Meets Tryz.prog 87 [.one (sBool xs)] [.one (sBool xs)] := by
  have hl := hx
  refine enterW tbl_ok false Tryz.func87 rfl (by decide) fun W => ?_
  conv => whnf
  refine ⟨by omega, ?_⟩
  conv => whnf
  refine castW 0 (sBool (List.replicate xs.length default)) rfl (cast_make (α := Bool) (e := (fun b => [vb b])) xs.length ⟨.inl rfl, trivial⟩) ?_
  refine loopW tbl_ok false [] (fun k : Nat => [(4, .c (vi k))]) (fun _ => []) (fun k => [⟨0, sBool (xs.take k ++ List.replicate (xs.length - k) default)⟩])
    (fun k => k ≤ xs.length) (fun k => xs.length - k) 0 (Nat.zero_le _) ⟨rfl, trivial⟩ trivial ⟨?_, trivial⟩ trivial (by kernel_rfl) (fun k hk => ?_)
  · conv => whnf
    exact rep_start (e := (fun b => [vb b])) xs
  conv => whnf
  refine ⟨fun h => ?_, fun h => ?_⟩ <;> simp at h <;> conv => whnf
  · refine ⟨by omega, ?_⟩
    conv => whnf
    refine ⟨by simp; omega, ?_⟩
    conv => whnf
    refine storeW tbl_ok rfl rfl rfl rfl rfl rfl rfl rfl _ (slC_set (xs := xs.take k ++ List.replicate (xs.length - k) default) (x := xs.getD k default) (e := (fun b => [vb b])) (by simp; omega) ?_) (go tbl_ok false ?_)
    · rfl
    conv => whnf
    refine ⟨by simp only [inR]; omega, ?_⟩
    conv => whnf
    refine loopE [] (k + 1) (by omega) (by omega) ⟨rfl, trivial⟩ ⟨?_, trivial⟩ trivial (by kernel_rfl) trivial (by kernel_rfl)
    conv => whnf
    exact congrArg (slC 1 (fun b => [vb b])) (take_rep_set xs k default h)
  · exact retW tbl_ok rfl rfl ⟨by conv => whnf
                                  rw [take_rep_end _ _ _ (by omega)], trivial⟩

theorem toDone (x : GDone) : Meets Tryz.prog 103 [.agg x.c] [.agg x.c] := by
  refine enterW tbl_ok false Tryz.func103 rfl (by decide) fun W => ?_
  conv => whnf
  exact retW tbl_ok rfl rfl ⟨⟨rfl, rfl, trivial⟩, trivial⟩

theorem toDoneS (xs : List GDone) (hx : xs.length ≤ 1048576) : Meets Tryz.prog 88 [.one (sGDone xs)] [.one (sGDone xs)] := by
  have hl := hx
  refine enterW tbl_ok false Tryz.func88 rfl (by decide) fun W => ?_
  conv => whnf
  refine ⟨by omega, ?_⟩
  conv => whnf
  refine castW 0 (sGDone (List.replicate xs.length default)) rfl (cast_make (α := GDone) (e := GDone.c) xs.length ⟨.inl rfl, .inl rfl, trivial⟩) ?_
  refine loopW tbl_ok false [] (fun k : Nat => [(4, .c (vi k))]) (fun _ => []) (fun k => [⟨0, sGDone (xs.take k ++ List.replicate (xs.length - k) default)⟩])
    (fun k => k ≤ xs.length) (fun k => xs.length - k) 0 (Nat.zero_le _) ⟨rfl, trivial⟩ trivial ⟨?_, trivial⟩ trivial (by kernel_rfl) (fun k hk => ?_)
  · conv => whnf
    exact rep_start (e := GDone.c) xs
  conv => whnf
  refine ⟨fun h => ?_, fun h => ?_⟩ <;> simp at h <;> conv => whnf
  · refine ⟨by omega, ?_⟩
    conv => whnf
    refine callW (toDone (xs.getD k default)) rfl (go tbl_ok false ?_)
    conv => whnf
    refine ⟨by simp; omega, ?_⟩
    conv => whnf
    refine storeW tbl_ok rfl rfl rfl rfl rfl rfl rfl rfl _ (slC_set (xs := xs.take k ++ List.replicate (xs.length - k) default) (x := xs.getD k default) (e := GDone.c) (by simp; omega) ?_) (go tbl_ok false ?_)
    · rfl
    conv => whnf
    refine ⟨by simp only [inR]; omega, ?_⟩
    conv => whnf
    refine loopE [] (k + 1) (by omega) (by omega) ⟨rfl, trivial⟩ ⟨?_, trivial⟩ trivial (by kernel_rfl) trivial (by kernel_rfl)
    conv => whnf
    exact congrArg (slC 2 GDone.c) (take_rep_set xs k default h)
  · exact retW tbl_ok rfl rfl ⟨by conv => whnf
                                  rw [take_rep_end _ _ _ (by omega)], trivial⟩

theorem toWorker (x : GWorker) (h : x.w ≤ 1048576) : Meets Tryz.prog 52 [.agg x.c] [.agg x.c] := by
  refine enterW tbl_ok false Tryz.func52 rfl (by decide) fun W => ?_
  conv => whnf
  refine callW (toRecordS x.queue (by simp only [GWorker.w] at h; omega)) rfl (go tbl_ok false ?_)
  conv => whnf
  refine callW (toRecordS x.staged (by simp only [GWorker.w] at h; omega)) rfl (go tbl_ok false ?_)
  conv => whnf
  refine callW (toRecordS x.inputs (by simp only [GWorker.w] at h; omega)) rfl (go tbl_ok false ?_)
  conv => whnf
  refine callW (toCellS x.cells (by simp only [GWorker.w] at h; omega)) rfl (go tbl_ok false ?_)
  conv => whnf
  refine callW (toIntS x.sums (by simp only [GWorker.w] at h; omega)) rfl (go tbl_ok false ?_)
  conv => whnf
  refine callW (toBoolS x.black (by simp only [GWorker.w] at h; omega)) rfl (go tbl_ok false ?_)
  conv => whnf
  refine callW (toBoolS x.caps (by simp only [GWorker.w] at h; omega)) rfl (go tbl_ok false ?_)
  conv => whnf
  refine callW (toDoneS x.dones (by simp only [GWorker.w] at h; omega)) rfl (go tbl_ok false ?_)
  conv => whnf
  exact retW tbl_ok rfl rfl ⟨⟨rfl, rfl, rfl, rfl, rfl, rfl, rfl, rfl, trivial⟩, trivial⟩

theorem toWorkerS (xs : List GWorker) (hx : wS GWorker.w xs ≤ 1048576) : Meets Tryz.prog 24 [.one (sGWorker xs)] [.one (sGWorker xs)] := by
  have hl : xs.length ≤ 1048576 := by simp only [wS] at hx; omega
  refine enterW tbl_ok false Tryz.func24 rfl (by decide) fun W => ?_
  conv => whnf
  refine ⟨by omega, ?_⟩
  conv => whnf
  refine castW 0 (sGWorker (List.replicate xs.length default)) rfl (cast_make (α := GWorker) (e := GWorker.c) xs.length ⟨.nil _ _, .nil _ _, .nil _ _, .nil _ _, .nil _ _, .nil _ _, .nil _ _, .nil _ _, trivial⟩) ?_
  refine loopW tbl_ok false [] (fun k : Nat => [(4, .c (vi k))]) (fun _ => []) (fun k => [⟨0, sGWorker (xs.take k ++ List.replicate (xs.length - k) default)⟩])
    (fun k => k ≤ xs.length) (fun k => xs.length - k) 0 (Nat.zero_le _) ⟨rfl, trivial⟩ trivial ⟨?_, trivial⟩ trivial (by kernel_rfl) (fun k hk => ?_)
  · conv => whnf
    exact rep_start (e := GWorker.c) xs
  conv => whnf
  refine ⟨fun h => ?_, fun h => ?_⟩ <;> simp at h <;> conv => whnf
  · refine ⟨by omega, ?_⟩
    conv => whnf
    refine callW (toWorker (xs.getD k default) (by have := wS_take_le GWorker.w xs k h; simp only [wS] at hx; omega)) rfl (go tbl_ok false ?_)
    conv => whnf
    refine ⟨by simp; omega, ?_⟩
    conv => whnf
    refine storeW tbl_ok rfl rfl rfl rfl rfl rfl rfl rfl _ (slC_set (xs := xs.take k ++ List.replicate (xs.length - k) default) (x := xs.getD k default) (e := GWorker.c) (by simp; omega) ?_) (go tbl_ok false ?_)
    · rfl
    conv => whnf
    refine ⟨by simp only [inR]; omega, ?_⟩
    conv => whnf
    refine loopE [] (k + 1) (by omega) (by omega) ⟨rfl, trivial⟩ ⟨?_, trivial⟩ trivial (by kernel_rfl) trivial (by kernel_rfl)
    conv => whnf
    exact congrArg (slC 8 GWorker.c) (take_rep_set xs k default h)
  · exact retW tbl_ok rfl rfl ⟨by conv => whnf
                                  rw [take_rep_end _ _ _ (by omega)], trivial⟩

theorem toLink (x : GLink) (h : x.w ≤ 1048576) : Meets Tryz.prog 53 [.agg x.c] [.agg x.c] := by
  refine enterW tbl_ok false Tryz.func53 rfl (by decide) fun W => ?_
  conv => whnf
  refine callW (toRecordS x.queue (by simp only [GLink.w] at h; omega)) rfl (go tbl_ok false ?_)
  conv => whnf
  exact retW tbl_ok rfl rfl ⟨⟨rfl, rfl, rfl, rfl, rfl, rfl, trivial⟩, trivial⟩

theorem toLinkS (xs : List GLink) (hx : wS GLink.w xs ≤ 1048576) : Meets Tryz.prog 25 [.one (sGLink xs)] [.one (sGLink xs)] := by
  have hl : xs.length ≤ 1048576 := by simp only [wS] at hx; omega
  refine enterW tbl_ok false Tryz.func25 rfl (by decide) fun W => ?_
  conv => whnf
  refine ⟨by omega, ?_⟩
  conv => whnf
  refine castW 0 (sGLink (List.replicate xs.length default)) rfl (cast_make (α := GLink) (e := GLink.c) xs.length ⟨.inl rfl, .nil _ _, .inl rfl, .inl rfl, .inl rfl, .inl rfl, trivial⟩) ?_
  refine loopW tbl_ok false [] (fun k : Nat => [(4, .c (vi k))]) (fun _ => []) (fun k => [⟨0, sGLink (xs.take k ++ List.replicate (xs.length - k) default)⟩])
    (fun k => k ≤ xs.length) (fun k => xs.length - k) 0 (Nat.zero_le _) ⟨rfl, trivial⟩ trivial ⟨?_, trivial⟩ trivial (by kernel_rfl) (fun k hk => ?_)
  · conv => whnf
    exact rep_start (e := GLink.c) xs
  conv => whnf
  refine ⟨fun h => ?_, fun h => ?_⟩ <;> simp at h <;> conv => whnf
  · refine ⟨by omega, ?_⟩
    conv => whnf
    refine callW (toLink (xs.getD k default) (by have := wS_take_le GLink.w xs k h; simp only [wS] at hx; omega)) rfl (go tbl_ok false ?_)
    conv => whnf
    refine ⟨by simp; omega, ?_⟩
    conv => whnf
    refine storeW tbl_ok rfl rfl rfl rfl rfl rfl rfl rfl _ (slC_set (xs := xs.take k ++ List.replicate (xs.length - k) default) (x := xs.getD k default) (e := GLink.c) (by simp; omega) ?_) (go tbl_ok false ?_)
    · rfl
    conv => whnf
    refine ⟨by simp only [inR]; omega, ?_⟩
    conv => whnf
    refine loopE [] (k + 1) (by omega) (by omega) ⟨rfl, trivial⟩ ⟨?_, trivial⟩ trivial (by kernel_rfl) trivial (by kernel_rfl)
    conv => whnf
    exact congrArg (slC 6 GLink.c) (take_rep_set xs k default h)
  · exact retW tbl_ok rfl rfl ⟨by conv => whnf
                                  rw [take_rep_end _ _ _ (by omega)], trivial⟩

theorem toToken (x : GToken) : Meets Tryz.prog 54 [.agg x.c] [.agg x.c] := by
  refine enterW tbl_ok false Tryz.func54 rfl (by decide) fun W => ?_
  conv => whnf
  exact retW tbl_ok rfl rfl ⟨⟨rfl, rfl, rfl, rfl, rfl, trivial⟩, trivial⟩

theorem toTokenS (xs : List GToken) (hx : xs.length ≤ 1048576) : Meets Tryz.prog 26 [.one (sGToken xs)] [.one (sGToken xs)] := by
  have hl := hx
  refine enterW tbl_ok false Tryz.func26 rfl (by decide) fun W => ?_
  conv => whnf
  refine ⟨by omega, ?_⟩
  conv => whnf
  refine castW 0 (sGToken (List.replicate xs.length default)) rfl (cast_make (α := GToken) (e := GToken.c) xs.length ⟨.inl rfl, .inl rfl, .inl rfl, .inl rfl, .inl rfl, trivial⟩) ?_
  refine loopW tbl_ok false [] (fun k : Nat => [(4, .c (vi k))]) (fun _ => []) (fun k => [⟨0, sGToken (xs.take k ++ List.replicate (xs.length - k) default)⟩])
    (fun k => k ≤ xs.length) (fun k => xs.length - k) 0 (Nat.zero_le _) ⟨rfl, trivial⟩ trivial ⟨?_, trivial⟩ trivial (by kernel_rfl) (fun k hk => ?_)
  · conv => whnf
    exact rep_start (e := GToken.c) xs
  conv => whnf
  refine ⟨fun h => ?_, fun h => ?_⟩ <;> simp at h <;> conv => whnf
  · refine ⟨by omega, ?_⟩
    conv => whnf
    refine callW (toToken (xs.getD k default)) rfl (go tbl_ok false ?_)
    conv => whnf
    refine ⟨by simp; omega, ?_⟩
    conv => whnf
    refine storeW tbl_ok rfl rfl rfl rfl rfl rfl rfl rfl _ (slC_set (xs := xs.take k ++ List.replicate (xs.length - k) default) (x := xs.getD k default) (e := GToken.c) (by simp; omega) ?_) (go tbl_ok false ?_)
    · rfl
    conv => whnf
    refine ⟨by simp only [inR]; omega, ?_⟩
    conv => whnf
    refine loopE [] (k + 1) (by omega) (by omega) ⟨rfl, trivial⟩ ⟨?_, trivial⟩ trivial (by kernel_rfl) trivial (by kernel_rfl)
    conv => whnf
    exact congrArg (slC 5 GToken.c) (take_rep_set xs k default h)
  · exact retW tbl_ok rfl rfl ⟨by conv => whnf
                                  rw [take_rep_end _ _ _ (by omega)], trivial⟩

theorem toNews (x : GNews) : Meets Tryz.prog 55 [.agg x.c] [.agg x.c] := by
  refine enterW tbl_ok false Tryz.func55 rfl (by decide) fun W => ?_
  conv => whnf
  exact retW tbl_ok rfl rfl ⟨⟨rfl, rfl, rfl, trivial⟩, trivial⟩

theorem toNewsS (xs : List GNews) (hx : xs.length ≤ 1048576) : Meets Tryz.prog 27 [.one (sGNews xs)] [.one (sGNews xs)] := by
  have hl := hx
  refine enterW tbl_ok false Tryz.func27 rfl (by decide) fun W => ?_
  conv => whnf
  refine ⟨by omega, ?_⟩
  conv => whnf
  refine castW 0 (sGNews (List.replicate xs.length default)) rfl (cast_make (α := GNews) (e := GNews.c) xs.length ⟨.inl rfl, .inl rfl, .inl rfl, trivial⟩) ?_
  refine loopW tbl_ok false [] (fun k : Nat => [(4, .c (vi k))]) (fun _ => []) (fun k => [⟨0, sGNews (xs.take k ++ List.replicate (xs.length - k) default)⟩])
    (fun k => k ≤ xs.length) (fun k => xs.length - k) 0 (Nat.zero_le _) ⟨rfl, trivial⟩ trivial ⟨?_, trivial⟩ trivial (by kernel_rfl) (fun k hk => ?_)
  · conv => whnf
    exact rep_start (e := GNews.c) xs
  conv => whnf
  refine ⟨fun h => ?_, fun h => ?_⟩ <;> simp at h <;> conv => whnf
  · refine ⟨by omega, ?_⟩
    conv => whnf
    refine callW (toNews (xs.getD k default)) rfl (go tbl_ok false ?_)
    conv => whnf
    refine ⟨by simp; omega, ?_⟩
    conv => whnf
    refine storeW tbl_ok rfl rfl rfl rfl rfl rfl rfl rfl _ (slC_set (xs := xs.take k ++ List.replicate (xs.length - k) default) (x := xs.getD k default) (e := GNews.c) (by simp; omega) ?_) (go tbl_ok false ?_)
    · rfl
    conv => whnf
    refine ⟨by simp only [inR]; omega, ?_⟩
    conv => whnf
    refine loopE [] (k + 1) (by omega) (by omega) ⟨rfl, trivial⟩ ⟨?_, trivial⟩ trivial (by kernel_rfl) trivial (by kernel_rfl)
    conv => whnf
    exact congrArg (slC 3 GNews.c) (take_rep_set xs k default h)
  · exact retW tbl_ok rfl rfl ⟨by conv => whnf
                                  rw [take_rep_end _ _ _ (by omega)], trivial⟩

theorem toCluster (x : GCluster) (h : x.w ≤ 1048576) : Meets Tryz.prog 7 [.agg x.c] [.agg x.c] := by
  refine enterW tbl_ok false Tryz.func7 rfl (by decide) fun W => ?_
  conv => whnf
  refine callW (toGraph x.graph (by simp only [GCluster.w] at h; omega)) rfl (go tbl_ok false ?_)
  conv => whnf
  refine callW (toWorkerS x.workers (by simp only [GCluster.w] at h; omega)) rfl (go tbl_ok false ?_)
  conv => whnf
  refine callW (toLinkS x.links (by simp only [GCluster.w] at h; omega)) rfl (go tbl_ok false ?_)
  conv => whnf
  refine callW (toTokenS x.tokens (by simp only [GCluster.w] at h; omega)) rfl (go tbl_ok false ?_)
  conv => whnf
  refine callW (toNewsS x.news (by simp only [GCluster.w] at h; omega)) rfl (go tbl_ok false ?_)
  conv => whnf
  exact retW tbl_ok rfl rfl ⟨⟨rfl, rfl, rfl, rfl, rfl, rfl, rfl, trivial⟩, trivial⟩

theorem eqStringS (xs : List ByteArray) (hx : xs.length ≤ 1048576) : Meets Tryz.prog 9 [.one (sStr xs), .one (sStr xs)] [.one (vb true)] := by
  have hl := hx
  refine enterW tbl_ok false Tryz.func9 rfl (by decide) fun W => ?_
  conv => whnf
  refine ⟨fun h => ?_, fun _ => ?_⟩ <;> conv => whnf
  · simp at h
  refine loopW tbl_ok false [] (fun k : Nat => [(5, .c (vi k))]) (fun _ => []) (fun _ => [])
    (fun k => k ≤ xs.length) (fun k => xs.length - k) 0 (Nat.zero_le _) ⟨rfl, trivial⟩ trivial trivial trivial (by kernel_rfl) (fun k hk => ?_)
  conv => whnf
  refine ⟨fun h => ?_, fun h => ?_⟩ <;> simp at h <;> conv => whnf
  · refine drawW rfl [0, 1, 2, 3, 4, 5, 6, 7, 8] (by kernel_rfl) (go tbl_ok false ?_)
    conv => whnf
    refine ⟨by omega, ?_⟩
    conv => whnf
    refine ⟨by omega, ?_⟩
    conv => whnf
    refine ⟨fun h' => ?_, fun _ => ?_⟩ <;> conv => whnf
    · simp [ba_self] at h'
    refine ⟨by simp only [inR]; omega, ?_⟩
    conv => whnf
    exact loopE [] (k + 1) (by omega) (by omega) ⟨rfl, trivial⟩ trivial trivial (by kernel_rfl) trivial (by kernel_rfl)
  · exact retW tbl_ok rfl rfl ⟨rfl, trivial⟩

theorem eqIntS (xs : List Int) (hx : xs.length ≤ 1048576) : Meets Tryz.prog 95 [.one (sInt xs), .one (sInt xs)] [.one (vb true)] := by
  have hl := hx
  refine enterW tbl_ok false Tryz.func95 rfl (by decide) fun W => ?_
  conv => whnf
  refine ⟨fun h => ?_, fun _ => ?_⟩ <;> conv => whnf
  · simp at h
  refine loopW tbl_ok false [] (fun k : Nat => [(5, .c (vi k))]) (fun _ => []) (fun _ => [])
    (fun k => k ≤ xs.length) (fun k => xs.length - k) 0 (Nat.zero_le _) ⟨rfl, trivial⟩ trivial trivial trivial (by kernel_rfl) (fun k hk => ?_)
  conv => whnf
  refine ⟨fun h => ?_, fun h => ?_⟩ <;> simp at h <;> conv => whnf
  · refine drawW rfl [0, 1, 2, 3, 4, 5, 6, 7, 8] (by kernel_rfl) (go tbl_ok false ?_)
    conv => whnf
    refine ⟨by omega, ?_⟩
    conv => whnf
    refine ⟨by omega, ?_⟩
    conv => whnf
    refine ⟨fun h' => ?_, fun _ => ?_⟩ <;> conv => whnf
    · simp at h'
    refine ⟨by simp only [inR]; omega, ?_⟩
    conv => whnf
    exact loopE [] (k + 1) (by omega) (by omega) ⟨rfl, trivial⟩ trivial trivial (by kernel_rfl) trivial (by kernel_rfl)
  · exact retW tbl_ok rfl rfl ⟨rfl, trivial⟩

theorem eqNode (x : GNode) (h : x.w ≤ 1048576) : Meets Tryz.prog 92 [.agg x.c, .agg x.c] [.one (vb true)] := by
  refine enterW tbl_ok false Tryz.func92 rfl (by decide) fun W => ?_
  conv => whnf
  refine ⟨fun h => ?_, fun _ => ?_⟩ <;> conv => whnf
  · simp at h
  refine ⟨fun h => ?_, fun _ => ?_⟩ <;> conv => whnf
  · simp at h
  refine ⟨fun h => ?_, fun _ => ?_⟩ <;> conv => whnf
  · simp at h
  refine callR (eqIntS x.outs (by simp only [GNode.w] at h; omega)) rfl (go tbl_ok false ?_)
  conv => whnf
  refine ⟨fun h => ?_, fun _ => ?_⟩ <;> conv => whnf
  · simp at h
  exact retW tbl_ok rfl rfl ⟨rfl, trivial⟩

theorem eqNodeS (xs : List GNode) (hx : wS GNode.w xs ≤ 1048576) : Meets Tryz.prog 59 [.one (sGNode xs), .one (sGNode xs)] [.one (vb true)] := by
  have hl : xs.length ≤ 1048576 := by simp only [wS] at hx; omega
  refine enterW tbl_ok false Tryz.func59 rfl (by decide) fun W => ?_
  conv => whnf
  refine ⟨fun h => ?_, fun _ => ?_⟩ <;> conv => whnf
  · simp at h
  refine loopW tbl_ok false [] (fun k : Nat => [(5, .c (vi k))]) (fun _ => []) (fun _ => [])
    (fun k => k ≤ xs.length) (fun k => xs.length - k) 0 (Nat.zero_le _) ⟨rfl, trivial⟩ trivial trivial trivial (by kernel_rfl) (fun k hk => ?_)
  conv => whnf
  refine ⟨fun h => ?_, fun h => ?_⟩ <;> simp at h <;> conv => whnf
  · refine drawW rfl [0, 1, 2, 3, 4, 5, 6, 7, 8, 9] (by kernel_rfl) (go tbl_ok false ?_)
    conv => whnf
    refine ⟨by omega, ?_⟩
    conv => whnf
    refine ⟨by omega, ?_⟩
    conv => whnf
    refine callR (eqNode (xs.getD k default) (by have := wS_take_le GNode.w xs k h; simp only [wS] at hx; omega)) rfl (go tbl_ok false ?_)
    conv => whnf
    refine ⟨fun h' => ?_, fun _ => ?_⟩ <;> conv => whnf
    · simp at h'
    refine ⟨by simp only [inR]; omega, ?_⟩
    conv => whnf
    exact loopE [] (k + 1) (by omega) (by omega) ⟨rfl, trivial⟩ trivial trivial (by kernel_rfl) trivial (by kernel_rfl)
  · exact retW tbl_ok rfl rfl ⟨rfl, trivial⟩

theorem eqGraph (x : GGraph) (h : x.w ≤ 1048576) : Meets Tryz.prog 30 [.agg x.c, .agg x.c] [.one (vb true)] := by
  refine enterW tbl_ok false Tryz.func30 rfl (by decide) fun W => ?_
  conv => whnf
  refine callR (eqNodeS x.nodes (by simp only [GGraph.w] at h; omega)) rfl (go tbl_ok false ?_)
  conv => whnf
  refine ⟨fun h => ?_, fun _ => ?_⟩ <;> conv => whnf
  · simp at h
  refine ⟨fun h => ?_, fun _ => ?_⟩ <;> conv => whnf
  · simp at h
  refine ⟨fun h => ?_, fun _ => ?_⟩ <;> conv => whnf
  · simp at h
  exact retW tbl_ok rfl rfl ⟨rfl, trivial⟩

theorem eqStamp (x : GStamp) : Meets Tryz.prog 122 [.agg x.c, .agg x.c] [.one (vb true)] := by
  refine enterW tbl_ok false Tryz.func122 rfl (by decide) fun W => ?_
  conv => whnf
  refine ⟨fun h => ?_, fun _ => ?_⟩ <;> conv => whnf
  · simp at h
  refine ⟨fun h => ?_, fun _ => ?_⟩ <;> conv => whnf
  · simp at h
  exact retW tbl_ok rfl rfl ⟨rfl, trivial⟩

theorem eqRecord (x : GRecord) : Meets Tryz.prog 109 [.agg x.c, .agg x.c] [.one (vb true)] := by
  refine enterW tbl_ok false Tryz.func109 rfl (by decide) fun W => ?_
  conv => whnf
  refine ⟨fun h => ?_, fun _ => ?_⟩ <;> conv => whnf
  · simp at h
  refine callR (eqStamp x.stamp) rfl (go tbl_ok false ?_)
  conv => whnf
  refine ⟨fun h => ?_, fun _ => ?_⟩ <;> conv => whnf
  · simp at h
  refine ⟨fun h => ?_, fun _ => ?_⟩ <;> conv => whnf
  · simp at h
  refine ⟨fun h => ?_, fun _ => ?_⟩ <;> conv => whnf
  · simp at h
  exact retW tbl_ok rfl rfl ⟨rfl, trivial⟩

theorem eqRecordS (xs : List GRecord) (hx : xs.length ≤ 1048576) : Meets Tryz.prog 93 [.one (sGRecord xs), .one (sGRecord xs)] [.one (vb true)] := by
  have hl := hx
  refine enterW tbl_ok false Tryz.func93 rfl (by decide) fun W => ?_
  conv => whnf
  refine ⟨fun h => ?_, fun _ => ?_⟩ <;> conv => whnf
  · simp at h
  refine loopW tbl_ok false [] (fun k : Nat => [(5, .c (vi k))]) (fun _ => []) (fun _ => [])
    (fun k => k ≤ xs.length) (fun k => xs.length - k) 0 (Nat.zero_le _) ⟨rfl, trivial⟩ trivial trivial trivial (by kernel_rfl) (fun k hk => ?_)
  conv => whnf
  refine ⟨fun h => ?_, fun h => ?_⟩ <;> simp at h <;> conv => whnf
  · refine drawW rfl [0, 1, 2, 3, 4, 5, 6, 7, 8, 9] (by kernel_rfl) (go tbl_ok false ?_)
    conv => whnf
    refine ⟨by omega, ?_⟩
    conv => whnf
    refine ⟨by omega, ?_⟩
    conv => whnf
    refine callR (eqRecord (xs.getD k default)) rfl (go tbl_ok false ?_)
    conv => whnf
    refine ⟨fun h' => ?_, fun _ => ?_⟩ <;> conv => whnf
    · simp at h'
    refine ⟨by simp only [inR]; omega, ?_⟩
    conv => whnf
    exact loopE [] (k + 1) (by omega) (by omega) ⟨rfl, trivial⟩ trivial trivial (by kernel_rfl) trivial (by kernel_rfl)
  · exact retW tbl_ok rfl rfl ⟨rfl, trivial⟩

theorem eqCell (x : GCell) : Meets Tryz.prog 110 [.agg x.c, .agg x.c] [.one (vb true)] := by
  refine enterW tbl_ok false Tryz.func110 rfl (by decide) fun W => ?_
  conv => whnf
  refine ⟨fun h => ?_, fun _ => ?_⟩ <;> conv => whnf
  · simp at h
  refine ⟨fun h => ?_, fun _ => ?_⟩ <;> conv => whnf
  · simp at h
  refine ⟨fun h => ?_, fun _ => ?_⟩ <;> conv => whnf
  · simp at h
  refine ⟨fun h => ?_, fun _ => ?_⟩ <;> conv => whnf
  · simp at h
  exact retW tbl_ok rfl rfl ⟨rfl, trivial⟩

theorem eqCellS (xs : List GCell) (hx : xs.length ≤ 1048576) : Meets Tryz.prog 94 [.one (sGCell xs), .one (sGCell xs)] [.one (vb true)] := by
  have hl := hx
  refine enterW tbl_ok false Tryz.func94 rfl (by decide) fun W => ?_
  conv => whnf
  refine ⟨fun h => ?_, fun _ => ?_⟩ <;> conv => whnf
  · simp at h
  refine loopW tbl_ok false [] (fun k : Nat => [(5, .c (vi k))]) (fun _ => []) (fun _ => [])
    (fun k => k ≤ xs.length) (fun k => xs.length - k) 0 (Nat.zero_le _) ⟨rfl, trivial⟩ trivial trivial trivial (by kernel_rfl) (fun k hk => ?_)
  conv => whnf
  refine ⟨fun h => ?_, fun h => ?_⟩ <;> simp at h <;> conv => whnf
  · refine drawW rfl [0, 1, 2, 3, 4, 5, 6, 7, 8, 9] (by kernel_rfl) (go tbl_ok false ?_)
    conv => whnf
    refine ⟨by omega, ?_⟩
    conv => whnf
    refine ⟨by omega, ?_⟩
    conv => whnf
    refine callR (eqCell (xs.getD k default)) rfl (go tbl_ok false ?_)
    conv => whnf
    refine ⟨fun h' => ?_, fun _ => ?_⟩ <;> conv => whnf
    · simp at h'
    refine ⟨by simp only [inR]; omega, ?_⟩
    conv => whnf
    exact loopE [] (k + 1) (by omega) (by omega) ⟨rfl, trivial⟩ trivial trivial (by kernel_rfl) trivial (by kernel_rfl)
  · exact retW tbl_ok rfl rfl ⟨rfl, trivial⟩

theorem eqBoolS (xs : List Bool) (hx : xs.length ≤ 1048576) : Meets Tryz.prog 96 [.one (sBool xs), .one (sBool xs)] [.one (vb true)] := by
  have hl := hx
  refine enterW tbl_ok false Tryz.func96 rfl (by decide) fun W => ?_
  conv => whnf
  refine ⟨fun h => ?_, fun _ => ?_⟩ <;> conv => whnf
  · simp at h
  refine loopW tbl_ok false [] (fun k : Nat => [(5, .c (vi k))]) (fun _ => []) (fun _ => [])
    (fun k => k ≤ xs.length) (fun k => xs.length - k) 0 (Nat.zero_le _) ⟨rfl, trivial⟩ trivial trivial trivial (by kernel_rfl) (fun k hk => ?_)
  conv => whnf
  refine ⟨fun h => ?_, fun h => ?_⟩ <;> simp at h <;> conv => whnf
  · refine drawW rfl [0, 1, 2, 3, 4, 5, 6, 7, 8] (by kernel_rfl) (go tbl_ok false ?_)
    conv => whnf
    refine ⟨by omega, ?_⟩
    conv => whnf
    refine ⟨by omega, ?_⟩
    conv => whnf
    refine ⟨fun h' => ?_, fun _ => ?_⟩ <;> conv => whnf
    · simp at h'
    refine ⟨by simp only [inR]; omega, ?_⟩
    conv => whnf
    exact loopE [] (k + 1) (by omega) (by omega) ⟨rfl, trivial⟩ trivial trivial (by kernel_rfl) trivial (by kernel_rfl)
  · exact retW tbl_ok rfl rfl ⟨rfl, trivial⟩

theorem eqDone (x : GDone) : Meets Tryz.prog 111 [.agg x.c, .agg x.c] [.one (vb true)] := by
  refine enterW tbl_ok false Tryz.func111 rfl (by decide) fun W => ?_
  conv => whnf
  refine ⟨fun h => ?_, fun _ => ?_⟩ <;> conv => whnf
  · simp at h
  refine ⟨fun h => ?_, fun _ => ?_⟩ <;> conv => whnf
  · simp at h
  exact retW tbl_ok rfl rfl ⟨rfl, trivial⟩

theorem eqDoneS (xs : List GDone) (hx : xs.length ≤ 1048576) : Meets Tryz.prog 97 [.one (sGDone xs), .one (sGDone xs)] [.one (vb true)] := by
  have hl := hx
  refine enterW tbl_ok false Tryz.func97 rfl (by decide) fun W => ?_
  conv => whnf
  refine ⟨fun h => ?_, fun _ => ?_⟩ <;> conv => whnf
  · simp at h
  refine loopW tbl_ok false [] (fun k : Nat => [(5, .c (vi k))]) (fun _ => []) (fun _ => [])
    (fun k => k ≤ xs.length) (fun k => xs.length - k) 0 (Nat.zero_le _) ⟨rfl, trivial⟩ trivial trivial trivial (by kernel_rfl) (fun k hk => ?_)
  conv => whnf
  refine ⟨fun h => ?_, fun h => ?_⟩ <;> simp at h <;> conv => whnf
  · refine drawW rfl [0, 1, 2, 3, 4, 5, 6, 7, 8, 9] (by kernel_rfl) (go tbl_ok false ?_)
    conv => whnf
    refine ⟨by omega, ?_⟩
    conv => whnf
    refine ⟨by omega, ?_⟩
    conv => whnf
    refine callR (eqDone (xs.getD k default)) rfl (go tbl_ok false ?_)
    conv => whnf
    refine ⟨fun h' => ?_, fun _ => ?_⟩ <;> conv => whnf
    · simp at h'
    refine ⟨by simp only [inR]; omega, ?_⟩
    conv => whnf
    exact loopE [] (k + 1) (by omega) (by omega) ⟨rfl, trivial⟩ trivial trivial (by kernel_rfl) trivial (by kernel_rfl)
  · exact retW tbl_ok rfl rfl ⟨rfl, trivial⟩

theorem eqWorker (x : GWorker) (h : x.w ≤ 1048576) : Meets Tryz.prog 60 [.agg x.c, .agg x.c] [.one (vb true)] := by
  refine enterW tbl_ok false Tryz.func60 rfl (by decide) fun W => ?_
  conv => whnf
  refine callR (eqRecordS x.queue (by simp only [GWorker.w] at h; omega)) rfl (go tbl_ok false ?_)
  conv => whnf
  refine ⟨fun h => ?_, fun _ => ?_⟩ <;> conv => whnf
  · simp at h
  refine callR (eqRecordS x.staged (by simp only [GWorker.w] at h; omega)) rfl (go tbl_ok false ?_)
  conv => whnf
  refine ⟨fun h => ?_, fun _ => ?_⟩ <;> conv => whnf
  · simp at h
  refine callR (eqRecordS x.inputs (by simp only [GWorker.w] at h; omega)) rfl (go tbl_ok false ?_)
  conv => whnf
  refine ⟨fun h => ?_, fun _ => ?_⟩ <;> conv => whnf
  · simp at h
  refine callR (eqCellS x.cells (by simp only [GWorker.w] at h; omega)) rfl (go tbl_ok false ?_)
  conv => whnf
  refine ⟨fun h => ?_, fun _ => ?_⟩ <;> conv => whnf
  · simp at h
  refine callR (eqIntS x.sums (by simp only [GWorker.w] at h; omega)) rfl (go tbl_ok false ?_)
  conv => whnf
  refine ⟨fun h => ?_, fun _ => ?_⟩ <;> conv => whnf
  · simp at h
  refine callR (eqBoolS x.black (by simp only [GWorker.w] at h; omega)) rfl (go tbl_ok false ?_)
  conv => whnf
  refine ⟨fun h => ?_, fun _ => ?_⟩ <;> conv => whnf
  · simp at h
  refine callR (eqBoolS x.caps (by simp only [GWorker.w] at h; omega)) rfl (go tbl_ok false ?_)
  conv => whnf
  refine ⟨fun h => ?_, fun _ => ?_⟩ <;> conv => whnf
  · simp at h
  refine callR (eqDoneS x.dones (by simp only [GWorker.w] at h; omega)) rfl (go tbl_ok false ?_)
  conv => whnf
  refine ⟨fun h => ?_, fun _ => ?_⟩ <;> conv => whnf
  · simp at h
  exact retW tbl_ok rfl rfl ⟨rfl, trivial⟩

theorem eqWorkerS (xs : List GWorker) (hx : wS GWorker.w xs ≤ 1048576) : Meets Tryz.prog 31 [.one (sGWorker xs), .one (sGWorker xs)] [.one (vb true)] := by
  have hl : xs.length ≤ 1048576 := by simp only [wS] at hx; omega
  refine enterW tbl_ok false Tryz.func31 rfl (by decide) fun W => ?_
  conv => whnf
  refine ⟨fun h => ?_, fun _ => ?_⟩ <;> conv => whnf
  · simp at h
  refine loopW tbl_ok false [] (fun k : Nat => [(5, .c (vi k))]) (fun _ => []) (fun _ => [])
    (fun k => k ≤ xs.length) (fun k => xs.length - k) 0 (Nat.zero_le _) ⟨rfl, trivial⟩ trivial trivial trivial (by kernel_rfl) (fun k hk => ?_)
  conv => whnf
  refine ⟨fun h => ?_, fun h => ?_⟩ <;> simp at h <;> conv => whnf
  · refine drawW rfl [0, 1, 2, 3, 4, 5, 6, 7, 8, 9] (by kernel_rfl) (go tbl_ok false ?_)
    conv => whnf
    refine ⟨by omega, ?_⟩
    conv => whnf
    refine ⟨by omega, ?_⟩
    conv => whnf
    refine callR (eqWorker (xs.getD k default) (by have := wS_take_le GWorker.w xs k h; simp only [wS] at hx; omega)) rfl (go tbl_ok false ?_)
    conv => whnf
    refine ⟨fun h' => ?_, fun _ => ?_⟩ <;> conv => whnf
    · simp at h'
    refine ⟨by simp only [inR]; omega, ?_⟩
    conv => whnf
    exact loopE [] (k + 1) (by omega) (by omega) ⟨rfl, trivial⟩ trivial trivial (by kernel_rfl) trivial (by kernel_rfl)
  · exact retW tbl_ok rfl rfl ⟨rfl, trivial⟩

theorem eqLink (x : GLink) (h : x.w ≤ 1048576) : Meets Tryz.prog 61 [.agg x.c, .agg x.c] [.one (vb true)] := by
  refine enterW tbl_ok false Tryz.func61 rfl (by decide) fun W => ?_
  conv => whnf
  refine ⟨fun h => ?_, fun _ => ?_⟩ <;> conv => whnf
  · simp at h
  refine callR (eqRecordS x.queue (by simp only [GLink.w] at h; omega)) rfl (go tbl_ok false ?_)
  conv => whnf
  refine ⟨fun h => ?_, fun _ => ?_⟩ <;> conv => whnf
  · simp at h
  refine ⟨fun h => ?_, fun _ => ?_⟩ <;> conv => whnf
  · simp at h
  refine ⟨fun h => ?_, fun _ => ?_⟩ <;> conv => whnf
  · simp at h
  refine ⟨fun h => ?_, fun _ => ?_⟩ <;> conv => whnf
  · simp at h
  refine ⟨fun h => ?_, fun _ => ?_⟩ <;> conv => whnf
  · simp at h
  exact retW tbl_ok rfl rfl ⟨rfl, trivial⟩

theorem eqLinkS (xs : List GLink) (hx : wS GLink.w xs ≤ 1048576) : Meets Tryz.prog 32 [.one (sGLink xs), .one (sGLink xs)] [.one (vb true)] := by
  have hl : xs.length ≤ 1048576 := by simp only [wS] at hx; omega
  refine enterW tbl_ok false Tryz.func32 rfl (by decide) fun W => ?_
  conv => whnf
  refine ⟨fun h => ?_, fun _ => ?_⟩ <;> conv => whnf
  · simp at h
  refine loopW tbl_ok false [] (fun k : Nat => [(5, .c (vi k))]) (fun _ => []) (fun _ => [])
    (fun k => k ≤ xs.length) (fun k => xs.length - k) 0 (Nat.zero_le _) ⟨rfl, trivial⟩ trivial trivial trivial (by kernel_rfl) (fun k hk => ?_)
  conv => whnf
  refine ⟨fun h => ?_, fun h => ?_⟩ <;> simp at h <;> conv => whnf
  · refine drawW rfl [0, 1, 2, 3, 4, 5, 6, 7, 8, 9] (by kernel_rfl) (go tbl_ok false ?_)
    conv => whnf
    refine ⟨by omega, ?_⟩
    conv => whnf
    refine ⟨by omega, ?_⟩
    conv => whnf
    refine callR (eqLink (xs.getD k default) (by have := wS_take_le GLink.w xs k h; simp only [wS] at hx; omega)) rfl (go tbl_ok false ?_)
    conv => whnf
    refine ⟨fun h' => ?_, fun _ => ?_⟩ <;> conv => whnf
    · simp at h'
    refine ⟨by simp only [inR]; omega, ?_⟩
    conv => whnf
    exact loopE [] (k + 1) (by omega) (by omega) ⟨rfl, trivial⟩ trivial trivial (by kernel_rfl) trivial (by kernel_rfl)
  · exact retW tbl_ok rfl rfl ⟨rfl, trivial⟩

theorem eqToken (x : GToken) : Meets Tryz.prog 62 [.agg x.c, .agg x.c] [.one (vb true)] := by
  refine enterW tbl_ok false Tryz.func62 rfl (by decide) fun W => ?_
  conv => whnf
  refine ⟨fun h => ?_, fun _ => ?_⟩ <;> conv => whnf
  · simp at h
  refine ⟨fun h => ?_, fun _ => ?_⟩ <;> conv => whnf
  · simp at h
  refine ⟨fun h => ?_, fun _ => ?_⟩ <;> conv => whnf
  · simp at h
  refine ⟨fun h => ?_, fun _ => ?_⟩ <;> conv => whnf
  · simp at h
  refine ⟨fun h => ?_, fun _ => ?_⟩ <;> conv => whnf
  · simp at h
  exact retW tbl_ok rfl rfl ⟨rfl, trivial⟩

theorem eqTokenS (xs : List GToken) (hx : xs.length ≤ 1048576) : Meets Tryz.prog 33 [.one (sGToken xs), .one (sGToken xs)] [.one (vb true)] := by
  have hl := hx
  refine enterW tbl_ok false Tryz.func33 rfl (by decide) fun W => ?_
  conv => whnf
  refine ⟨fun h => ?_, fun _ => ?_⟩ <;> conv => whnf
  · simp at h
  refine loopW tbl_ok false [] (fun k : Nat => [(5, .c (vi k))]) (fun _ => []) (fun _ => [])
    (fun k => k ≤ xs.length) (fun k => xs.length - k) 0 (Nat.zero_le _) ⟨rfl, trivial⟩ trivial trivial trivial (by kernel_rfl) (fun k hk => ?_)
  conv => whnf
  refine ⟨fun h => ?_, fun h => ?_⟩ <;> simp at h <;> conv => whnf
  · refine drawW rfl [0, 1, 2, 3, 4, 5, 6, 7, 8, 9] (by kernel_rfl) (go tbl_ok false ?_)
    conv => whnf
    refine ⟨by omega, ?_⟩
    conv => whnf
    refine ⟨by omega, ?_⟩
    conv => whnf
    refine callR (eqToken (xs.getD k default)) rfl (go tbl_ok false ?_)
    conv => whnf
    refine ⟨fun h' => ?_, fun _ => ?_⟩ <;> conv => whnf
    · simp at h'
    refine ⟨by simp only [inR]; omega, ?_⟩
    conv => whnf
    exact loopE [] (k + 1) (by omega) (by omega) ⟨rfl, trivial⟩ trivial trivial (by kernel_rfl) trivial (by kernel_rfl)
  · exact retW tbl_ok rfl rfl ⟨rfl, trivial⟩

theorem eqNews (x : GNews) : Meets Tryz.prog 63 [.agg x.c, .agg x.c] [.one (vb true)] := by
  refine enterW tbl_ok false Tryz.func63 rfl (by decide) fun W => ?_
  conv => whnf
  refine ⟨fun h => ?_, fun _ => ?_⟩ <;> conv => whnf
  · simp at h
  refine ⟨fun h => ?_, fun _ => ?_⟩ <;> conv => whnf
  · simp at h
  refine ⟨fun h => ?_, fun _ => ?_⟩ <;> conv => whnf
  · simp at h
  exact retW tbl_ok rfl rfl ⟨rfl, trivial⟩

theorem eqNewsS (xs : List GNews) (hx : xs.length ≤ 1048576) : Meets Tryz.prog 34 [.one (sGNews xs), .one (sGNews xs)] [.one (vb true)] := by
  have hl := hx
  refine enterW tbl_ok false Tryz.func34 rfl (by decide) fun W => ?_
  conv => whnf
  refine ⟨fun h => ?_, fun _ => ?_⟩ <;> conv => whnf
  · simp at h
  refine loopW tbl_ok false [] (fun k : Nat => [(5, .c (vi k))]) (fun _ => []) (fun _ => [])
    (fun k => k ≤ xs.length) (fun k => xs.length - k) 0 (Nat.zero_le _) ⟨rfl, trivial⟩ trivial trivial trivial (by kernel_rfl) (fun k hk => ?_)
  conv => whnf
  refine ⟨fun h => ?_, fun h => ?_⟩ <;> simp at h <;> conv => whnf
  · refine drawW rfl [0, 1, 2, 3, 4, 5, 6, 7, 8, 9] (by kernel_rfl) (go tbl_ok false ?_)
    conv => whnf
    refine ⟨by omega, ?_⟩
    conv => whnf
    refine ⟨by omega, ?_⟩
    conv => whnf
    refine callR (eqNews (xs.getD k default)) rfl (go tbl_ok false ?_)
    conv => whnf
    refine ⟨fun h' => ?_, fun _ => ?_⟩ <;> conv => whnf
    · simp at h'
    refine ⟨by simp only [inR]; omega, ?_⟩
    conv => whnf
    exact loopE [] (k + 1) (by omega) (by omega) ⟨rfl, trivial⟩ trivial trivial (by kernel_rfl) trivial (by kernel_rfl)
  · exact retW tbl_ok rfl rfl ⟨rfl, trivial⟩

theorem eqCluster (x : GCluster) (h : x.w ≤ 1048576) : Meets Tryz.prog 10 [.agg x.c, .agg x.c] [.one (vb true)] := by
  refine enterW tbl_ok false Tryz.func10 rfl (by decide) fun W => ?_
  conv => whnf
  refine callR (eqGraph x.graph (by simp only [GCluster.w] at h; omega)) rfl (go tbl_ok false ?_)
  conv => whnf
  refine ⟨fun h => ?_, fun _ => ?_⟩ <;> conv => whnf
  · simp at h
  refine callR (eqWorkerS x.workers (by simp only [GCluster.w] at h; omega)) rfl (go tbl_ok false ?_)
  conv => whnf
  refine ⟨fun h => ?_, fun _ => ?_⟩ <;> conv => whnf
  · simp at h
  refine callR (eqLinkS x.links (by simp only [GCluster.w] at h; omega)) rfl (go tbl_ok false ?_)
  conv => whnf
  refine ⟨fun h => ?_, fun _ => ?_⟩ <;> conv => whnf
  · simp at h
  refine callR (eqTokenS x.tokens (by simp only [GCluster.w] at h; omega)) rfl (go tbl_ok false ?_)
  conv => whnf
  refine ⟨fun h => ?_, fun _ => ?_⟩ <;> conv => whnf
  · simp at h
  refine callR (eqNewsS x.news (by simp only [GCluster.w] at h; omega)) rfl (go tbl_ok false ?_)
  conv => whnf
  refine ⟨fun h => ?_, fun _ => ?_⟩ <;> conv => whnf
  · simp at h
  exact retW tbl_ok rfl rfl ⟨rfl, trivial⟩

end Go.Proofs.YteonkhnmlolfgaaGreatDoor
