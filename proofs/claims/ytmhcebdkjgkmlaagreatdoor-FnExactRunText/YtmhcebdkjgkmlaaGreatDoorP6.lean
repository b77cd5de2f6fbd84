/- Part 6 of the proof that each of the laws FnExactWhoIsDone, FnExactResultText, FnExactRunText returns true for every input. No conditions. -/
import Derived.Test.YtmhcebdkjgkmlaaGreatDoorProg
import Derived.KernelRfl
import Derived.Test.YtmhcebdkjgkmlaaGreatDoorP5
import Derived.Shelf.Strconv.Itoa3
import Derived.Shelf.Strings.SplitShaped

set_option linter.unusedSimpArgs false
set_option linter.unusedVariables false
set_option maxRecDepth 100000
namespace Go.Proofs.YtmhcebdkjgkmlaaGreatDoor
open Go.Sx
def tbl:List (TypeId×TI):=[
 (2,{agg:=false,size:=1,bytes:=8,zero:=[Value.int IntKind.i64 (0)],fields:=[],elem:=none,str:=false,flat:=some [CK.int IntKind.i64]}),
 (3,{agg:=false,size:=1,bytes:=8,zero:=[Value.int IntKind.i64 (0)],fields:=[],elem:=none,str:=false,flat:=some [CK.int IntKind.i64]}),
 (4,{agg:=false,size:=1,bytes:=1,zero:=[Value.bool false],fields:=[],elem:=none,str:=false,flat:=some [CK.bool]}),
 (5,{agg:=false,size:=1,bytes:=1,zero:=[Value.int IntKind.u8 (0)],fields:=[],elem:=none,str:=false,flat:=some [CK.int IntKind.u8]}),
 (9,{agg:=false,size:=1,bytes:=16,zero:=[Value.string ByteArray.empty],fields:=[],elem:=none,str:=true,flat:=none}),
 (12,{agg:=false,size:=1,bytes:=8,zero:=[Value.int IntKind.u64 (0)],fields:=[],elem:=none,str:=false,flat:=some [CK.int IntKind.u64]}),
 (21,{agg:=false,size:=1,bytes:=4,zero:=[Value.int IntKind.i32 (0)],fields:=[],elem:=none,str:=false,flat:=some [CK.int IntKind.i32]}),
 (22,{agg:=false,size:=1,bytes:=24,zero:=[Value.slice none 0 0],fields:=[],elem:=some 3,str:=false,flat:=none}),
 (27,{agg:=false,size:=1,bytes:=24,zero:=[Value.slice none 0 0],fields:=[],elem:=some 9,str:=false,flat:=none}),
 (33,{agg:=false,size:=1,bytes:=24,zero:=[Value.slice none 0 0],fields:=[],elem:=some 5,str:=false,flat:=none}),
 (35,{agg:=false,size:=1,bytes:=24,zero:=[Value.slice none 0 0],fields:=[],elem:=some 82,str:=false,flat:=none}),
 (36,{agg:=true,size:=3,bytes:=40,zero:=[Value.slice none 0 0,Value.int IntKind.i64 (0),Value.int IntKind.i64 (0)],fields:=[(0,35),(1,3),(2,3)],elem:=none,str:=false,flat:=none}),
 (37,{agg:=true,size:=3,bytes:=40,zero:=[Value.slice none 0 0,Value.int IntKind.i64 (0),Value.int IntKind.i64 (0)],fields:=[(0,35),(1,3),(2,3)],elem:=none,str:=false,flat:=none}),
 (38,{agg:=false,size:=1,bytes:=24,zero:=[Value.slice none 0 0],fields:=[],elem:=some 87,str:=false,flat:=none}),
 (39,{agg:=false,size:=1,bytes:=24,zero:=[Value.slice none 0 0],fields:=[],elem:=some 90,str:=false,flat:=none}),
 (40,{agg:=true,size:=6,bytes:=96,zero:=[Value.slice none 0 0,Value.int IntKind.i64 (0),Value.int IntKind.i64 (0),Value.slice none 0 0,Value.slice none 0 0,Value.int IntKind.i64 (0)],fields:=[(0,37),(3,38),(4,39),(5,3)],elem:=none,str:=false,flat:=none}),
 (41,{agg:=true,size:=6,bytes:=96,zero:=[Value.slice none 0 0,Value.int IntKind.i64 (0),Value.int IntKind.i64 (0),Value.slice none 0 0,Value.slice none 0 0,Value.int IntKind.i64 (0)],fields:=[(0,37),(3,38),(4,39),(5,3)],elem:=none,str:=false,flat:=none}),
 (44,{agg:=false,size:=1,bytes:=24,zero:=[Value.slice none 0 0],fields:=[],elem:=some 71,str:=false,flat:=none}),
 (45,{agg:=false,size:=1,bytes:=24,zero:=[Value.slice none 0 0],fields:=[],elem:=some 151,str:=false,flat:=none}),
 (46,{agg:=false,size:=1,bytes:=24,zero:=[Value.slice none 0 0],fields:=[],elem:=some 142,str:=false,flat:=none}),
 (47,{agg:=false,size:=1,bytes:=24,zero:=[Value.slice none 0 0],fields:=[],elem:=some 161,str:=false,flat:=none}),
 (48,{agg:=true,size:=7,bytes:=136,zero:=[Value.slice none 0 0,Value.int IntKind.i64 (0),Value.int IntKind.i64 (0),Value.slice none 0 0,Value.slice none 0 0,Value.slice none 0 0,Value.slice none 0 0],fields:=[(0,37),(3,44),(4,45),(5,46),(6,47)],elem:=none,str:=false,flat:=none}),
 (49,{agg:=true,size:=7,bytes:=136,zero:=[Value.slice none 0 0,Value.int IntKind.i64 (0),Value.int IntKind.i64 (0),Value.slice none 0 0,Value.slice none 0 0,Value.slice none 0 0,Value.slice none 0 0],fields:=[(0,37),(3,44),(4,45),(5,46),(6,47)],elem:=none,str:=false,flat:=none}),
 (50,{agg:=false,size:=1,bytes:=24,zero:=[Value.slice none 0 0],fields:=[],elem:=some 4,str:=false,flat:=none}),
 (68,{agg:=false,size:=1,bytes:=24,zero:=[Value.slice none 0 0],fields:=[],elem:=some 136,str:=false,flat:=none}),
 (69,{agg:=false,size:=1,bytes:=24,zero:=[Value.slice none 0 0],fields:=[],elem:=some 124,str:=false,flat:=none}),
 (70,{agg:=true,size:=8,bytes:=192,zero:=[Value.slice none 0 0,Value.slice none 0 0,Value.slice none 0 0,Value.slice none 0 0,Value.slice none 0 0,Value.slice none 0 0,Value.slice none 0 0,Value.slice none 0 0],fields:=[(0,38),(1,38),(2,38),(3,68),(4,22),(5,50),(6,50),(7,69)],elem:=none,str:=false,flat:=none}),
 (71,{agg:=true,size:=8,bytes:=192,zero:=[Value.slice none 0 0,Value.slice none 0 0,Value.slice none 0 0,Value.slice none 0 0,Value.slice none 0 0,Value.slice none 0 0,Value.slice none 0 0,Value.slice none 0 0],fields:=[(0,38),(1,38),(2,38),(3,68),(4,22),(5,50),(6,50),(7,69)],elem:=none,str:=false,flat:=none}),
 (81,{agg:=true,size:=4,bytes:=48,zero:=[Value.int IntKind.i64 (0),Value.int IntKind.i64 (0),Value.int IntKind.i64 (0),Value.slice none 0 0],fields:=[(0,3),(1,3),(2,3),(3,22)],elem:=none,str:=false,flat:=none}),
 (82,{agg:=true,size:=4,bytes:=48,zero:=[Value.int IntKind.i64 (0),Value.int IntKind.i64 (0),Value.int IntKind.i64 (0),Value.slice none 0 0],fields:=[(0,3),(1,3),(2,3),(3,22)],elem:=none,str:=false,flat:=none}),
 (84,{agg:=true,size:=2,bytes:=16,zero:=[Value.int IntKind.i64 (0),Value.int IntKind.i64 (0)],fields:=[(0,3),(1,3)],elem:=none,str:=false,flat:=some [CK.int IntKind.i64,CK.int IntKind.i64]}),
 (85,{agg:=true,size:=2,bytes:=16,zero:=[Value.int IntKind.i64 (0),Value.int IntKind.i64 (0)],fields:=[(0,3),(1,3)],elem:=none,str:=false,flat:=some [CK.int IntKind.i64,CK.int IntKind.i64]}),
 (86,{agg:=true,size:=5,bytes:=40,zero:=[Value.int IntKind.i64 (0),Value.int IntKind.i64 (0),Value.int IntKind.i64 (0),Value.int IntKind.i64 (0),Value.int IntKind.i64 (0)],fields:=[(0,3),(1,85),(3,3),(4,3)],elem:=none,str:=false,flat:=some [CK.int IntKind.i64,CK.int IntKind.i64,CK.int IntKind.i64,CK.int IntKind.i64,CK.int IntKind.i64]}),
 (87,{agg:=true,size:=5,bytes:=40,zero:=[Value.int IntKind.i64 (0),Value.int IntKind.i64 (0),Value.int IntKind.i64 (0),Value.int IntKind.i64 (0),Value.int IntKind.i64 (0)],fields:=[(0,3),(1,85),(3,3),(4,3)],elem:=none,str:=false,flat:=some [CK.int IntKind.i64,CK.int IntKind.i64,CK.int IntKind.i64,CK.int IntKind.i64,CK.int IntKind.i64]}),
 (89,{agg:=true,size:=3,bytes:=24,zero:=[Value.int IntKind.i64 (0),Value.int IntKind.i64 (0),Value.int IntKind.i64 (0)],fields:=[(0,3),(1,3),(2,3)],elem:=none,str:=false,flat:=some [CK.int IntKind.i64,CK.int IntKind.i64,CK.int IntKind.i64]}),
 (90,{agg:=true,size:=3,bytes:=24,zero:=[Value.int IntKind.i64 (0),Value.int IntKind.i64 (0),Value.int IntKind.i64 (0)],fields:=[(0,3),(1,3),(2,3)],elem:=none,str:=false,flat:=some [CK.int IntKind.i64,CK.int IntKind.i64,CK.int IntKind.i64]}),
 (101,{agg:=false,size:=1,bytes:=8,zero:=[Value.pointer none],fields:=[],elem:=none,str:=false,flat:=none}),
 (117,{agg:=false,size:=1,bytes:=8,zero:=[Value.pointer none],fields:=[],elem:=none,str:=false,flat:=none}),
 (123,{agg:=true,size:=2,bytes:=16,zero:=[Value.int IntKind.i64 (0),Value.bool false],fields:=[(0,3),(1,4)],elem:=none,str:=false,flat:=some [CK.int IntKind.i64,CK.bool]}),
 (124,{agg:=true,size:=2,bytes:=16,zero:=[Value.int IntKind.i64 (0),Value.bool false],fields:=[(0,3),(1,4)],elem:=none,str:=false,flat:=some [CK.int IntKind.i64,CK.bool]}),
 (126,{agg:=false,size:=1,bytes:=8,zero:=[Value.pointer none],fields:=[],elem:=none,str:=false,flat:=none}),
 (131,{agg:=true,size:=8,bytes:=144,zero:=[Value.slice none 0 0,Value.int IntKind.i64 (0),Value.int IntKind.i64 (0),Value.slice none 0 0,Value.slice none 0 0,Value.slice none 0 0,Value.slice none 0 0,Value.bool false],fields:=[(0,49),(7,4)],elem:=none,str:=false,flat:=none}),
 (132,{agg:=true,size:=8,bytes:=144,zero:=[Value.slice none 0 0,Value.int IntKind.i64 (0),Value.int IntKind.i64 (0),Value.slice none 0 0,Value.slice none 0 0,Value.slice none 0 0,Value.slice none 0 0,Value.bool false],fields:=[(0,49),(7,4)],elem:=none,str:=false,flat:=none}),
 (135,{agg:=true,size:=4,bytes:=32,zero:=[Value.int IntKind.i64 (0),Value.int IntKind.i64 (0),Value.int IntKind.i64 (0),Value.int IntKind.i64 (0)],fields:=[(0,3),(1,3),(2,3),(3,3)],elem:=none,str:=false,flat:=some [CK.int IntKind.i64,CK.int IntKind.i64,CK.int IntKind.i64,CK.int IntKind.i64]}),
 (136,{agg:=true,size:=4,bytes:=32,zero:=[Value.int IntKind.i64 (0),Value.int IntKind.i64 (0),Value.int IntKind.i64 (0),Value.int IntKind.i64 (0)],fields:=[(0,3),(1,3),(2,3),(3,3)],elem:=none,str:=false,flat:=some [CK.int IntKind.i64,CK.int IntKind.i64,CK.int IntKind.i64,CK.int IntKind.i64]}),
 (141,{agg:=true,size:=5,bytes:=32,zero:=[Value.bool false,Value.int IntKind.i64 (0),Value.int IntKind.i64 (0),Value.bool false,Value.bool false],fields:=[(0,4),(1,3),(2,3),(3,4),(4,4)],elem:=none,str:=false,flat:=some [CK.bool,CK.int IntKind.i64,CK.int IntKind.i64,CK.bool,CK.bool]}),
 (142,{agg:=true,size:=5,bytes:=32,zero:=[Value.bool false,Value.int IntKind.i64 (0),Value.int IntKind.i64 (0),Value.bool false,Value.bool false],fields:=[(0,4),(1,3),(2,3),(3,4),(4,4)],elem:=none,str:=false,flat:=some [CK.bool,CK.int IntKind.i64,CK.int IntKind.i64,CK.bool,CK.bool]}),
 (150,{agg:=true,size:=6,bytes:=64,zero:=[Value.int IntKind.i64 (0),Value.slice none 0 0,Value.int IntKind.i64 (0),Value.int IntKind.i64 (0),Value.int IntKind.i64 (0),Value.int IntKind.i64 (0)],fields:=[(0,3),(1,38),(2,3),(3,3),(4,3),(5,3)],elem:=none,str:=false,flat:=none}),
 (151,{agg:=true,size:=6,bytes:=64,zero:=[Value.int IntKind.i64 (0),Value.slice none 0 0,Value.int IntKind.i64 (0),Value.int IntKind.i64 (0),Value.int IntKind.i64 (0),Value.int IntKind.i64 (0)],fields:=[(0,3),(1,38),(2,3),(3,3),(4,3),(5,3)],elem:=none,str:=false,flat:=none}),
 (160,{agg:=true,size:=3,bytes:=24,zero:=[Value.int IntKind.i64 (0),Value.int IntKind.i64 (0),Value.bool false],fields:=[(0,3),(1,3),(2,4)],elem:=none,str:=false,flat:=some [CK.int IntKind.i64,CK.int IntKind.i64,CK.bool]}),
 (161,{agg:=true,size:=3,bytes:=24,zero:=[Value.int IntKind.i64 (0),Value.int IntKind.i64 (0),Value.bool false],fields:=[(0,3),(1,3),(2,4)],elem:=none,str:=false,flat:=some [CK.int IntKind.i64,CK.int IntKind.i64,CK.bool]}),
 (162,{agg:=true,size:=3,bytes:=40,zero:=[Value.slice none 0 0,Value.int IntKind.i64 (0),Value.int IntKind.i64 (0)],fields:=[(0,33),(1,3),(2,3)],elem:=none,str:=false,flat:=none}),
 (163,{agg:=true,size:=3,bytes:=40,zero:=[Value.slice none 0 0,Value.int IntKind.i64 (0),Value.int IntKind.i64 (0)],fields:=[(0,33),(1,3),(2,3)],elem:=none,str:=false,flat:=none}),
 (207,{agg:=false,size:=1,bytes:=16,zero:=[Value.nilIface],fields:=[],elem:=none,str:=false,flat:=none}),
 (210,{agg:=false,size:=1,bytes:=8,zero:=[Value.pointer none],fields:=[],elem:=none,str:=false,flat:=none}),
 (211,{agg:=true,size:=2,bytes:=32,zero:=[Value.pointer none,Value.slice none 0 0],fields:=[(0,210),(1,33)],elem:=none,str:=false,flat:=none}),
 (212,{agg:=true,size:=2,bytes:=32,zero:=[Value.pointer none,Value.slice none 0 0],fields:=[(0,210),(1,33)],elem:=none,str:=false,flat:=none}),
 (215,{agg:=false,size:=1,bytes:=8,zero:=[Value.int IntKind.u64 (0)],fields:=[],elem:=none,str:=false,flat:=some [CK.int IntKind.u64]}),
 (239,{agg:=false,size:=1,bytes:=8,zero:=[Value.pointer none],fields:=[],elem:=none,str:=false,flat:=none}),
 (240,{agg:=false,size:=1,bytes:=8,zero:=[Value.pointer none],fields:=[],elem:=none,str:=false,flat:=none}),
 (253,{agg:=false,size:=1,bytes:=24,zero:=[Value.slice none 0 0],fields:=[],elem:=some 255,str:=false,flat:=none}),
 (254,{agg:=true,size:=2,bytes:=16,zero:=[Value.int IntKind.i64 (0),Value.int IntKind.i64 (0)],fields:=[(0,3),(1,3)],elem:=none,str:=false,flat:=some [CK.int IntKind.i64,CK.int IntKind.i64]}),
 (255,{agg:=true,size:=2,bytes:=16,zero:=[Value.int IntKind.i64 (0),Value.int IntKind.i64 (0)],fields:=[(0,3),(1,3)],elem:=none,str:=false,flat:=some [CK.int IntKind.i64,CK.int IntKind.i64]}),
 (256,{agg:=false,size:=1,bytes:=4,zero:=[Value.int IntKind.u32 (0)],fields:=[],elem:=none,str:=false,flat:=some [CK.int IntKind.u32]}),
 (258,{agg:=false,size:=1,bytes:=8,zero:=[Value.pointer none],fields:=[],elem:=none,str:=false,flat:=none}),
 (260,{agg:=false,size:=1,bytes:=8,zero:=[Value.pointer none],fields:=[],elem:=none,str:=false,flat:=none}),
 (265,{agg:=true,size:=24,bytes:=24,zero:=[Value.int IntKind.u8 (0),Value.int IntKind.u8 (0),Value.int IntKind.u8 (0),Value.int IntKind.u8 (0),Value.int IntKind.u8 (0),Value.int IntKind.u8 (0),Value.int IntKind.u8 (0),Value.int IntKind.u8 (0),Value.int IntKind.u8 (0),Value.int IntKind.u8 (0),Value.int IntKind.u8 (0),Value.int IntKind.u8 (0),Value.int IntKind.u8 (0),Value.int IntKind.u8 (0),Value.int IntKind.u8 (0),Value.int IntKind.u8 (0),Value.int IntKind.u8 (0),Value.int IntKind.u8 (0),Value.int IntKind.u8 (0),Value.int IntKind.u8 (0),Value.int IntKind.u8 (0),Value.int IntKind.u8 (0),Value.int IntKind.u8 (0),Value.int IntKind.u8 (0)],fields:=[],elem:=none,str:=false,flat:=none}),
 (266,{agg:=false,size:=1,bytes:=8,zero:=[Value.int IntKind.u64 (0)],fields:=[],elem:=none,str:=false,flat:=some [CK.int IntKind.u64]}),
 (279,{agg:=false,size:=1,bytes:=24,zero:=[Value.slice none 0 0],fields:=[],elem:=some 285,str:=false,flat:=none}),
 (280,{agg:=false,size:=1,bytes:=24,zero:=[Value.slice none 0 0],fields:=[],elem:=some 288,str:=false,flat:=none}),
 (281,{agg:=true,size:=3,bytes:=56,zero:=[Value.slice none 0 0,Value.slice none 0 0,Value.int IntKind.i64 (0)],fields:=[(0,279),(1,280),(2,3)],elem:=none,str:=false,flat:=none}),
 (282,{agg:=true,size:=3,bytes:=56,zero:=[Value.slice none 0 0,Value.slice none 0 0,Value.int IntKind.i64 (0)],fields:=[(0,279),(1,280),(2,3)],elem:=none,str:=false,flat:=none}),
 (283,{agg:=false,size:=1,bytes:=2,zero:=[Value.int IntKind.u16 (0)],fields:=[],elem:=none,str:=false,flat:=some [CK.int IntKind.u16]}),
 (284,{agg:=true,size:=3,bytes:=6,zero:=[Value.int IntKind.u16 (0),Value.int IntKind.u16 (0),Value.int IntKind.u16 (0)],fields:=[(0,283),(1,283),(2,283)],elem:=none,str:=false,flat:=some [CK.int IntKind.u16,CK.int IntKind.u16,CK.int IntKind.u16]}),
 (285,{agg:=true,size:=3,bytes:=6,zero:=[Value.int IntKind.u16 (0),Value.int IntKind.u16 (0),Value.int IntKind.u16 (0)],fields:=[(0,283),(1,283),(2,283)],elem:=none,str:=false,flat:=some [CK.int IntKind.u16,CK.int IntKind.u16,CK.int IntKind.u16]}),
 (287,{agg:=true,size:=3,bytes:=12,zero:=[Value.int IntKind.u32 (0),Value.int IntKind.u32 (0),Value.int IntKind.u32 (0)],fields:=[(0,256),(1,256),(2,256)],elem:=none,str:=false,flat:=some [CK.int IntKind.u32,CK.int IntKind.u32,CK.int IntKind.u32]}),
 (288,{agg:=true,size:=3,bytes:=12,zero:=[Value.int IntKind.u32 (0),Value.int IntKind.u32 (0),Value.int IntKind.u32 (0)],fields:=[(0,256),(1,256),(2,256)],elem:=none,str:=false,flat:=some [CK.int IntKind.u32,CK.int IntKind.u32,CK.int IntKind.u32]}),
 (290,{agg:=false,size:=1,bytes:=8,zero:=[Value.int IntKind.i64 (0)],fields:=[],elem:=none,str:=false,flat:=some [CK.int IntKind.i64]}),
 (293,{agg:=false,size:=1,bytes:=8,zero:=[Value.pointer none],fields:=[],elem:=none,str:=false,flat:=none}),
 (302,{agg:=true,size:=20,bytes:=160,zero:=[Value.int IntKind.u64 (0),Value.int IntKind.u64 (0),Value.int IntKind.u64 (0),Value.int IntKind.u64 (0),Value.int IntKind.u64 (0),Value.int IntKind.u64 (0),Value.int IntKind.u64 (0),Value.int IntKind.u64 (0),Value.int IntKind.u64 (0),Value.int IntKind.u64 (0),Value.int IntKind.u64 (0),Value.int IntKind.u64 (0),Value.int IntKind.u64 (0),Value.int IntKind.u64 (0),Value.int IntKind.u64 (0),Value.int IntKind.u64 (0),Value.int IntKind.u64 (0),Value.int IntKind.u64 (0),Value.int IntKind.u64 (0),Value.int IntKind.u64 (0)],fields:=[],elem:=none,str:=false,flat:=none}),
 (308,{agg:=true,size:=2,bytes:=2,zero:=[Value.int IntKind.u8 (0),Value.int IntKind.u8 (0)],fields:=[(0,5),(1,5)],elem:=none,str:=false,flat:=some [CK.int IntKind.u8,CK.int IntKind.u8]}),
 (309,{agg:=true,size:=2,bytes:=2,zero:=[Value.int IntKind.u8 (0),Value.int IntKind.u8 (0)],fields:=[(0,5),(1,5)],elem:=none,str:=false,flat:=some [CK.int IntKind.u8,CK.int IntKind.u8]}),
 (310,{agg:=true,size:=32,bytes:=32,zero:=[Value.int IntKind.u8 (0),Value.int IntKind.u8 (0),Value.int IntKind.u8 (0),Value.int IntKind.u8 (0),Value.int IntKind.u8 (0),Value.int IntKind.u8 (0),Value.int IntKind.u8 (0),Value.int IntKind.u8 (0),Value.int IntKind.u8 (0),Value.int IntKind.u8 (0),Value.int IntKind.u8 (0),Value.int IntKind.u8 (0),Value.int IntKind.u8 (0),Value.int IntKind.u8 (0),Value.int IntKind.u8 (0),Value.int IntKind.u8 (0),Value.int IntKind.u8 (0),Value.int IntKind.u8 (0),Value.int IntKind.u8 (0),Value.int IntKind.u8 (0),Value.int IntKind.u8 (0),Value.int IntKind.u8 (0),Value.int IntKind.u8 (0),Value.int IntKind.u8 (0),Value.int IntKind.u8 (0),Value.int IntKind.u8 (0),Value.int IntKind.u8 (0),Value.int IntKind.u8 (0),Value.int IntKind.u8 (0),Value.int IntKind.u8 (0),Value.int IntKind.u8 (0),Value.int IntKind.u8 (0)],fields:=[],elem:=none,str:=false,flat:=none}),
 (313,{agg:=false,size:=1,bytes:=8,zero:=[Value.pointer none],fields:=[],elem:=none,str:=false,flat:=none}),
 (314,{agg:=false,size:=1,bytes:=8,zero:=[Value.pointer none],fields:=[],elem:=none,str:=false,flat:=none}),
 (318,{agg:=true,size:=3,bytes:=48,zero:=[Value.string ByteArray.empty,Value.string ByteArray.empty,Value.nilIface],fields:=[(0,9),(1,9),(2,207)],elem:=none,str:=false,flat:=none}),
 (319,{agg:=true,size:=3,bytes:=48,zero:=[Value.string ByteArray.empty,Value.string ByteArray.empty,Value.nilIface],fields:=[(0,9),(1,9),(2,207)],elem:=none,str:=false,flat:=none}),
 (326,{agg:=false,size:=1,bytes:=8,zero:=[Value.pointer none],fields:=[],elem:=none,str:=false,flat:=none}),
 (327,{agg:=true,size:=1,bytes:=16,zero:=[Value.string ByteArray.empty],fields:=[(0,9)],elem:=none,str:=false,flat:=none}),
 (328,{agg:=true,size:=1,bytes:=16,zero:=[Value.string ByteArray.empty],fields:=[(0,9)],elem:=none,str:=false,flat:=none}),
 (330,{agg:=true,size:=32,bytes:=32,zero:=[Value.int IntKind.u8 (0),Value.int IntKind.u8 (0),Value.int IntKind.u8 (0),Value.int IntKind.u8 (0),Value.int IntKind.u8 (0),Value.int IntKind.u8 (0),Value.int IntKind.u8 (0),Value.int IntKind.u8 (0),Value.int IntKind.u8 (0),Value.int IntKind.u8 (0),Value.int IntKind.u8 (0),Value.int IntKind.u8 (0),Value.int IntKind.u8 (0),Value.int IntKind.u8 (0),Value.int IntKind.u8 (0),Value.int IntKind.u8 (0),Value.int IntKind.u8 (0),Value.int IntKind.u8 (0),Value.int IntKind.u8 (0),Value.int IntKind.u8 (0),Value.int IntKind.u8 (0),Value.int IntKind.u8 (0),Value.int IntKind.u8 (0),Value.int IntKind.u8 (0),Value.int IntKind.u8 (0),Value.int IntKind.u8 (0),Value.int IntKind.u8 (0),Value.int IntKind.u8 (0),Value.int IntKind.u8 (0),Value.int IntKind.u8 (0),Value.int IntKind.u8 (0),Value.int IntKind.u8 (0)],fields:=[],elem:=none,str:=false,flat:=none})]
theorem A0:Bw Tryz.prog tbl:=
 (.cons Ah (.cons Ah (.cons Ah (.cons Ah (.cons Ah (.cons Ah (.cons Ah (.cons Ah (.cons Ah (.cons Ah (.cons Ah (.cons Ah (.cons Ah (.cons Ah (.cons Ah (.cons Ah (.cons Ah (.cons Ah (.cons Ah (.cons Ah (.cons Ah (.cons Ah (.cons Ah (.cons Ah (.cons Ah (.cons Ah (.cons Ah (.cons Ah (.cons Ah (.cons Ah (.cons Ah (.cons Ah (.cons Ah (.cons Ah (.cons Ah (.cons Ah (.cons Ah (.cons Ah (.cons Ah (.cons Ah (.cons Ah (.cons Ah (.cons Ah (.cons Ah (.cons Ah (.cons Ah (.cons Ah (.cons Ah (.cons Ah (.cons Ah (.cons Ah (.cons Ah (.cons Ah (.cons Ah (.cons Ah (.cons Ah (.cons Ah (.cons Ah (.cons Ah (.cons Ah (.cons Ah (.cons Ah (.cons Ah (.cons Ah (.cons Ah (.cons Ah (.cons Ah (.cons Ah (.cons Ah (.cons Ah (.cons Ah (.cons Ah (.cons Ah (.cons Ah (.cons Ah (.cons Ah (.cons Ah (.cons Ah (.cons Ah (.cons Ah (.cons Ah (.cons Ah (.cons Ah (.cons Ah (.cons Ah (.cons Ah (.cons Ah (.cons Ah (.cons Ah (.cons Ah (.cons Ah .nil)))))))))))))))))))))))))))))))))))))))))))))))))))))))))))))))))))))))))))))))))))))))))))
structure Ig (R:Prop):Prop where
 get:R
variable {p : Prop} {q : Prop}
theorem D2u (hq:q)(hp:p:=by first|omega|(show _∧_;omega)|decide):p∧q:=⟨hp,hq⟩
theorem D2v (hq:q)(hp:p:=by first|omega|(show _∧_;omega)|(simp only [Jz];omega)|decide):p∧q:=⟨hp,hq⟩
variable {X : Prop} {Y : Prop} {R : Prop}
theorem skW (r:R)(h:Ig R→X∧Y:=by intro r;(first|refine skf ?_|refine skt ?_|refine H8 ?_);(conv=>whnf);exact r.get):X∧Y:=h ⟨r⟩
theorem ndW (r:R)(h:Ig R→X∧Y:=by intro r;refine H8 ?_;(conv=>whnf);exact r.get):X∧Y:=h ⟨r⟩
theorem ndV (r:R)(h:Ig R→X∧Y:=by intro r;refine D2u ?_;(conv=>whnf);exact r.get):X∧Y:=h ⟨r⟩
theorem ndU (r:R)(h:Ig R→X∧Y:=by intro r;refine D2v ?_;(conv=>whnf);exact r.get):X∧Y:=h ⟨r⟩
variable {B : Fa} {Q : Exit → Act → World → Prop} {K : List KI} {s : AS}
theorem Iv (h:vcW Tryz.prog B Q (Pq tbl false 100000 K s)):GW Tryz.prog B Q K s:=go A0 false h
theorem Aj (r:R)(h:Ig R→GW Tryz.prog B Q K s:=by intro r;refine go A0 false ?_;(conv=>whnf);exact r.get):GW Tryz.prog B Q K s:=h ⟨r⟩
theorem dcI {P:Prop} [Decidable P] (h:P→p)(g:¬P→q):(decide P=true→p)∧(decide P=false→q):=⟨fun e=>h (Bj e),fun e=>g (Cr e)⟩
variable {f : FuncId} {xs : List AV} {dst : Option Tmp} {ins : List Gl} {ax : List Gl}
theorem F0 {q:Bool}(hf:Px Tryz.prog f ins ax)(r:R)(hx:Ix s xs=some ins:=by exact rfl)(h:Ig R→GW Tryz.prog B Q K (s.put dst (Pa ax)):=by intro r;refine go A0 false ?_;(conv=>whnf);exact r.get):CW Tryz.prog B Q q f xs dst K s:=As hf hx (h ⟨r⟩)
theorem Gg {q:Bool}(hf:Px Tryz.prog f ins ax)(r:R)(hx:Ix s xs=some ins:=by exact rfl)(h:Ig R→GW Tryz.prog B Q K ((Ho ax s).2.put dst (Ho ax s).1):=by intro r;refine go A0 false ?_;(conv=>whnf);exact r.get):CW Tryz.prog B Q q f xs dst K s:=Ll hf hx (h ⟨r⟩)
variable {N : Act → World → Prop} {ops : Array Oper} {fuel : Nat} {listed : Array Bool}
theorem Qo (i:Nat)(r:R)(hr:(eqL (Region.ready .any ops listed) [i]&&![i].isEmpty)=true:=by kernel_rfl)(h:Ig R→(match ops[i]? with|some o=>GW Tryz.prog B QF [.ops false ops [o],.loop (fun a w=>wpAny Tryz.prog .any ops (QN N) fuel (listed.setIfInBounds i true) a w)] s|none=>False):=by intro r;refine go A0 false ?_;(conv=>whnf);exact r.get):AW Tryz.prog B N ops (fuel+1) listed s:=Ay [i] hr ⟨h ⟨r⟩,trivial⟩
theorem Um {R':Prop}(i j:Nat)(r:R)(r':R')(hr:(eqL (Region.ready .any ops listed) [i,j]&&![i,j].isEmpty)=true:=by kernel_rfl)(h:Ig R→(match ops[i]? with|some o=>GW Tryz.prog B QF [.ops false ops [o],.loop (fun a w=>wpAny Tryz.prog .any ops (QN N) fuel (listed.setIfInBounds i true) a w)] s|none=>False):=by intro r;refine go A0 false ?_;(conv=>whnf);exact r.get)(h':Ig R'→(match ops[j]? with|some o=>GW Tryz.prog B QF [.ops false ops [o],.loop (fun a w=>wpAny Tryz.prog .any ops (QN N) fuel (listed.setIfInBounds j true) a w)] s|none=>False):=by intro r;refine go A0 false ?_;(conv=>whnf);exact r.get):AW Tryz.prog B N ops (fuel+1) listed s:=Ay [i,j] hr ⟨h ⟨r⟩,h' ⟨r'⟩,trivial⟩
theorem zt2 {R':Prop}(i j:Nat)(r:R)(r':R')(hr:(eqL (Region.ready .any ops listed) [i,j]&&![i,j].isEmpty)=true:=by kernel_rfl)(h:Ig R→(match ops[i]? with|some o=>GW Tryz.prog B QF [.ops true ops [o],.loop (fun a w=>Qx Tryz.prog ops N fuel (listed.setIfInBounds i true) a w)] s|none=>False):=by intro r;refine go A0 false ?_;(conv=>whnf);exact r.get)(h':Ig R'→(match ops[j]? with|some o=>GW Tryz.prog B QF [.ops true ops [o],.loop (fun a w=>Qx Tryz.prog ops N fuel (listed.setIfInBounds j true) a w)] s|none=>False):=by intro r;refine go A0 false ?_;(conv=>whnf);exact r.get):BW Tryz.prog B N ops (fuel+1) listed s:=splitB [i,j] hr ⟨h ⟨r⟩,h' ⟨r'⟩,trivial⟩
variable {c : Code}
theorem zlW {J:Type}{R:J→Prop}(fs:List Nat)(us:J→List (Nat×AV))(bs:J→List Bx)(os:J→List Ow)(φ:J→Prop)(μ:J→Nat)(j0:J)(h0:φ j0)(r:∀j,φ j→R j)(hu:Ss [] s.af (us j0):=by exact (by repeat' (first|exact trivial|refine ⟨by first|rfl|simp [I7,ren2,ren1,ren0],?_⟩)))(hb:B6l [] s.aw (bs j0):=by exact A2j)(ho:B6p [] s.own (os j0):=by exact (by repeat' (first|exact trivial|refine ⟨by first|rfl|exact (A6 (fun l=>Mr _ _ l) (Hw _)).symm|(show (_:Ag)=_;simp)|simp,?_⟩)))(hl:B6m [] s.ay s.ay:=by exact ab9)(hk:Zd [] s (s.upd fs (us j0) (bs j0) (os j0))=true:=by kernel_rfl)(h:∀j,Ig (R j)→vcW Tryz.prog B Q (upK s.af 0 fs (us j) fun af=>Pq tbl false 100000 (.code c:: .loop (Inv B (fun j=>s.upd fs (us j) (bs j) (os j)) φ μ (μ j))::K) {s with af:=af,aw:=bs j,own:=os j}):=by intro j r;(conv=>whnf);exact r.get):GW Tryz.prog B Q (.code (.loop c)::K) s:=Ok A0 false fs us bs os φ μ j0 h0 hu hb ho hl hk fun j hj=>h j ⟨r j hj⟩
theorem Fv {R:Nat→Prop}(fs:List Nat)(us:Nat→List (Nat×AV))(bs:Nat→List Bx)(os:Nat→List Ow)(φ:Nat→Prop)(μ:Nat→Nat)(r:∀j,φ j→R j)(h0:φ 0:=by first|exact Fk _|exact ⟨Fk _,by first|rfl|assumption|simp⟩)(hu:Ss [] s.af (us 0):=by exact (by repeat' (first|exact trivial|refine ⟨by first|rfl|simp [I7,ren2,ren1,ren0],?_⟩)))(hb:B6l [] s.aw (bs 0):=by exact A2j)(ho:B6p [] s.own (os 0):=by exact (by repeat' (first|exact trivial|refine ⟨by first|rfl|exact (A6 (fun l=>Mr _ _ l) (Hw _)).symm|(show (_:Ag)=_;simp)|simp,?_⟩)))(hl:B6m [] s.ay s.ay:=by exact ab9)(hk:Zd [] s (s.upd fs (us 0) (bs 0) (os 0))=true:=by kernel_rfl)(h:∀j,Ig (R j)→vcW Tryz.prog B Q (upK s.af 0 fs (us j) fun af=>Pq tbl false 100000 (.code c:: .loop (Inv B (fun j=>s.upd fs (us j) (bs j) (os j)) φ μ (μ j))::K) {s with af:=af,aw:=bs j,own:=os j}):=by intro j r;(conv=>whnf);exact r.get):GW Tryz.prog B Q (.code (.loop c)::K) s:=Ok A0 false fs us bs os φ μ 0 h0 hu hb ho hl hk fun j hj=>h j ⟨r j hj⟩
variable {s' : AS}
theorem Ci (f:List (Nat×Nat)){J:Type}(j:J){fs:List Nat}{us:J→List (Nat×AV)}{bs:J→List Bx}{os:J→List Ow}{φ:J→Prop}{μ:J→Nat}{m:Nat}(hφ:φ j)(hμ:μ j<m)(hu:Ss f s'.af (us j))(ho:B6p f s'.own (os j))(hb:B6l f s'.aw (bs j):=by exact A2j)(hs:Yb s'.af s.af 0 fs (us j)=Yc f s.af 0 fs (us j):=by kernel_rfl)(hl:B6m f s'.ay s.ay:=by exact ab9)(hk:Zd f s' (s.upd fs (us j) (bs j) (os j))=true:=by kernel_rfl):GW Tryz.prog B Q (.loop (Inv B (fun j=>s.upd fs (us j) (bs j) (os j)) φ μ m)::K) s':=W5 f j hφ hμ hu ho hb hs hl hk
variable {o : Oper}
theorem Jy (i:Nat){ps:List Prop}{x:AV}(hh:(ops[i]?,o.guard,A22 o.op,Go.Sx.Lj tbl false s o.op)=(some o,none,true,.ok ps x))(h:AW Tryz.prog B N ops fuel (listed.setIfInBounds i true) (s.put o.dst x))(hb:(Region.noSelect ops&&(Region.ready .any ops listed).contains i&&D1a ops listed i o)=true:=by kernel_rfl)(hp:∀p∈ps,p:=by exact (Q0 B8n)):AW Tryz.prog B N ops (fuel+1) listed s:=by
 simp only [J9] at hh;exact C4f A0 false i hh.1 hh.2.1 hh.2.2.1 hb hh.2.2.2 hp h
theorem Dw (i:Nat){ps:List Prop}{x:AV}(hh:(ops[i]?,A22 o.op,Go.Sx.Lj tbl false s o.op)=(some o,true,.ok ps x))(h:BW Tryz.prog B N ops fuel (listed.setIfInBounds i true) (s.put o.dst x))(hb:(o.guard.isNone&&Region.noSelect ops&&(Region.ready .any ops listed).contains i&&B1p ops listed i o)=true:=by kernel_rfl)(hp:∀p∈ps,p:=by exact (Q0 B8n)):BW Tryz.prog B N ops (fuel+1) listed s:=by
 simp only [J9] at hh;exact D3n A0 false i hh.1 hh.2.1 hb hh.2.2 hp h
theorem Of (i:Nat)(h:BW Tryz.prog B N ops fuel (listed.setIfInBounds i true) s')(hi:ops[i]? =some o:=by exact rfl)(hb:(Nat.beq (De o.op) 0&&Region.noSelect ops&&(Region.ready .any ops listed).contains i&&B5x ops listed i o&&A5q ops listed)=true:=by kernel_rfl)(ht:GW Tryz.prog B QF [.ops true ops [o],.loop (fun a w=>∃E,s'.is B E a w)] s:=by refine Aj ?_;(repeat refine ndW ?_);exact C0):BW Tryz.prog B N ops (fuel+1) listed s:=Lq i hi hb ht h
theorem zoF (i:Nat)(h:BW Tryz.prog B N ops fuel (listed.setIfInBounds i true) s')(hi:ops[i]? =some o:=by exact rfl)(hb:(B60 o.op&&Region.noSelect ops&&(Region.ready .any ops listed).contains i&&B1p ops listed i o)=true:=by kernel_rfl)(ht:GW Tryz.prog B QF [.ops true ops [o],.loop (fun a w=>∃E,s'.is B E a w)] s:=by refine Aj ?_;(repeat refine ndW ?_);exact C0):BW Tryz.prog B N ops (fuel+1) listed s:=D3m i hi hb ht h
variable {rest : List Nat}
theorem L9 {k:Nat}{fs:List Flt}(ho:ops[k]? =some o)(hR:Yn tbl ops s fs)(ht:GW Tryz.prog B QF [.ops true ops [o],.loop (fun a w=>∃E,s'.is B E a w)] (A30 (U3 o fs) s))(h:FW Tryz.prog B N ops rest (Xs o fs) s')(hF:(Q6 tbl ops (k::rest) fs s&&(A3g ops (k::rest) [k]&&Vm ops (k::rest) fs o))=true:=by kernel_rfl):FW Tryz.prog B N ops (k::rest) fs s:=D1e A0 ho hF hR ht h
theorem Ms {k:Nat}{fs:List Flt}(ho:ops[k]? =some o)(hR:Yn tbl ops s fs)(h:FW Tryz.prog B N ops rest (Xs o fs) s')(hF:(Q6 tbl ops (k::rest) fs s&&(A3g ops (k::rest) [k]&&Vm ops (k::rest) fs o))=true:=by kernel_rfl)(ht:GW Tryz.prog B QF [.ops true ops [o],.loop (fun a w=>∃E,s'.is B E a w)] (A30 (U3 o fs) s):=by refine Aj ?_;(repeat refine ndW ?_);exact C0):FW Tryz.prog B N ops (k::rest) fs s:=D1e A0 ho hF hR ht h
variable {fn : Func}
theorem E3 {R:World→Prop}(hf:Tryz.prog.funcs[f]? =some fn)(r:∀W,R W)(hb:fn.body=some c:=by exact rfl)(hn:(fn.name== "runtime.NumGoroutine")=false:=by decide)(h:∀W,Ig (R W)→vcW Tryz.prog ⟨W,fun _=>False⟩ (bodyPost Tryz.prog fn fun e w'=>Jb W w' ax e) (Pq tbl false 100000 [.code c] (Go.Sx.F4 fn.ntmps ins)):=by intro W r;(conv=>whnf);exact r.get):Px Tryz.prog f ins ax:=A6y A0 false hf hb hn fun W=>h W ⟨r W⟩
variable {H : World → Prop} {pins : List (Ag × Value)} {ι : Type}
theorem zeP {cs:List Ag}{φ:ι→Prop}{cs':ι→List Ag}{ax:ι→List Gl}{R:Fa→Nat→Prop}(hf:Tryz.prog.funcs[f]? =some fn)(r:∀B b,(∀w,B.rel w→H w)→Py B pins→R B b)(hb:fn.body=some c:=by exact rfl)(hn:(fn.name== "runtime.NumGoroutine")=false:=by decide)(h:∀B b,Ig (R B b)→vcW Tryz.prog B (bodyPost Tryz.prog fn fun e w'=>∃i,φ i∧A54 B b w' (cs' i) (ax i) e) (Pq tbl false 100000 [.code c] (C8g fn.ntmps b cs ins)):=by intro B b r;(conv=>whnf);exact r.get):A58 Tryz.prog H f pins cs ins φ cs' ax:=D1q A0 false hf hb hn fun B b h1 h2=>h B b ⟨r B b h1 h2⟩
theorem zcP {k:Nat}{rest:List AV}{cs:List Ag}{φ:ι→Prop}{cs':ι→List Ag}{ax:ι→List Gl}{bx:Bx}{R:ι→Prop}(hf:A58 Tryz.prog H f pins cs ins φ cs' ax)(hH:∀w,B.rel w→H w)(hp:Py B pins)(r:∀i,φ i→R i)(hb:Fs s.aw k=some bx:=by exact rfl)(ho:A4o s.own bx.cells cs:=by exact Mm)(hk:G2 (bx.cells.flatMap I6)=true:=by exact rfl)(hx:B06 (Ba (bx.cells.flatMap I6) s.own) rest=some ins:=by exact rfl)(h:∀i,Ig (R i)→GW Tryz.prog B Q K (B8p k (bx.cells.flatMap I6) (cs' i) (ax i) dst s):=by intro i r;refine go A0 false ?_;(conv=>whnf);exact r.get):CW Tryz.prog B Q false f (.box k 0::rest) dst K s:=D06 hf hH hp hb ho hk hx fun i hi=>h i ⟨r i hi⟩
theorem D0 {W:World}(hx:Pb tbl fn.results.toList s=some xs:=by exact rfl)(hk:G2 (xs.flatMap Cd)=true:=by exact rfl)(ho:Ol s.own xs ax:=by exact Mm):RW ⟨W,fun _=>False⟩ (bodyPost Tryz.prog fn fun e w'=>Jb W w' ax e) s:=An A0 hx hk ho
theorem K4 {b:Nat}{φ:ι→Prop}{cs':ι→List Ag}{ax:ι→List Gl}{bx:Bx}(i:ι)(hi:φ i)(hx:Pb tbl fn.results.toList s=some xs:=by exact rfl)(hb:Fs s.aw 0=some bx:=by exact rfl)(hl:Dm s.ay 0=some (.pointer (some ⟨b,0,none⟩)):=by exact rfl)(hk:G2 ((AV.agg bx.cells::xs).flatMap Cd)=true:=by exact rfl)(ho:Ol s.own (.agg bx.cells::xs) (.agg (cs' i)::ax i):=by exact Mm):RW B (bodyPost Tryz.prog fn fun e w'=>∃i,φ i∧A54 B b w' (cs' i) (ax i) e) s:=C0b A0 i hi hx hb hl hk ho
variable {S : Prop}
theorem Cc {C D:Prop}(a:C→R)(b:D→S)(h:Ig R→X:=by intro r;(conv=>whnf);exact r.get)(g:Ig S→Y:=by intro r;(conv=>whnf);exact r.get):(C→X)∧(D→Y):=⟨fun x=>h ⟨a x⟩,fun x=>g ⟨b x⟩⟩
theorem Eh {C:Prop} [Decidable C] (a:C→R)(b:¬C→S)(h:Ig R→X:=by intro r;(conv=>whnf);exact r.get)(g:Ig S→Y:=by intro r;(conv=>whnf);exact r.get):(decide C=true→X)∧(decide C=false→Y):=⟨fun x=>h ⟨a (Bj x)⟩,fun x=>g ⟨b (Cr x)⟩⟩
theorem L8 {α:Type} [BEq α] [LawfulBEq α] {u v:α}(a:u=v→R)(b:¬u=v→S)(h:Ig R→X:=by intro r;(conv=>whnf);exact r.get)(g:Ig S→Y:=by intro r;(conv=>whnf);exact r.get):((u==v)=true→X)∧((u==v)=false→Y):=⟨fun x=>h ⟨a (eq_of_beq x)⟩,fun x=>g ⟨b (Tg.1 x)⟩⟩
theorem zne {α:Type} [BEq α] [LawfulBEq α] {u v:α}(a:¬u=v→R)(b:u=v→S)(h:Ig R→X:=by intro r;(conv=>whnf);exact r.get)(g:Ig S→Y:=by intro r;(conv=>whnf);exact r.get):((u !=v)=true→X)∧((u !=v)=false→Y):=⟨fun x=>h ⟨a (bne_iff_ne.1 x)⟩,fun x=>g ⟨b (A0m.1 x)⟩⟩
theorem Er (r:R)(h:Ig R→GW Tryz.prog B Q K s:=by intro r;refine go A0 false ?_;(conv=>whnf);(repeat refine ndW ?_);exact r.get):GW Tryz.prog B Q K s:=h ⟨r⟩
theorem Hd (r:R)(h:Ig R→GW Tryz.prog B Q K s:=by intro r;refine go A0 false ?_;(conv=>whnf);(repeat refine skW ?_);exact r.get):GW Tryz.prog B Q K s:=h ⟨r⟩
theorem B8 (r:R)(h:Ig R→X:=by intro r;(repeat refine ndW ?_);exact r.get):X:=h ⟨r⟩
theorem Ar (r:R)(h:Ig R→X:=by intro r;(repeat refine skW ?_);exact r.get):X:=h ⟨r⟩
theorem B89:type_of% (And.intro @beq_iff_eq.{0} (And.intro @beq_eq_false_iff_ne.{0} (And.intro @bne_iff_ne.{0} (And.intro @bne_eq_false_iff_eq.{0} (And.intro @Bool.not_eq_true' (And.intro @Bool.not_eq_false' (And.intro @Go.Sx.Ch (And.intro @Go.Sx.G8 (And.intro @decide_eq_true_eq @decide_eq_false_iff_not))))))))):=And.intro @beq_iff_eq.{0} (And.intro @beq_eq_false_iff_ne.{0} (And.intro @bne_iff_ne.{0} (And.intro @bne_eq_false_iff_eq.{0} (And.intro @Bool.not_eq_true' (And.intro @Bool.not_eq_false' (And.intro @Go.Sx.Ch (And.intro @Go.Sx.G8 (And.intro @decide_eq_true_eq @decide_eq_false_iff_not))))))))
theorem D2m:type_of% (And.intro @ne_eq.{1} (And.intro @Int.not_lt (And.intro @Int.not_le (And.intro @ge_iff_le.{0} (And.intro @gt_iff_lt.{0} (And.intro @Int.toNat_zero (And.intro @Int.toNat_one @Int.toNat_natCast))))))):=And.intro @ne_eq.{1} (And.intro @Int.not_lt (And.intro @Int.not_le (And.intro @ge_iff_le.{0} (And.intro @gt_iff_lt.{0} (And.intro @Int.toNat_zero (And.intro @Int.toNat_one @Int.toNat_natCast))))))
theorem Ey:type_of% (And.intro B89 D2m):=And.intro B89 D2m
abbrev Dj (f:FuncId) (ins ax:List Gl):Prop:=Px Tryz.prog f ins ax
abbrev MtR (H:World→Prop) (f:FuncId) (pins:List (Ag×Value)) (cs:List Ag) (ins:List Gl) {ι:Type} (φ:ι→Prop) (cs':ι→List Ag) (ax:ι→List Gl):Prop:=A58 Tryz.prog H f pins cs ins φ cs' ax
theorem C6d (xs:List Int)(hx:xs.length≤1048576):Px Tryz.prog 10 [.one (Ej xs),.one (Ej xs)] [.one (vb true)]:=by
 have hl:=hx;refine A6y A0 false Tryz.func10 rfl Cw fun W=>?_;conv=>whnf
 refine ⟨fun h=>?_,fun _=>?_⟩<;>conv=>whnf
 ·simp at h
 refine Ok A0 false [] (fun k:Nat=>[(5,.c (vi k))]) (fun _=>[]) (fun _=>[])
  (fun k=>k≤xs.length) (fun k=>xs.length-k) 0 (Fk _) ⟨rfl,trivial⟩ trivial trivial trivial Ah (fun k hk=>?_)
 conv=>whnf
 refine ⟨fun h=>?_,fun h=>?_⟩<;>simp at h<;>conv=>whnf
 ·refine B5p rfl [0,1,2,3,4,5,6,7,8] Ah (go A0 false ?_)
  conv=>whnf
  refine ⟨by omega,?_⟩;conv=>whnf
  refine ⟨by omega,?_⟩;conv=>whnf
  refine ⟨fun h'=>?_,fun _=>?_⟩<;>conv=>whnf
  ·simp at h'
  refine ⟨by simp only [Gt];omega,?_⟩;conv=>whnf
  exact W5 [] (k+1) A7 A7 ⟨rfl,trivial⟩ trivial trivial Ah trivial Ah
 exact An A0 rfl rfl ⟨rfl,trivial⟩
theorem B1f (xs:List ByteArray)(hx:xs.length≤1048576):Px Tryz.prog 15 [.one (Cj xs),.one (Cj xs)] [.one (vb true)]:=by
 have hl:=hx;refine A6y A0 false Tryz.func15 rfl Cw fun W=>?_;conv=>whnf
 refine ⟨fun h=>?_,fun _=>?_⟩<;>conv=>whnf
 ·simp at h
 refine Ok A0 false [] (fun k:Nat=>[(5,.c (vi k))]) (fun _=>[]) (fun _=>[])
  (fun k=>k≤xs.length) (fun k=>xs.length-k) 0 (Fk _) ⟨rfl,trivial⟩ trivial trivial trivial Ah (fun k hk=>?_)
 conv=>whnf
 refine ⟨fun h=>?_,fun h=>?_⟩<;>simp at h<;>conv=>whnf
 ·refine B5p rfl [0,1,2,3,4,5,6,7,8] Ah (go A0 false ?_)
  conv=>whnf
  refine ⟨by omega,?_⟩;conv=>whnf
  refine ⟨by omega,?_⟩;conv=>whnf
  refine ⟨fun h'=>?_,fun _=>?_⟩<;>conv=>whnf
  ·simp [Ex] at h'
  refine ⟨by simp only [Gt];omega,?_⟩;conv=>whnf
  exact W5 [] (k+1) A7 A7 ⟨rfl,trivial⟩ trivial trivial Ah trivial Ah
 exact An A0 rfl rfl ⟨rfl,trivial⟩
theorem C7a (xs:List Int)(k:Int)(h0:0≤k)(h1:k+((xs.map Nj).sum:Nat)≤4611686018427387904):
  B2t Tryz.prog 11 (.one (Ej xs)) (.one (Ej (Ka Y5 Nj xs k))) [.one (vi k)] [.int .i64 (k+((xs.map Nj).sum:Nat))]:=by
 have hl:xs.length≤4611686018427387904:=by have:=U2 Nj xs (fun x=>Df 1);omega
 refine C6c A0 false Tryz.func11 rfl Cw fun W may l=>?_;conv=>whnf
 refine Ok A0 false [] (fun j:Nat=>[(1,.c (vi (k+(((xs.take j).map Nj).sum:Nat)))),(5,.c (vi j))]) (fun _=>[]) (fun j=>[⟨0,Ej (Md Y5 Nj xs k j)⟩])
  (fun j=>j≤xs.length) (fun j=>xs.length-j) 0 (Fk _) ⟨by simp [I7,ren2,ren1,ren0],rfl,trivial⟩ trivial ⟨rfl,trivial⟩ ⟨rfl,trivial⟩ Ah (fun j hj=>?_)
 have hL:=Pn Y5 Nj xs k j;conv=>whnf
 refine ⟨fun h=>?_,fun h=>?_⟩<;>simp only [J7,Mk] at h<;>conv=>whnf
 ·have h:j<xs.length:=by omega
  have g:=B1z Y5 Nj xs k j default h;have hle:=Gf Nj xs j h;have hst:=A2e Nj xs j h;generalize hy:xs.getD j default=y at g hle hst;have hc:Nj y=1:=rfl;(repeat refine ndU ?_);refine Bt (j:=(j:Int)) A0 rfl _ (B7v (j:=j) (xs:=(Md Y5 Nj xs k j)) (e:=(fun n=>[vi n])) (x:=k+(((xs.take j).map Nj).sum:Nat)) A7 g (by exact rfl)) (Aj ?_);(repeat refine ndU ?_);refine W5 [] (j+1) A7 A7 ⟨?_,rfl,trivial⟩ ⟨?_,trivial⟩ trivial Ah ⟨rfl,trivial⟩ Ah
  ·exact A6 (fun n=>AV.c (vi n)) A7
  have e:=B10 Y5 Nj xs k j h;rw [hy] at e;exact A6 (fun z=>Mr 1 (fun n=>[vi n]) z) e
 refine D23 A0 rfl ⟨?_,trivial⟩ rfl rfl ?_ ⟨rfl,trivial⟩
 ·exact A6 (fun n=>AV.c (vi n)) (by rw [K0 A7])
 exact A6 (fun z=>Mr 1 (fun n=>[vi n]) z) (B1y _ _ _ _ _ A7)
theorem B55 (xs:List Int)(k:Int)(h0:0≤k)(h1:k+((xs.map Nj).sum:Nat)≤4611686018427387904):
  Dj 12 [.one (Ej (Ka Y5 Nj xs k)),.one (vi k)] [.one (vi (k+((xs.map Nj).sum:Nat)))]:=by
 have hl:xs.length≤4611686018427387904:=by have:=U2 Nj xs (fun x=>Df 1);omega
 have hL:=L0 Y5 Nj xs k;refine E3 Tryz.func12 fun W=>?_
 refine Ok A0 false [] (fun j:Nat=>[(1,.c (vi (k+(((xs.take j).map Nj).sum:Nat)))),(5,.c (vi j))]) (fun _=>[]) (fun _=>[])
  (fun j=>j≤xs.length) (fun j=>xs.length-j) 0 (Fk _) ⟨by simp [I7,ren2,ren1,ren0],rfl,trivial⟩ trivial trivial trivial Ah (fun j hj=>?_)
 conv=>whnf
 refine ⟨fun h=>?_,fun h=>?_⟩<;>simp only [J7,Mk] at h<;>conv=>whnf
 ·have h:j<xs.length:=by omega
  have g:=A73 Y5 Nj xs k j default h;have hle:=Gf Nj xs j h;have hst:=A2e Nj xs j h;generalize xs.getD j default=y at g hle hst;have hc:Nj y=1:=rfl;(repeat refine ndV ?_);refine ⟨fun h'=>?_,fun _=>?_⟩<;>conv=>whnf
  ·have e:((Ka Y5 Nj xs k).getD j default)=(k+(((xs.take j).map Nj).sum:Nat)):=A6 (fun z:Int=>z) g
   simp only [Bu,e,bne_self_eq_false,beq_self_eq_true,Bool.not_true,Qq] at h'
  (repeat refine ndV ?_);refine Ci [] (j+1) A7 A7 ⟨?_,rfl,trivial⟩ trivial;exact A6 (fun n=>AV.c (vi n)) A7
 refine An A0 rfl rfl ⟨?_,trivial⟩;exact A6 vi (by rw [K0 A7])
structure D3s where
 a:Option Addr
 n:Nat
 c:Nat
 b:Nat→Nat
 hb:∀i,b i≤255
 hn:n≤16777216
abbrev HT:World→Prop:=fun _=>True
theorem H3 (n lo hi:Int):Dj 130 [.one (vi n),.one (vi lo),.one (vi hi)] [.one (vb (Dv n lo hi))]:=by
 refine E3 Tryz.func130 fun W=>?_
 repeat' (first|(refine I1 ?_;conv=>whnf)|(refine I2 ?_;conv=>whnf)|(refine ⟨fun h=>?_,fun h=>?_⟩<;>conv=>whnf)|(refine An A0 rfl rfl ⟨?_,trivial⟩;conv=>whnf)|(refine H8 ?_;conv=>whnf)|fail)
 all_goals (refine A6 vb ?_;simp_all [Dv]<;>omega)
theorem H9 (n lo hi:Int):Dj 115 [.one (vi n),.one (vi lo),.one (vi hi)] [.one (vb (Dv n lo hi))]:=by
 refine E3 Tryz.func115 fun W=>?_
 repeat' (first|(refine I1 ?_;conv=>whnf)|(refine I2 ?_;conv=>whnf)|(refine ⟨fun h=>?_,fun h=>?_⟩<;>conv=>whnf)|(refine An A0 rfl rfl ⟨?_,trivial⟩;conv=>whnf)|(refine H8 ?_;conv=>whnf)|fail)
 all_goals (refine A6 vb ?_;simp_all [Dv]<;>omega)
def B6j:Go.Shelf.Ren:=⟨fun| 171=>116| 243=>172| 246=>220| 283=>264| 284=>265| 285=>266| 286=>267| 129=>301| 317=>300| 318=>302| 319=>303| 320=>304| 337=>323| 338=>324|n=>n,fun| 3=>3| 9=>9| 2=>2| 4=>4| 171=>265| 0=>0| 53=>266| 37=>33| 5=>5| 173=>269| 212=>302| 51=>256| 20=>20| 213=>303| 46=>215| 232=>330| 233=>331|n=>n,fun| 17=>3| 18=>8| 19=>9|n=>n⟩
theorem C9w:Go.Proofs.LaysM.n171 Tryz.prog B6j:= {
 mixed:=by kernel_rfl,
 f129:=Tryz.func301.trans (A6 some Ah),
 f171:=Tryz.func116.trans (A6 some Ah),
 f243:=Tryz.func172.trans (A6 some Ah),
 f246:=Tryz.func220.trans (A6 some Ah),
 f283:=Tryz.func264.trans (A6 some Ah),
 f284:=Tryz.func265.trans (A6 some Ah),
 f285:=Tryz.func266.trans (A6 some Ah),
 f286:=Tryz.func267.trans (A6 some Ah),
 f317:=Tryz.func300.trans (A6 some Ah),
 f318:=Tryz.func302.trans (A6 some Ah),
 f319:=Tryz.func303.trans (A6 some Ah),
 f320:=Tryz.func304.trans (A6 some Ah),
 f337:=Tryz.func323.trans (A6 some Ah),
 f338:=Tryz.func324.trans (A6 some Ah),
 t0:=Tryz.underlying0,
 a0:=Tryz.isAgg0,
 z0:=Tryz.sizeOf0,
 v0:=Tryz.zeroValue0,
 t2:=Tryz.underlying2,
 a2:=Tryz.isAgg2,
 z2:=Tryz.sizeOf2,
 v2:=Tryz.zeroValue2,
 t3:=Tryz.underlying3,
 a3:=Tryz.isAgg3,
 z3:=Tryz.sizeOf3,
 v3:=Tryz.zeroValue3,
 t4:=Tryz.underlying4,
 a4:=Tryz.isAgg4,
 z4:=Tryz.sizeOf4,
 v4:=Tryz.zeroValue4,
 t5:=Tryz.underlying5,
 a5:=Tryz.isAgg5,
 z5:=Tryz.sizeOf5,
 v5:=Tryz.zeroValue5,
 t9:=Tryz.underlying9,
 a9:=Tryz.isAgg9,
 z9:=Tryz.sizeOf9,
 v9:=Tryz.zeroValue9,
 t20:=Tryz.underlying20,
 a20:=Tryz.isAgg20,
 z20:=Tryz.sizeOf20,
 v20:=Tryz.zeroValue20,
 t37:=Tryz.underlying33,
 a37:=Tryz.isAgg33,
 z37:=Tryz.sizeOf33,
 v37:=Tryz.zeroValue33,
 t46:=Tryz.underlying215,
 a46:=Tryz.isAgg215,
 z46:=Tryz.sizeOf215,
 v46:=Tryz.zeroValue215,
 t51:=Tryz.underlying256,
 a51:=Tryz.isAgg256,
 z51:=Tryz.sizeOf256,
 v51:=Tryz.zeroValue256,
 t53:=Tryz.underlying266,
 a53:=Tryz.isAgg266,
 z53:=Tryz.sizeOf266,
 v53:=Tryz.zeroValue266,
 t171:=Tryz.underlying265,
 a171:=Tryz.isAgg265,
 z171:=Tryz.sizeOf265,
 v171:=Tryz.zeroValue265,
 t173:=Tryz.underlying269,
 a173:=Tryz.isAgg269,
 z173:=Tryz.sizeOf269,
 v173:=Tryz.zeroValue269,
 t212:=Tryz.underlying302,
 a212:=Tryz.isAgg302,
 z212:=Tryz.sizeOf302,
 v212:=Tryz.zeroValue302,
 t213:=Tryz.underlying303,
 a213:=Tryz.isAgg303,
 z213:=Tryz.sizeOf303,
 t232:=Tryz.underlying330,
 a232:=Tryz.isAgg330,
 z232:=Tryz.sizeOf330,
 v232:=Tryz.zeroValue330,
 t233:=Tryz.underlying331,
 a233:=Tryz.isAgg331,
 z233:=Tryz.sizeOf331,
 v233:=Tryz.zeroValue331,
 g17:=by kernel_rfl,
 g18:=by kernel_rfl,
 g19:=by kernel_rfl,
 i0:=by kernel_rfl,
 i2:=by kernel_rfl,
 i3:=by kernel_rfl,
 i4:=by kernel_rfl,
 i5:=by kernel_rfl,
 i9:=by kernel_rfl,
 i20:=by kernel_rfl,
 i37:=by kernel_rfl,
 i46:=by kernel_rfl,
 i51:=by kernel_rfl,
 i53:=by kernel_rfl,
 i171:=by kernel_rfl,
 i173:=by kernel_rfl,
 i212:=by kernel_rfl,
 i232:=by kernel_rfl,
 i233:=by kernel_rfl,
 m17:=by kernel_rfl,
 m18:=by kernel_rfl,
 m19:=by kernel_rfl}
def A4i:Go.Shelf.Ren:=⟨fun| 146=>79| 221=>141| 268=>196| 138=>197| 143=>198| 195=>249| 197=>250| 218=>251| 219=>252| 260=>281| 217=>282| 225=>283| 224=>284| 267=>285| 266=>315| 314=>316|n=>n,fun| 9=>9| 31=>27| 3=>3| 4=>4| 0=>0| 105=>250| 21=>21| 5=>5| 46=>215| 119=>203| 139=>310| 138=>309| 146=>311| 51=>256|n=>n,fun| 1=>2| 3=>4| 4=>5|n=>n⟩
theorem A1k:Go.Proofs.LaysM.n146 Tryz.prog A4i:= {
 mixed:=by kernel_rfl,
 f138:=Tryz.func197.trans (A6 some Ah),
 f143:=Tryz.func198.trans (A6 some Ah),
 f146:=Tryz.func79.trans (A6 some Ah),
 f195:=Tryz.func249.trans (A6 some Ah),
 f197:=Tryz.func250.trans (A6 some Ah),
 f217:=Tryz.func282.trans (A6 some Ah),
 f218:=Tryz.func251.trans (A6 some Ah),
 f219:=Tryz.func252.trans (A6 some Ah),
 f221:=Tryz.func141.trans (A6 some Ah),
 f224:=Tryz.func284.trans (A6 some Ah),
 f225:=Tryz.func283.trans (A6 some Ah),
 f260:=Tryz.func281.trans (A6 some Ah),
 f266:=Tryz.func315.trans (A6 some Ah),
 f267:=Tryz.func285.trans (A6 some Ah),
 f268:=Tryz.func196.trans (A6 some Ah),
 f314:=Tryz.func316.trans (A6 some Ah),
 t0:=Tryz.underlying0,
 a0:=Tryz.isAgg0,
 z0:=Tryz.sizeOf0,
 v0:=Tryz.zeroValue0,
 t3:=Tryz.underlying3,
 a3:=Tryz.isAgg3,
 z3:=Tryz.sizeOf3,
 v3:=Tryz.zeroValue3,
 t4:=Tryz.underlying4,
 a4:=Tryz.isAgg4,
 z4:=Tryz.sizeOf4,
 v4:=Tryz.zeroValue4,
 t5:=Tryz.underlying5,
 a5:=Tryz.isAgg5,
 z5:=Tryz.sizeOf5,
 v5:=Tryz.zeroValue5,
 t9:=Tryz.underlying9,
 a9:=Tryz.isAgg9,
 z9:=Tryz.sizeOf9,
 v9:=Tryz.zeroValue9,
 t21:=Tryz.underlying21,
 a21:=Tryz.isAgg21,
 z21:=Tryz.sizeOf21,
 v21:=Tryz.zeroValue21,
 t31:=Tryz.underlying27,
 a31:=Tryz.isAgg27,
 z31:=Tryz.sizeOf27,
 v31:=Tryz.zeroValue27,
 t46:=Tryz.underlying215,
 a46:=Tryz.isAgg215,
 z46:=Tryz.sizeOf215,
 v46:=Tryz.zeroValue215,
 t51:=Tryz.underlying256,
 a51:=Tryz.isAgg256,
 z51:=Tryz.sizeOf256,
 v51:=Tryz.zeroValue256,
 t105:=Tryz.underlying250,
 a105:=Tryz.isAgg250,
 z105:=Tryz.sizeOf250,
 v105:=Tryz.zeroValue250,
 t119:=Tryz.underlying203,
 a119:=Tryz.isAgg203,
 z119:=Tryz.sizeOf203,
 t138:=Tryz.underlying309,
 a138:=Tryz.isAgg309,
 z138:=Tryz.sizeOf309,
 v138:=Tryz.zeroValue309,
 t139:=Tryz.underlying310,
 a139:=Tryz.isAgg310,
 z139:=Tryz.sizeOf310,
 v139:=Tryz.zeroValue310,
 t146:=Tryz.underlying311,
 a146:=Tryz.isAgg311,
 z146:=Tryz.sizeOf311,
 v146:=Tryz.zeroValue311,
 g1:=by kernel_rfl,
 g3:=by kernel_rfl,
 g4:=by kernel_rfl,
 i0:=by kernel_rfl,
 i3:=by kernel_rfl,
 i4:=by kernel_rfl,
 i5:=by kernel_rfl,
 i9:=by kernel_rfl,
 i21:=by kernel_rfl,
 i31:=by kernel_rfl,
 i46:=by kernel_rfl,
 i51:=by kernel_rfl,
 i105:=by kernel_rfl,
 i138:=by kernel_rfl,
 i139:=by kernel_rfl,
 i146:=by kernel_rfl,
 m1:=by kernel_rfl,
 s1_3:=fun w h=>Go.Proofs.cell_of_shapedOpen_int (zero:= #[.int .i64 0]) (t:=3) h (Bj Ah) Ah rfl Ah Ah Tryz.underlying3,
 m3:=by kernel_rfl,
 m4:=by kernel_rfl}
theorem B8z {w w':World}(hb:Go.RowKit.Below w.heap.size w w'){b o:Nat}{v:Value}(h:w.cell? ⟨b,o,none⟩=some v):w'.cell? ⟨b,o,none⟩=some v:=El.cell ⟨hb.size,fun k hk=>hb.block k hk⟩ h
def Vb (w:World):Prop:=Lib.TabIs Tryz.prog w "internal/strconv.uint64pow10" .u64 Lib.pow10Tab∧Lib.TabIs Tryz.prog w "strings.asciiSpace" .u8 Lib.asciiSpaceTab∧(∃t p,w.var? Tryz.prog "strconv.ErrSyntax" =some #[.iface t p])∧(∃t p,w.var? Tryz.prog "strconv.ErrRange" =some #[.iface t p])∧∃m,w.cell? ⟨A4i.g 1,0,none⟩=some (.int .i64 m)
theorem C8o {w:World}(h:Vb w):∃t p,w.var? Tryz.prog "strconv.ErrRange" =some #[.iface t p]:=h.2.2.2.1
theorem B3:A6c Vb:=fun _ _ hb h=>⟨Xw hb h.1,Xw hb h.2.1,h.2.2.1.imp fun _=>Exists.imp fun _=>Xw hb,h.2.2.2.1.imp fun _=>Exists.imp fun _=>Xw hb,h.2.2.2.2.imp fun _=>B8z hb⟩
theorem D2p (n:Int)(h:Gt .i64 n):Dy Tryz.prog Vb 116 [.one (vi n)] [.one (vs (Ia n))]:=by
 refine ⟨⟨_,Tryz.func116,by decide,rfl⟩,fun w hw vs hl hv=>?_⟩
 match vs,hl with
 | [v],_=>
  have h0:v= .int .i64 n:=Ub (A:=fun _=>False) (hv 0 _ rfl);subst h0;refine (Any.strconv_Itoa C9w n h.1 h.2 w hw.1).mono ?_
  rintro e w' ⟨rfl,k,os,rfl⟩
  exact Xf (B8s _ _ _) rfl
theorem Dn (n:Int)(h:Gt .i64 n):Dy Tryz.prog Vb 59 [.one (vi n)] [.one (vs (Ia n))]:=by
 refine Ga A0 false Tryz.func59 rfl Cw fun W hW=>?_;conv=>whnf
 refine Dt (D2p n h) B3 hW rfl (Aj ?_);exact An A0 rfl rfl ⟨rfl,trivial⟩
theorem C6h (z:Int)(d:Nat)(hz:z=d)(h:d<10):Dj 131 [.one (vi z)] [.one (vy (UInt8.ofNat (48+d)))]:=by
 refine E3 Tryz.func131 fun W=>?_;refine Eh (fun h'=>?_) fun h'=>?_
 ·refine B8 ?_
  exact An A0 rfl rfl ⟨A6 Ag.val (A6 (Value.int .u8) (by rw [hz,UInt8.toNat_ofNat'];omega)),trivial⟩
 omega
theorem A87 (σ:Int)(hσ:σ=1∨σ= -1)(u:Nat)(hu:0<u)(hb:u≤9223372036854775808)(hn:Gt .i64 (σ * u)):Dj 68 [.one (vi (σ * u))] [.one (vs (Ia (σ * u)))]:=by
 have hd0:=B1e hu;refine E3 Tryz.func68 fun W=>?_;refine L8 (fun h0=>?_) fun h0=>?_
 ·exfalso;rcases hσ with rfl|rfl<;>omega
 refine Fv [] (fun k:Nat=>[(0,.c (vi (σ * Iq u k))),(4,.c (vs ⟨(A5d u k).toArray⟩))]) (fun k=>[]) (fun k=>[]) (fun k=>k≤19∧C47 u k) (fun k=>19-k) fun k hk=>?_;obtain ⟨hk,he⟩:=hk;refine zne (fun hq=>?_) fun hq=>?_
 ·have hm:0<Iq u k:=by
   by_cases h:0<Iq u k
   ·exact h
   exfalso;apply hq;rw [show Iq u k=0 by omega];simp
  have hk':=C7g hb hm;have hr:=C8q hσ (Iq u k);have hdv:=D18 hσ (Iq u k);have ho:=hn.1;have ho:=hn.2;have hss:=A14 u k;have hle:=C1t u k;have hmm:=Yv (Iq u k) (show 10>0 by decide)
  refine B8 ?_;refine Eh (fun hneg=>?_) fun hneg=>?_
  ·refine ⟨by (show _∧_;rcases hσ with rfl|rfl<;>omega),?_⟩
   conv=>whnf
   refine F0 (C6h (0-((σ * Iq u k).tmod 10)) (Iq u k % 10) (by rcases hσ with rfl|rfl<;>omega) hmm) ?_
   refine H5 0 (V4 [UInt8.ofNat (48+Iq u k % 10)]) rfl (A6p rfl) ?_;refine D0z A0 rfl [UInt8.ofNat (48+Iq u k % 10)] rfl (Er ?_);refine ⟨by (show _∧_;rw [hdv];rcases hσ with rfl|rfl<;>omega),?_⟩
   conv=>whnf
   refine Ci [] (k+1) ⟨by omega,A2n he hm⟩ A7 ⟨A6 (fun z=>AV.c (vi z)) hdv,A6 (fun z=>AV.c (vs z)) (A5o _ _),trivial⟩ trivial
  refine F0 (C6h ((σ * Iq u k).tmod 10) (Iq u k % 10) (by rcases hσ with rfl|rfl<;>omega) hmm) ?_
  refine H5 0 (V4 [UInt8.ofNat (48+Iq u k % 10)]) rfl (A6p rfl) ?_;refine D0z A0 rfl [UInt8.ofNat (48+Iq u k % 10)] rfl (Er ?_);refine ⟨by (show _∧_;rw [hdv];rcases hσ with rfl|rfl<;>omega),?_⟩
  conv=>whnf
  refine Ci [] (k+1) ⟨by omega,A2n he hm⟩ A7 ⟨A6 (fun z=>AV.c (vi z)) hdv,A6 (fun z=>AV.c (vs z)) (A5o _ _),trivial⟩ trivial
 have hm:Iq u k=0:=by rcases hσ with rfl|rfl<;>omega
 have hd:Lib.decDigits u=A5d u k:=by
  rcases he with ⟨h,_⟩|⟨_,h⟩
  ·omega
  exact h
 have hss:=A14 u k;refine Cc (fun hb'=>?_) fun hb'=>?_
 ·refine B8 ?_
  refine An A0 rfl rfl ⟨?_,trivial⟩;have hs:σ * (u:Int)<0:=Bj hb';exact A6 vs (by rw [Ia,Lib.itoa,Ak hs,←hd,show (σ * (u:Int)).natAbs=u by rcases hσ with rfl|rfl<;>omega];exact A5o _ _)
 refine An A0 rfl rfl ⟨?_,trivial⟩;have hs:¬ σ * (u:Int)<0:=Cr hb';exact A6 vs (by rw [Ia,Lib.itoa,Ab hs,←hd,show (σ * (u:Int)).toNat=u by rcases hσ with rfl|rfl<;>omega])
theorem Dp (n:Int)(h:Gt .i64 n):Dj 68 [.one (vi n)] [.one (vs (Ia n))]:=by
 rcases Int.lt_trichotomy n 0 with h0|rfl|h0
 ·have e:n=(-1) * ((n.natAbs:Nat):Int):=by omega
  have:=A87 (-1) (.inr rfl) n.natAbs A7 (by have:=h.1;omega) (by rw [←e];exact h)
  rwa [←e] at this
 ·refine E3 Tryz.func68 fun W=>?_
  refine L8 (fun h0=>?_) fun h0=>?_
  ·exact An A0 rfl rfl ⟨A6 vs (by rw [Ia,Lib.itoa,Ab Cw,Lib.decDigits,dif_pos Cw];rfl),trivial⟩
  exact absurd rfl h0
 have e:n=1 * ((n.natAbs:Nat):Int):=by omega
 have:=A87 1 (.inl rfl) n.natAbs A7 (by have:=h.2;omega) (by rw [←e];exact h)
 rwa [←e] at this
end Go.Proofs.YtmhcebdkjgkmlaaGreatDoor
