/- Part 6 of the proof that each of the laws FnExactRunScriptOf, FnExactSpreadResult returns true for every input. No conditions. -/
import Derived.Test.YtlbmkgkmbjadcaaGreatP3
import Derived.Test.YtlbmkgkmbjadcaaGreatProg
import Derived.KernelRfl

set_option linter.unusedSimpArgs false
set_option linter.unusedVariables false
set_option maxRecDepth 100000
namespace Go.Proofs.YtlbmkgkmbjadcaaGreat
open Go.Sx
def tbl:List (TypeId×TI):=[
 (2,{agg:=false,size:=1,bytes:=8,zero:=[Value.int IntKind.i64 (0)],fields:=[],elem:=none,str:=false,flat:=some [CK.int IntKind.i64]}),
 (3,{agg:=false,size:=1,bytes:=8,zero:=[Value.int IntKind.i64 (0)],fields:=[],elem:=none,str:=false,flat:=some [CK.int IntKind.i64]}),
 (4,{agg:=false,size:=1,bytes:=1,zero:=[Value.bool false],fields:=[],elem:=none,str:=false,flat:=some [CK.bool]}),
 (5,{agg:=false,size:=1,bytes:=1,zero:=[Value.int IntKind.u8 (0)],fields:=[],elem:=none,str:=false,flat:=some [CK.int IntKind.u8]}),
 (9,{agg:=false,size:=1,bytes:=16,zero:=[Value.string ByteArray.empty],fields:=[],elem:=none,str:=true,flat:=none}),
 (12,{agg:=false,size:=1,bytes:=8,zero:=[Value.int IntKind.u64 (0)],fields:=[],elem:=none,str:=false,flat:=some [CK.int IntKind.u64]}),
 (21,{agg:=false,size:=1,bytes:=4,zero:=[Value.int IntKind.i32 (0)],fields:=[],elem:=none,str:=false,flat:=some [CK.int IntKind.i32]}),
 (22,{agg:=false,size:=1,bytes:=24,zero:=[Value.slice none 0 0],fields:=[],elem:=some 166,str:=false,flat:=none}),
 (23,{agg:=true,size:=3,bytes:=40,zero:=[Value.slice none 0 0,Value.int IntKind.i64 (0),Value.int IntKind.i64 (0)],fields:=[(0,22),(1,3),(2,3)],elem:=none,str:=false,flat:=none}),
 (24,{agg:=true,size:=3,bytes:=40,zero:=[Value.slice none 0 0,Value.int IntKind.i64 (0),Value.int IntKind.i64 (0)],fields:=[(0,22),(1,3),(2,3)],elem:=none,str:=false,flat:=none}),
 (25,{agg:=false,size:=1,bytes:=24,zero:=[Value.slice none 0 0],fields:=[],elem:=some 107,str:=false,flat:=none}),
 (26,{agg:=false,size:=1,bytes:=24,zero:=[Value.slice none 0 0],fields:=[],elem:=some 149,str:=false,flat:=none}),
 (27,{agg:=true,size:=6,bytes:=96,zero:=[Value.slice none 0 0,Value.int IntKind.i64 (0),Value.int IntKind.i64 (0),Value.slice none 0 0,Value.slice none 0 0,Value.int IntKind.i64 (0)],fields:=[(0,24),(3,25),(4,26),(5,3)],elem:=none,str:=false,flat:=none}),
 (28,{agg:=true,size:=6,bytes:=96,zero:=[Value.slice none 0 0,Value.int IntKind.i64 (0),Value.int IntKind.i64 (0),Value.slice none 0 0,Value.slice none 0 0,Value.int IntKind.i64 (0)],fields:=[(0,24),(3,25),(4,26),(5,3)],elem:=none,str:=false,flat:=none}),
 (30,{agg:=false,size:=1,bytes:=24,zero:=[Value.slice none 0 0],fields:=[],elem:=some 172,str:=false,flat:=none}),
 (31,{agg:=true,size:=3,bytes:=40,zero:=[Value.slice none 0 0,Value.int IntKind.i64 (0),Value.int IntKind.i64 (0)],fields:=[(0,30),(1,3),(2,3)],elem:=none,str:=false,flat:=none}),
 (32,{agg:=true,size:=3,bytes:=40,zero:=[Value.slice none 0 0,Value.int IntKind.i64 (0),Value.int IntKind.i64 (0)],fields:=[(0,30),(1,3),(2,3)],elem:=none,str:=false,flat:=none}),
 (33,{agg:=false,size:=1,bytes:=24,zero:=[Value.slice none 0 0],fields:=[],elem:=some 132,str:=false,flat:=none}),
 (34,{agg:=false,size:=1,bytes:=24,zero:=[Value.slice none 0 0],fields:=[],elem:=some 136,str:=false,flat:=none}),
 (35,{agg:=false,size:=1,bytes:=24,zero:=[Value.slice none 0 0],fields:=[],elem:=some 120,str:=false,flat:=none}),
 (36,{agg:=false,size:=1,bytes:=24,zero:=[Value.slice none 0 0],fields:=[],elem:=some 160,str:=false,flat:=none}),
 (37,{agg:=true,size:=7,bytes:=136,zero:=[Value.slice none 0 0,Value.int IntKind.i64 (0),Value.int IntKind.i64 (0),Value.slice none 0 0,Value.slice none 0 0,Value.slice none 0 0,Value.slice none 0 0],fields:=[(0,32),(3,33),(4,34),(5,35),(6,36)],elem:=none,str:=false,flat:=none}),
 (38,{agg:=true,size:=7,bytes:=136,zero:=[Value.slice none 0 0,Value.int IntKind.i64 (0),Value.int IntKind.i64 (0),Value.slice none 0 0,Value.slice none 0 0,Value.slice none 0 0,Value.slice none 0 0],fields:=[(0,32),(3,33),(4,34),(5,35),(6,36)],elem:=none,str:=false,flat:=none}),
 (39,{agg:=false,size:=1,bytes:=24,zero:=[Value.slice none 0 0],fields:=[],elem:=some 4,str:=false,flat:=none}),
 (42,{agg:=false,size:=1,bytes:=24,zero:=[Value.slice none 0 0],fields:=[],elem:=some 103,str:=false,flat:=none}),
 (43,{agg:=false,size:=1,bytes:=24,zero:=[Value.slice none 0 0],fields:=[],elem:=some 142,str:=false,flat:=none}),
 (44,{agg:=true,size:=6,bytes:=96,zero:=[Value.slice none 0 0,Value.int IntKind.i64 (0),Value.int IntKind.i64 (0),Value.slice none 0 0,Value.slice none 0 0,Value.int IntKind.i64 (0)],fields:=[(0,32),(3,42),(4,43),(5,3)],elem:=none,str:=false,flat:=none}),
 (45,{agg:=true,size:=6,bytes:=96,zero:=[Value.slice none 0 0,Value.int IntKind.i64 (0),Value.int IntKind.i64 (0),Value.slice none 0 0,Value.slice none 0 0,Value.int IntKind.i64 (0)],fields:=[(0,32),(3,42),(4,43),(5,3)],elem:=none,str:=false,flat:=none}),
 (56,{agg:=false,size:=1,bytes:=24,zero:=[Value.slice none 0 0],fields:=[],elem:=some 110,str:=false,flat:=none}),
 (68,{agg:=false,size:=1,bytes:=24,zero:=[Value.slice none 0 0],fields:=[],elem:=some 181,str:=false,flat:=none}),
 (69,{agg:=false,size:=1,bytes:=24,zero:=[Value.slice none 0 0],fields:=[],elem:=some 184,str:=false,flat:=none}),
 (70,{agg:=false,size:=1,bytes:=24,zero:=[Value.slice none 0 0],fields:=[],elem:=some 190,str:=false,flat:=none}),
 (71,{agg:=false,size:=1,bytes:=24,zero:=[Value.slice none 0 0],fields:=[],elem:=some 192,str:=false,flat:=none}),
 (72,{agg:=true,size:=7,bytes:=136,zero:=[Value.slice none 0 0,Value.int IntKind.i64 (0),Value.int IntKind.i64 (0),Value.slice none 0 0,Value.slice none 0 0,Value.slice none 0 0,Value.slice none 0 0],fields:=[(0,24),(3,68),(4,69),(5,70),(6,71)],elem:=none,str:=false,flat:=none}),
 (73,{agg:=true,size:=7,bytes:=136,zero:=[Value.slice none 0 0,Value.int IntKind.i64 (0),Value.int IntKind.i64 (0),Value.slice none 0 0,Value.slice none 0 0,Value.slice none 0 0,Value.slice none 0 0],fields:=[(0,24),(3,68),(4,69),(5,70),(6,71)],elem:=none,str:=false,flat:=none}),
 (100,{agg:=true,size:=2,bytes:=16,zero:=[Value.int IntKind.i64 (0),Value.int IntKind.i64 (0)],fields:=[(0,3),(1,3)],elem:=none,str:=false,flat:=some [CK.int IntKind.i64,CK.int IntKind.i64]}),
 (101,{agg:=true,size:=2,bytes:=16,zero:=[Value.int IntKind.i64 (0),Value.int IntKind.i64 (0)],fields:=[(0,3),(1,3)],elem:=none,str:=false,flat:=some [CK.int IntKind.i64,CK.int IntKind.i64]}),
 (102,{agg:=true,size:=5,bytes:=40,zero:=[Value.int IntKind.i64 (0),Value.int IntKind.i64 (0),Value.int IntKind.i64 (0),Value.int IntKind.i64 (0),Value.int IntKind.i64 (0)],fields:=[(0,3),(1,101),(3,3),(4,3)],elem:=none,str:=false,flat:=some [CK.int IntKind.i64,CK.int IntKind.i64,CK.int IntKind.i64,CK.int IntKind.i64,CK.int IntKind.i64]}),
 (103,{agg:=true,size:=5,bytes:=40,zero:=[Value.int IntKind.i64 (0),Value.int IntKind.i64 (0),Value.int IntKind.i64 (0),Value.int IntKind.i64 (0),Value.int IntKind.i64 (0)],fields:=[(0,3),(1,101),(3,3),(4,3)],elem:=none,str:=false,flat:=some [CK.int IntKind.i64,CK.int IntKind.i64,CK.int IntKind.i64,CK.int IntKind.i64,CK.int IntKind.i64]}),
 (105,{agg:=true,size:=2,bytes:=16,zero:=[Value.int IntKind.i64 (0),Value.int IntKind.i64 (0)],fields:=[(0,3),(1,3)],elem:=none,str:=false,flat:=some [CK.int IntKind.i64,CK.int IntKind.i64]}),
 (106,{agg:=true,size:=5,bytes:=40,zero:=[Value.int IntKind.i64 (0),Value.int IntKind.i64 (0),Value.int IntKind.i64 (0),Value.int IntKind.i64 (0),Value.int IntKind.i64 (0)],fields:=[(0,3),(1,105),(3,3),(4,3)],elem:=none,str:=false,flat:=some [CK.int IntKind.i64,CK.int IntKind.i64,CK.int IntKind.i64,CK.int IntKind.i64,CK.int IntKind.i64]}),
 (107,{agg:=true,size:=5,bytes:=40,zero:=[Value.int IntKind.i64 (0),Value.int IntKind.i64 (0),Value.int IntKind.i64 (0),Value.int IntKind.i64 (0),Value.int IntKind.i64 (0)],fields:=[(0,3),(1,105),(3,3),(4,3)],elem:=none,str:=false,flat:=some [CK.int IntKind.i64,CK.int IntKind.i64,CK.int IntKind.i64,CK.int IntKind.i64,CK.int IntKind.i64]}),
 (109,{agg:=true,size:=4,bytes:=32,zero:=[Value.int IntKind.i64 (0),Value.int IntKind.i64 (0),Value.int IntKind.i64 (0),Value.int IntKind.i64 (0)],fields:=[(0,3),(1,3),(2,3),(3,3)],elem:=none,str:=false,flat:=some [CK.int IntKind.i64,CK.int IntKind.i64,CK.int IntKind.i64,CK.int IntKind.i64]}),
 (110,{agg:=true,size:=4,bytes:=32,zero:=[Value.int IntKind.i64 (0),Value.int IntKind.i64 (0),Value.int IntKind.i64 (0),Value.int IntKind.i64 (0)],fields:=[(0,3),(1,3),(2,3),(3,3)],elem:=none,str:=false,flat:=some [CK.int IntKind.i64,CK.int IntKind.i64,CK.int IntKind.i64,CK.int IntKind.i64]}),
 (119,{agg:=true,size:=5,bytes:=32,zero:=[Value.bool false,Value.int IntKind.i64 (0),Value.int IntKind.i64 (0),Value.bool false,Value.bool false],fields:=[(0,4),(1,3),(2,3),(3,4),(4,4)],elem:=none,str:=false,flat:=some [CK.bool,CK.int IntKind.i64,CK.int IntKind.i64,CK.bool,CK.bool]}),
 (120,{agg:=true,size:=5,bytes:=32,zero:=[Value.bool false,Value.int IntKind.i64 (0),Value.int IntKind.i64 (0),Value.bool false,Value.bool false],fields:=[(0,4),(1,3),(2,3),(3,4),(4,4)],elem:=none,str:=false,flat:=some [CK.bool,CK.int IntKind.i64,CK.int IntKind.i64,CK.bool,CK.bool]}),
 (129,{agg:=false,size:=1,bytes:=24,zero:=[Value.slice none 0 0],fields:=[],elem:=some 3,str:=false,flat:=none}),
 (130,{agg:=false,size:=1,bytes:=24,zero:=[Value.slice none 0 0],fields:=[],elem:=some 168,str:=false,flat:=none}),
 (131,{agg:=true,size:=8,bytes:=192,zero:=[Value.slice none 0 0,Value.slice none 0 0,Value.slice none 0 0,Value.slice none 0 0,Value.slice none 0 0,Value.slice none 0 0,Value.slice none 0 0,Value.slice none 0 0],fields:=[(0,42),(1,42),(2,42),(3,56),(4,129),(5,39),(6,39),(7,130)],elem:=none,str:=false,flat:=none}),
 (132,{agg:=true,size:=8,bytes:=192,zero:=[Value.slice none 0 0,Value.slice none 0 0,Value.slice none 0 0,Value.slice none 0 0,Value.slice none 0 0,Value.slice none 0 0,Value.slice none 0 0,Value.slice none 0 0],fields:=[(0,42),(1,42),(2,42),(3,56),(4,129),(5,39),(6,39),(7,130)],elem:=none,str:=false,flat:=none}),
 (135,{agg:=true,size:=6,bytes:=64,zero:=[Value.int IntKind.i64 (0),Value.slice none 0 0,Value.int IntKind.i64 (0),Value.int IntKind.i64 (0),Value.int IntKind.i64 (0),Value.int IntKind.i64 (0)],fields:=[(0,3),(1,42),(2,3),(3,3),(4,3),(5,3)],elem:=none,str:=false,flat:=none}),
 (136,{agg:=true,size:=6,bytes:=64,zero:=[Value.int IntKind.i64 (0),Value.slice none 0 0,Value.int IntKind.i64 (0),Value.int IntKind.i64 (0),Value.int IntKind.i64 (0),Value.int IntKind.i64 (0)],fields:=[(0,3),(1,42),(2,3),(3,3),(4,3),(5,3)],elem:=none,str:=false,flat:=none}),
 (138,{agg:=false,size:=1,bytes:=8,zero:=[Value.pointer none],fields:=[],elem:=none,str:=false,flat:=none}),
 (141,{agg:=true,size:=3,bytes:=24,zero:=[Value.int IntKind.i64 (0),Value.int IntKind.i64 (0),Value.int IntKind.i64 (0)],fields:=[(0,3),(1,3),(2,3)],elem:=none,str:=false,flat:=some [CK.int IntKind.i64,CK.int IntKind.i64,CK.int IntKind.i64]}),
 (142,{agg:=true,size:=3,bytes:=24,zero:=[Value.int IntKind.i64 (0),Value.int IntKind.i64 (0),Value.int IntKind.i64 (0)],fields:=[(0,3),(1,3),(2,3)],elem:=none,str:=false,flat:=some [CK.int IntKind.i64,CK.int IntKind.i64,CK.int IntKind.i64]}),
 (143,{agg:=true,size:=8,bytes:=144,zero:=[Value.slice none 0 0,Value.int IntKind.i64 (0),Value.int IntKind.i64 (0),Value.slice none 0 0,Value.slice none 0 0,Value.slice none 0 0,Value.slice none 0 0,Value.bool false],fields:=[(0,38),(7,4)],elem:=none,str:=false,flat:=none}),
 (144,{agg:=true,size:=8,bytes:=144,zero:=[Value.slice none 0 0,Value.int IntKind.i64 (0),Value.int IntKind.i64 (0),Value.slice none 0 0,Value.slice none 0 0,Value.slice none 0 0,Value.slice none 0 0,Value.bool false],fields:=[(0,38),(7,4)],elem:=none,str:=false,flat:=none}),
 (149,{agg:=true,size:=3,bytes:=24,zero:=[Value.int IntKind.i64 (0),Value.int IntKind.i64 (0),Value.int IntKind.i64 (0)],fields:=[(0,3),(1,3),(2,3)],elem:=none,str:=false,flat:=some [CK.int IntKind.i64,CK.int IntKind.i64,CK.int IntKind.i64]}),
 (159,{agg:=true,size:=3,bytes:=24,zero:=[Value.int IntKind.i64 (0),Value.int IntKind.i64 (0),Value.bool false],fields:=[(0,3),(1,3),(2,4)],elem:=none,str:=false,flat:=some [CK.int IntKind.i64,CK.int IntKind.i64,CK.bool]}),
 (160,{agg:=true,size:=3,bytes:=24,zero:=[Value.int IntKind.i64 (0),Value.int IntKind.i64 (0),Value.bool false],fields:=[(0,3),(1,3),(2,4)],elem:=none,str:=false,flat:=some [CK.int IntKind.i64,CK.int IntKind.i64,CK.bool]}),
 (165,{agg:=true,size:=4,bytes:=48,zero:=[Value.int IntKind.i64 (0),Value.int IntKind.i64 (0),Value.int IntKind.i64 (0),Value.slice none 0 0],fields:=[(0,3),(1,3),(2,3),(3,129)],elem:=none,str:=false,flat:=none}),
 (166,{agg:=true,size:=4,bytes:=48,zero:=[Value.int IntKind.i64 (0),Value.int IntKind.i64 (0),Value.int IntKind.i64 (0),Value.slice none 0 0],fields:=[(0,3),(1,3),(2,3),(3,129)],elem:=none,str:=false,flat:=none}),
 (167,{agg:=true,size:=2,bytes:=16,zero:=[Value.int IntKind.i64 (0),Value.bool false],fields:=[(0,3),(1,4)],elem:=none,str:=false,flat:=some [CK.int IntKind.i64,CK.bool]}),
 (168,{agg:=true,size:=2,bytes:=16,zero:=[Value.int IntKind.i64 (0),Value.bool false],fields:=[(0,3),(1,4)],elem:=none,str:=false,flat:=some [CK.int IntKind.i64,CK.bool]}),
 (172,{agg:=true,size:=4,bytes:=48,zero:=[Value.int IntKind.i64 (0),Value.int IntKind.i64 (0),Value.int IntKind.i64 (0),Value.slice none 0 0],fields:=[(0,3),(1,3),(2,3),(3,129)],elem:=none,str:=false,flat:=none}),
 (178,{agg:=false,size:=1,bytes:=24,zero:=[Value.slice none 0 0],fields:=[],elem:=some 248,str:=false,flat:=none}),
 (179,{agg:=false,size:=1,bytes:=24,zero:=[Value.slice none 0 0],fields:=[],elem:=some 250,str:=false,flat:=none}),
 (180,{agg:=true,size:=8,bytes:=192,zero:=[Value.slice none 0 0,Value.slice none 0 0,Value.slice none 0 0,Value.slice none 0 0,Value.slice none 0 0,Value.slice none 0 0,Value.slice none 0 0,Value.slice none 0 0],fields:=[(0,25),(1,25),(2,25),(3,178),(4,129),(5,39),(6,39),(7,179)],elem:=none,str:=false,flat:=none}),
 (181,{agg:=true,size:=8,bytes:=192,zero:=[Value.slice none 0 0,Value.slice none 0 0,Value.slice none 0 0,Value.slice none 0 0,Value.slice none 0 0,Value.slice none 0 0,Value.slice none 0 0,Value.slice none 0 0],fields:=[(0,25),(1,25),(2,25),(3,178),(4,129),(5,39),(6,39),(7,179)],elem:=none,str:=false,flat:=none}),
 (183,{agg:=true,size:=6,bytes:=64,zero:=[Value.int IntKind.i64 (0),Value.slice none 0 0,Value.int IntKind.i64 (0),Value.int IntKind.i64 (0),Value.int IntKind.i64 (0),Value.int IntKind.i64 (0)],fields:=[(0,3),(1,25),(2,3),(3,3),(4,3),(5,3)],elem:=none,str:=false,flat:=none}),
 (184,{agg:=true,size:=6,bytes:=64,zero:=[Value.int IntKind.i64 (0),Value.slice none 0 0,Value.int IntKind.i64 (0),Value.int IntKind.i64 (0),Value.int IntKind.i64 (0),Value.int IntKind.i64 (0)],fields:=[(0,3),(1,25),(2,3),(3,3),(4,3),(5,3)],elem:=none,str:=false,flat:=none}),
 (190,{agg:=true,size:=5,bytes:=32,zero:=[Value.bool false,Value.int IntKind.i64 (0),Value.int IntKind.i64 (0),Value.bool false,Value.bool false],fields:=[(0,4),(1,3),(2,3),(3,4),(4,4)],elem:=none,str:=false,flat:=some [CK.bool,CK.int IntKind.i64,CK.int IntKind.i64,CK.bool,CK.bool]}),
 (192,{agg:=true,size:=3,bytes:=24,zero:=[Value.int IntKind.i64 (0),Value.int IntKind.i64 (0),Value.bool false],fields:=[(0,3),(1,3),(2,4)],elem:=none,str:=false,flat:=some [CK.int IntKind.i64,CK.int IntKind.i64,CK.bool]}),
 (194,{agg:=false,size:=1,bytes:=8,zero:=[Value.pointer none],fields:=[],elem:=none,str:=false,flat:=none}),
 (195,{agg:=false,size:=1,bytes:=8,zero:=[Value.pointer none],fields:=[],elem:=none,str:=false,flat:=none}),
 (248,{agg:=true,size:=4,bytes:=32,zero:=[Value.int IntKind.i64 (0),Value.int IntKind.i64 (0),Value.int IntKind.i64 (0),Value.int IntKind.i64 (0)],fields:=[(0,3),(1,3),(2,3),(3,3)],elem:=none,str:=false,flat:=some [CK.int IntKind.i64,CK.int IntKind.i64,CK.int IntKind.i64,CK.int IntKind.i64]}),
 (250,{agg:=true,size:=2,bytes:=16,zero:=[Value.int IntKind.i64 (0),Value.bool false],fields:=[(0,3),(1,4)],elem:=none,str:=false,flat:=some [CK.int IntKind.i64,CK.bool]}),
 (284,{agg:=false,size:=1,bytes:=4,zero:=[Value.int IntKind.u32 (0)],fields:=[],elem:=none,str:=false,flat:=some [CK.int IntKind.u32]}),
 (288,{agg:=false,size:=1,bytes:=8,zero:=[Value.pointer none],fields:=[],elem:=none,str:=false,flat:=none})]
theorem A0:Ci Tryz.prog tbl:=
 (.cons A5 (.cons A5 (.cons A5 (.cons A5 (.cons A5 (.cons A5 (.cons A5 (.cons A5 (.cons A5 (.cons A5 (.cons A5 (.cons A5 (.cons A5 (.cons A5 (.cons A5 (.cons A5 (.cons A5 (.cons A5 (.cons A5 (.cons A5 (.cons A5 (.cons A5 (.cons A5 (.cons A5 (.cons A5 (.cons A5 (.cons A5 (.cons A5 (.cons A5 (.cons A5 (.cons A5 (.cons A5 (.cons A5 (.cons A5 (.cons A5 (.cons A5 (.cons A5 (.cons A5 (.cons A5 (.cons A5 (.cons A5 (.cons A5 (.cons A5 (.cons A5 (.cons A5 (.cons A5 (.cons A5 (.cons A5 (.cons A5 (.cons A5 (.cons A5 (.cons A5 (.cons A5 (.cons A5 (.cons A5 (.cons A5 (.cons A5 (.cons A5 (.cons A5 (.cons A5 (.cons A5 (.cons A5 (.cons A5 (.cons A5 (.cons A5 (.cons A5 (.cons A5 (.cons A5 (.cons A5 (.cons A5 (.cons A5 (.cons A5 (.cons A5 (.cons A5 (.cons A5 (.cons A5 (.cons A5 (.cons A5 (.cons A5 .nil)))))))))))))))))))))))))))))))))))))))))))))))))))))))))))))))))))))))))))))))
structure A2c (R:Prop):Prop where
 get:R
theorem B63 {p q:Prop}(hq:q)(hp:p:=by first|omega|(show _∧_;omega)|decide):p∧q:=⟨hp,hq⟩
theorem B64 {p q:Prop}(hq:q)(hp:p:=by first|omega|(show _∧_;omega)|(simp only [List.length_set];omega)|decide):p∧q:=⟨hp,hq⟩
theorem B9 {X Y R:Prop}(r:R)(h:A2c R→X∧Y:=by intro r;(first|refine skf ?_|refine skt ?_|refine Jn ?_);(conv=>whnf);exact r.get):X∧Y:=h ⟨r⟩
theorem An {X Y R:Prop}(r:R)(h:A2c R→X∧Y:=by intro r;refine Jn ?_;(conv=>whnf);exact r.get):X∧Y:=h ⟨r⟩
theorem L0 {X Y R:Prop}(r:R)(h:A2c R→X∧Y:=by intro r;refine B63 ?_;(conv=>whnf);exact r.get):X∧Y:=h ⟨r⟩
theorem Kc {X Y R:Prop}(r:R)(h:A2c R→X∧Y:=by intro r;refine B64 ?_;(conv=>whnf);exact r.get):X∧Y:=h ⟨r⟩
theorem Iy {B:B5}{Q:Exit→Act→World→Prop}{K:List KI}{s:AS}(h:Ys Tryz.prog B Q (Ny tbl false 100000 K s)):GW Tryz.prog B Q K s:=go A0 false h
theorem Ae {B:B5}{Q:Exit→Act→World→Prop}{K:List KI}{s:AS}{R:Prop}(r:R)(h:A2c R→GW Tryz.prog B Q K s:=by intro r;refine go A0 false ?_;(conv=>whnf);exact r.get):GW Tryz.prog B Q K s:=h ⟨r⟩
theorem F2 {P p q:Prop} [Decidable P] (h:P→p)(g:¬P→q):(decide P=true→p)∧(decide P=false→q):=⟨fun e=>h (of_decide_eq_true e),fun e=>g (of_decide_eq_false e)⟩
theorem B6j (xs:List Int)(left:Int)(ho:xs.length≤maxLen)(h0:0≤left)(h1:left≤1048576):Aq Tryz.prog 166 [.one (Eu xs),.one (vi left)] [.one (vi (szR (xs.length) left))]:=by
 have hl:xs.length≤9223372036854775807:=ho
 refine Aj A0 false Tryz.func166 rfl Bs fun W=>?_
 conv=>whnf
 refine ⟨by simp only [G8];omega,?_⟩
 conv=>whnf
 refine ⟨fun h=>?_,fun h=>?_⟩<;>simp only [decide_eq_true_eq,decide_eq_false_iff_not] at h<;>conv=>whnf
 ·refine Ah A0 rfl rfl ⟨?_,trivial⟩
  conv=>whnf
  rw [Jh Ad]
 ·refine Ah A0 rfl rfl ⟨?_,trivial⟩
  conv=>whnf
  rw [Ga Ad]
theorem B6k (x:Au)(left:Int)(ho:x.ok)(h0:0≤left)(h1:left≤1048576):Aq Tryz.prog 119 [.agg x.c,.one (vi left)] [.one (vi (szR x.w left))]:=by
 have hw:x.w=x.outs.length:=rfl
 obtain ⟨o_kind,o_a,o_b,o_outs⟩:=ho
 refine Aj A0 false Tryz.func119 rfl Bs fun W=>?_
 conv=>whnf
 refine Ai (B6j x.outs (left) o_outs.1 Ad Ad) rfl (go A0 false ?_)
 conv=>whnf
 refine ⟨fun h=>?_,fun h=>?_⟩<;>simp only [decide_eq_true_eq,decide_eq_false_iff_not] at h<;>conv=>whnf
 ·refine Ah A0 rfl rfl ⟨?_,trivial⟩
  conv=>whnf
  have h:=Tq h Ad
  rw [Jh Ad]
 have h_outs:=O7 h
 rw [Ga h_outs]
 refine Ah A0 rfl rfl ⟨?_,trivial⟩
 conv=>whnf
 rw [Ga Ad]
 exact congrArg vi Ad
theorem B5h (xs:List Au)(left:Int)(ho:xs.length≤maxLen∧∀y∈xs,Au.ok y)(h0:0≤left)(h1:left≤1048576):Aq Tryz.prog 58 [.one (Bb xs),.one (vi left)] [.one (vi (szR (wS Au.w xs) left))]:=by
 have hl:xs.length≤9223372036854775807:=ho.1
 refine Aj A0 false Tryz.func58 rfl Bs fun W=>?_
 conv=>whnf
 refine ⟨by simp only [G8];omega,?_⟩
 conv=>whnf
 refine ⟨fun h=>?_,fun h=>?_⟩<;>simp only [decide_eq_true_eq,decide_eq_false_iff_not] at h<;>conv=>whnf
 ·refine Ah A0 rfl rfl ⟨?_,trivial⟩
  conv=>whnf
  rw [Jh (by rw [A8f];omega)]
 refine B6 A0 false [] (fun k:Nat=>[(1,.c (vi (left-xs.length-(((xs.take k).map Au.w).sum:Nat)))),(5,.c (vi k))]) (fun _=>[]) (fun _=>[])
  (fun k=>k≤xs.length∧0≤left-xs.length-(((xs.take k).map Au.w).sum:Nat)) (fun k=>xs.length-k) 0 ⟨Nat.zero_le _,by simp;omega⟩ ⟨by simp [Cr,ren2,ren1,ren0],rfl,trivial⟩ trivial trivial trivial A5 (fun k hk=>?_)
 obtain ⟨hk,hp⟩:=hk
 conv=>whnf
 refine ⟨fun h=>?_,fun h=>?_⟩<;>simp only [decide_eq_true_eq,decide_eq_false_iff_not] at h<;>conv=>whnf
 ·have h:k<xs.length:=by omega
  have hle:=Bz Au.w xs k h
  have hst:=F0 Au.w xs k h
  refine ⟨by omega,?_⟩
  conv=>whnf
  refine Ai (B6k (xs.getD k default) _ (ho.2 _ (by rw [List.getD,List.getElem?_eq_getElem h];exact List.getElem_mem h)) hp Ad) rfl (go A0 false ?_)
  conv=>whnf
  refine ⟨fun h'=>?_,fun h'=>?_⟩<;>simp only [decide_eq_true_eq,decide_eq_false_iff_not] at h'<;>conv=>whnf
  ·refine Ah A0 rfl rfl ⟨?_,trivial⟩
   conv=>whnf
   have h':=Tq h' hp
   rw [Jh (by rw [A8f];omega)]
  ·have h':=O7 h'
   refine ⟨by simp only [G8];omega,?_⟩
   conv=>whnf
   refine At [] (k+1) ⟨by omega,by omega⟩ Ad ⟨?_,rfl,trivial⟩ trivial trivial A5 trivial A5
   conv=>whnf
   rw [Ga h']
   exact congrArg (fun n=>AV.c (vi n)) Ad
 ·refine Ah A0 rfl rfl ⟨?_,trivial⟩
  conv=>whnf
  have:=B6p Au.w xs k Ad
  rw [Ga (by rw [A8f];omega)]
  exact congrArg vi (by rw [A8f];omega)
theorem A8b (x:Ar)(left:Int)(ho:x.ok)(h0:0≤left)(h1:left≤1048576):Aq Tryz.prog 18 [.agg x.c,.one (vi left)] [.one (vi (szR x.w left))]:=by
 have hw:x.w=wS Au.w x.nodes:=rfl
 obtain ⟨o_nodes,o_workers,o_cap⟩:=ho
 refine Aj A0 false Tryz.func18 rfl Bs fun W=>?_
 conv=>whnf
 refine Ai (B5h x.nodes (left) o_nodes Ad Ad) rfl (go A0 false ?_)
 conv=>whnf
 refine ⟨fun h=>?_,fun h=>?_⟩<;>simp only [decide_eq_true_eq,decide_eq_false_iff_not] at h<;>conv=>whnf
 ·refine Ah A0 rfl rfl ⟨?_,trivial⟩
  conv=>whnf
  have h:=Tq h Ad
  rw [Jh Ad]
 have h_nodes:=O7 h
 rw [Ga h_nodes]
 refine Ah A0 rfl rfl ⟨?_,trivial⟩
 conv=>whnf
 rw [Ga Ad]
 exact congrArg vi Ad
theorem A0a (xs:List A3)(left:Int)(ho:xs.length≤maxLen)(h0:0≤left)(h1:left≤1048576):Aq Tryz.prog 19 [.one (A9 xs),.one (vi left)] [.one (vi (szR (xs.length) left))]:=by
 have hl:xs.length≤9223372036854775807:=ho
 refine Aj A0 false Tryz.func19 rfl Bs fun W=>?_
 conv=>whnf
 refine ⟨by simp only [G8];omega,?_⟩
 conv=>whnf
 refine ⟨fun h=>?_,fun h=>?_⟩<;>simp only [decide_eq_true_eq,decide_eq_false_iff_not] at h<;>conv=>whnf
 ·refine Ah A0 rfl rfl ⟨?_,trivial⟩
  conv=>whnf
  rw [Jh Ad]
 ·refine Ah A0 rfl rfl ⟨?_,trivial⟩
  conv=>whnf
  rw [Ga Ad]
theorem B5i (xs:List Bo)(left:Int)(ho:xs.length≤maxLen)(h0:0≤left)(h1:left≤1048576):Aq Tryz.prog 35 [.one (D5 xs),.one (vi left)] [.one (vi (szR (xs.length) left))]:=by
 have hl:xs.length≤9223372036854775807:=ho
 refine Aj A0 false Tryz.func35 rfl Bs fun W=>?_
 conv=>whnf
 refine ⟨by simp only [G8];omega,?_⟩
 conv=>whnf
 refine ⟨fun h=>?_,fun h=>?_⟩<;>simp only [decide_eq_true_eq,decide_eq_false_iff_not] at h<;>conv=>whnf
 ·refine Ah A0 rfl rfl ⟨?_,trivial⟩
  conv=>whnf
  rw [Jh Ad]
 ·refine Ah A0 rfl rfl ⟨?_,trivial⟩
  conv=>whnf
  rw [Ga Ad]
theorem B3p (x:D9)(left:Int)(ho:x.ok)(h0:0≤left)(h1:left≤1048576):Aq Tryz.prog 6 [.agg x.c,.one (vi left)] [.one (vi (szR x.w left))]:=by
 have hw:x.w=x.graph.w+x.inputs.length+x.picks.length:=rfl
 obtain ⟨o_graph,o_inputs,o_picks,o_rounds⟩:=ho
 refine Aj A0 false Tryz.func6 rfl Bs fun W=>?_
 conv=>whnf
 refine Ai (A8b x.graph (left) o_graph Ad Ad) rfl (go A0 false ?_)
 conv=>whnf
 refine ⟨fun h=>?_,fun h=>?_⟩<;>simp only [decide_eq_true_eq,decide_eq_false_iff_not] at h<;>conv=>whnf
 ·refine Ah A0 rfl rfl ⟨?_,trivial⟩
  conv=>whnf
  have h:=Tq h Ad
  rw [Jh Ad]
 have h_graph:=O7 h
 rw [Ga h_graph]
 refine Ai (A0a x.inputs (left-(x.graph.w:Nat)) o_inputs.1 Ad Ad) rfl (go A0 false ?_)
 conv=>whnf
 refine ⟨fun h=>?_,fun h=>?_⟩<;>simp only [decide_eq_true_eq,decide_eq_false_iff_not] at h<;>conv=>whnf
 ·refine Ah A0 rfl rfl ⟨?_,trivial⟩
  conv=>whnf
  have h:=Tq h Ad
  rw [Jh Ad]
 have h_inputs:=O7 h
 rw [Ga h_inputs]
 refine Ai (B5i x.picks (left-(x.graph.w:Nat)-(x.inputs.length:Nat)) o_picks.1 Ad Ad) rfl (go A0 false ?_)
 conv=>whnf
 refine ⟨fun h=>?_,fun h=>?_⟩<;>simp only [decide_eq_true_eq,decide_eq_false_iff_not] at h<;>conv=>whnf
 ·refine Ah A0 rfl rfl ⟨?_,trivial⟩
  conv=>whnf
  have h:=Tq h Ad
  rw [Jh Ad]
 have h_picks:=O7 h
 rw [Ga h_picks]
 refine Ah A0 rfl rfl ⟨?_,trivial⟩
 conv=>whnf
 rw [Ga Ad]
 exact congrArg vi Ad
theorem B6l (xs:List Int)(hx:xs.length≤1048576):Aq Tryz.prog 169 [.one (Eu xs)] [.one (Eu xs)]:=by
 have hl:=hx
 refine Aj A0 false Tryz.func169 rfl Bs fun W=>?_
 conv=>whnf
 refine ⟨by omega,?_⟩
 conv=>whnf
 refine Gk 0 (Eu (List.replicate xs.length default)) rfl (Pt (α:=Int) (e:=(fun n=>[vi n])) xs.length ⟨.inl rfl,trivial⟩) ?_
 refine B6 A0 false [] (fun k:Nat=>[(4,.c (vi k))]) (fun _=>[]) (fun k=>[⟨0,Eu (xs.take k++List.replicate (xs.length-k) default)⟩])
  (fun k=>k≤xs.length) (fun k=>xs.length-k) 0 (Nat.zero_le _) ⟨rfl,trivial⟩ trivial ⟨?_,trivial⟩ trivial A5 (fun k hk=>?_)
 ·conv=>whnf
  exact Q1 (e:=(fun n=>[vi n])) xs
 conv=>whnf
 refine ⟨fun h=>?_,fun h=>?_⟩<;>simp at h<;>conv=>whnf
 ·refine ⟨by omega,?_⟩
  conv=>whnf
  refine ⟨by simp;omega,?_⟩
  conv=>whnf
  refine Bj A0 rfl rfl rfl rfl rfl rfl rfl rfl _ (Cz (xs:=xs.take k++List.replicate (xs.length-k) default) (x:=xs.getD k default) (e:=(fun n=>[vi n])) Kw ?_) (go A0 false ?_)
  ·rfl
  conv=>whnf
  refine ⟨by simp only [G8];omega,?_⟩
  conv=>whnf
  refine At [] (k+1) Ad Ad ⟨rfl,trivial⟩ ⟨?_,trivial⟩ trivial A5 trivial A5
  conv=>whnf
  exact congrArg (Cb 1 (fun n=>[vi n])) (L5 xs k default h)
 ·exact Ah A0 rfl rfl ⟨by (conv=>whnf);rw [L4 _ _ _ Ad],trivial⟩
theorem B6m (x:Au)(h:x.w≤1048576):Aq Tryz.prog 122 [.agg x.c] [.agg x.c]:=by
 refine Aj A0 false Tryz.func122 rfl Bs fun W=>?_
 conv=>whnf
 refine Av (B6l x.outs (by simp only [Au.w] at h;omega)) rfl (go A0 false ?_)
 conv=>whnf
 exact Ah A0 rfl rfl ⟨⟨rfl,rfl,rfl,rfl,trivial⟩,trivial⟩
theorem B5j (xs:List Au)(hx:wS Au.w xs≤1048576):Aq Tryz.prog 62 [.one (Bb xs)] [.one (Bb xs)]:=by
 have hl:xs.length≤1048576:=by simp only [wS] at hx;omega
 refine Aj A0 false Tryz.func62 rfl Bs fun W=>?_
 conv=>whnf
 refine ⟨by omega,?_⟩
 conv=>whnf
 refine Gk 0 (Bb (List.replicate xs.length default)) rfl (Pt (α:=Au) (e:=Au.c) xs.length ⟨.inl rfl,.inl rfl,.inl rfl,.nil _ _,trivial⟩) ?_
 refine B6 A0 false [] (fun k:Nat=>[(4,.c (vi k))]) (fun _=>[]) (fun k=>[⟨0,Bb (xs.take k++List.replicate (xs.length-k) default)⟩])
  (fun k=>k≤xs.length) (fun k=>xs.length-k) 0 (Nat.zero_le _) ⟨rfl,trivial⟩ trivial ⟨?_,trivial⟩ trivial A5 (fun k hk=>?_)
 ·conv=>whnf
  exact Q1 (e:=Au.c) xs
 conv=>whnf
 refine ⟨fun h=>?_,fun h=>?_⟩<;>simp at h<;>conv=>whnf
 ·refine ⟨by omega,?_⟩
  conv=>whnf
  refine Av (B6m (xs.getD k default) (by have:=Bz Au.w xs k h;simp only [wS] at hx;omega)) rfl (go A0 false ?_)
  conv=>whnf
  refine ⟨by simp;omega,?_⟩
  conv=>whnf
  refine Bj A0 rfl rfl rfl rfl rfl rfl rfl rfl _ (Cz (xs:=xs.take k++List.replicate (xs.length-k) default) (x:=xs.getD k default) (e:=Au.c) Kw ?_) (go A0 false ?_)
  ·rfl
  conv=>whnf
  refine ⟨by simp only [G8];omega,?_⟩
  conv=>whnf
  refine At [] (k+1) Ad Ad ⟨rfl,trivial⟩ ⟨?_,trivial⟩ trivial A5 trivial A5
  conv=>whnf
  exact congrArg (Cb 4 Au.c) (L5 xs k default h)
 ·exact Ah A0 rfl rfl ⟨by (conv=>whnf);rw [L4 _ _ _ Ad],trivial⟩
theorem Sl (x:Ar)(h:x.w≤1048576):Aq Tryz.prog 21 [.agg x.c] [.agg x.c]:=by
 refine Aj A0 false Tryz.func21 rfl Bs fun W=>?_
 conv=>whnf
 refine Av (B5j x.nodes (by simp only [Ar.w] at h;omega)) rfl (go A0 false ?_)
 conv=>whnf
 exact Ah A0 rfl rfl ⟨⟨rfl,rfl,rfl,trivial⟩,trivial⟩
theorem B5l (x:Dq):Aq Tryz.prog 123 [.agg x.c] [.agg x.c]:=by
 refine Aj A0 false Tryz.func123 rfl Bs fun W=>?_
 conv=>whnf
 exact Ah A0 rfl rfl ⟨⟨rfl,rfl,trivial⟩,trivial⟩
theorem B3t (x:A3):Aq Tryz.prog 63 [.agg x.c] [.agg x.c]:=by
 refine Aj A0 false Tryz.func63 rfl Bs fun W=>?_
 conv=>whnf
 refine Av (B5l x.stamp) rfl (go A0 false ?_)
 conv=>whnf
 exact Ah A0 rfl rfl ⟨⟨rfl,rfl,rfl,rfl,rfl,trivial⟩,trivial⟩
theorem N3 (xs:List A3)(hx:xs.length≤1048576):Aq Tryz.prog 22 [.one (A9 xs)] [.one (A9 xs)]:=by
 have hl:=hx
 refine Aj A0 false Tryz.func22 rfl Bs fun W=>?_
 conv=>whnf
 refine ⟨by omega,?_⟩
 conv=>whnf
 refine Gk 0 (A9 (List.replicate xs.length default)) rfl (Pt (α:=A3) (e:=A3.c) xs.length ⟨.inl rfl,.inl rfl,.inl rfl,.inl rfl,.inl rfl,trivial⟩) ?_
 refine B6 A0 false [] (fun k:Nat=>[(4,.c (vi k))]) (fun _=>[]) (fun k=>[⟨0,A9 (xs.take k++List.replicate (xs.length-k) default)⟩])
  (fun k=>k≤xs.length) (fun k=>xs.length-k) 0 (Nat.zero_le _) ⟨rfl,trivial⟩ trivial ⟨?_,trivial⟩ trivial A5 (fun k hk=>?_)
 ·conv=>whnf
  exact Q1 (e:=A3.c) xs
 conv=>whnf
 refine ⟨fun h=>?_,fun h=>?_⟩<;>simp at h<;>conv=>whnf
 ·refine ⟨by omega,?_⟩
  conv=>whnf
  refine Av (B3t (xs.getD k default)) rfl (go A0 false ?_)
  conv=>whnf
  refine ⟨by simp;omega,?_⟩
  conv=>whnf
  refine Bj A0 rfl rfl rfl rfl rfl rfl rfl rfl _ (Cz (xs:=xs.take k++List.replicate (xs.length-k) default) (x:=xs.getD k default) (e:=A3.c) Kw ?_) (go A0 false ?_)
  ·rfl
  conv=>whnf
  refine ⟨by simp only [G8];omega,?_⟩
  conv=>whnf
  refine At [] (k+1) Ad Ad ⟨rfl,trivial⟩ ⟨?_,trivial⟩ trivial A5 trivial A5
  conv=>whnf
  exact congrArg (Cb 5 A3.c) (L5 xs k default h)
 ·exact Ah A0 rfl rfl ⟨by (conv=>whnf);rw [L4 _ _ _ Ad],trivial⟩
theorem B6n (x:Bo):Aq Tryz.prog 96 [.agg x.c] [.agg x.c]:=by
 refine Aj A0 false Tryz.func96 rfl Bs fun W=>?_
 conv=>whnf
 exact Ah A0 rfl rfl ⟨⟨rfl,rfl,rfl,trivial⟩,trivial⟩
theorem B5k (xs:List Bo)(hx:xs.length≤1048576):Aq Tryz.prog 39 [.one (D5 xs)] [.one (D5 xs)]:=by
 have hl:=hx
 refine Aj A0 false Tryz.func39 rfl Bs fun W=>?_
 conv=>whnf
 refine ⟨by omega,?_⟩
 conv=>whnf
 refine Gk 0 (D5 (List.replicate xs.length default)) rfl (Pt (α:=Bo) (e:=Bo.c) xs.length ⟨.inl rfl,.inl rfl,.inl rfl,trivial⟩) ?_
 refine B6 A0 false [] (fun k:Nat=>[(4,.c (vi k))]) (fun _=>[]) (fun k=>[⟨0,D5 (xs.take k++List.replicate (xs.length-k) default)⟩])
  (fun k=>k≤xs.length) (fun k=>xs.length-k) 0 (Nat.zero_le _) ⟨rfl,trivial⟩ trivial ⟨?_,trivial⟩ trivial A5 (fun k hk=>?_)
 ·conv=>whnf
  exact Q1 (e:=Bo.c) xs
 conv=>whnf
 refine ⟨fun h=>?_,fun h=>?_⟩<;>simp at h<;>conv=>whnf
 ·refine ⟨by omega,?_⟩
  conv=>whnf
  refine Av (B6n (xs.getD k default)) rfl (go A0 false ?_)
  conv=>whnf
  refine ⟨by simp;omega,?_⟩
  conv=>whnf
  refine Bj A0 rfl rfl rfl rfl rfl rfl rfl rfl _ (Cz (xs:=xs.take k++List.replicate (xs.length-k) default) (x:=xs.getD k default) (e:=Bo.c) Kw ?_) (go A0 false ?_)
  ·rfl
  conv=>whnf
  refine ⟨by simp only [G8];omega,?_⟩
  conv=>whnf
  refine At [] (k+1) Ad Ad ⟨rfl,trivial⟩ ⟨?_,trivial⟩ trivial A5 trivial A5
  conv=>whnf
  exact congrArg (Cb 3 Bo.c) (L5 xs k default h)
 ·exact Ah A0 rfl rfl ⟨by (conv=>whnf);rw [L4 _ _ _ Ad],trivial⟩
theorem Sm (x:D9)(h:x.w≤1048576):Aq Tryz.prog 8 [.agg x.c] [.agg x.c]:=by
 refine Aj A0 false Tryz.func8 rfl Bs fun W=>?_
 conv=>whnf
 refine Av (Sl x.graph (by simp only [D9.w] at h;omega)) rfl (go A0 false ?_)
 conv=>whnf
 refine Av (N3 x.inputs (by simp only [D9.w] at h;omega)) rfl (go A0 false ?_)
 conv=>whnf
 refine Av (B5k x.picks (by simp only [D9.w] at h;omega)) rfl (go A0 false ?_)
 conv=>whnf
 exact Ah A0 rfl rfl ⟨⟨rfl,rfl,rfl,rfl,rfl,rfl,trivial⟩,trivial⟩
theorem B53 (xs:List Int)(hx:xs.length≤1048576):Aq Tryz.prog 164 [.one (Eu xs),.one (Eu xs)] [.one (vb true)]:=by
 have hl:=hx
 refine Aj A0 false Tryz.func164 rfl Bs fun W=>?_
 conv=>whnf
 refine ⟨fun h=>?_,fun _=>?_⟩<;>conv=>whnf
 ·simp at h
 refine B6 A0 false [] (fun k:Nat=>[(5,.c (vi k))]) (fun _=>[]) (fun _=>[])
  (fun k=>k≤xs.length) (fun k=>xs.length-k) 0 (Nat.zero_le _) ⟨rfl,trivial⟩ trivial trivial trivial A5 (fun k hk=>?_)
 conv=>whnf
 refine ⟨fun h=>?_,fun h=>?_⟩<;>simp at h<;>conv=>whnf
 ·refine Ks rfl [0,1,2,3,4,5,6,7,8] A5 (go A0 false ?_)
  conv=>whnf
  refine ⟨by omega,?_⟩
  conv=>whnf
  refine ⟨by omega,?_⟩
  conv=>whnf
  refine ⟨fun h'=>?_,fun _=>?_⟩<;>conv=>whnf
  ·simp at h'
  refine ⟨by simp only [G8];omega,?_⟩
  conv=>whnf
  exact At [] (k+1) Ad Ad ⟨rfl,trivial⟩ trivial trivial A5 trivial A5
 ·exact Ah A0 rfl rfl ⟨rfl,trivial⟩
theorem B55 (x:Au)(h:x.w≤1048576):Aq Tryz.prog 126 [.agg x.c,.agg x.c] [.one (vb true)]:=by
 refine Aj A0 false Tryz.func126 rfl Bs fun W=>?_
 conv=>whnf
 refine ⟨fun h=>?_,fun _=>?_⟩<;>conv=>whnf
 ·simp at h
 refine ⟨fun h=>?_,fun _=>?_⟩<;>conv=>whnf
 ·simp at h
 refine ⟨fun h=>?_,fun _=>?_⟩<;>conv=>whnf
 ·simp at h
 refine Ai (B53 x.outs (by simp only [Au.w] at h;omega)) rfl (go A0 false ?_)
 conv=>whnf
 refine ⟨fun h=>?_,fun _=>?_⟩<;>conv=>whnf
 ·simp at h
 exact Ah A0 rfl rfl ⟨rfl,trivial⟩
theorem B4i (xs:List Au)(hx:wS Au.w xs≤1048576):Aq Tryz.prog 68 [.one (Bb xs),.one (Bb xs)] [.one (vb true)]:=by
 have hl:xs.length≤1048576:=by simp only [wS] at hx;omega
 refine Aj A0 false Tryz.func68 rfl Bs fun W=>?_
 conv=>whnf
 refine ⟨fun h=>?_,fun _=>?_⟩<;>conv=>whnf
 ·simp at h
 refine B6 A0 false [] (fun k:Nat=>[(5,.c (vi k))]) (fun _=>[]) (fun _=>[])
  (fun k=>k≤xs.length) (fun k=>xs.length-k) 0 (Nat.zero_le _) ⟨rfl,trivial⟩ trivial trivial trivial A5 (fun k hk=>?_)
 conv=>whnf
 refine ⟨fun h=>?_,fun h=>?_⟩<;>simp at h<;>conv=>whnf
 ·refine Ks rfl [0,1,2,3,4,5,6,7,8,9] A5 (go A0 false ?_)
  conv=>whnf
  refine ⟨by omega,?_⟩
  conv=>whnf
  refine ⟨by omega,?_⟩
  conv=>whnf
  refine Ai (B55 (xs.getD k default) (by have:=Bz Au.w xs k h;simp only [wS] at hx;omega)) rfl (go A0 false ?_)
  conv=>whnf
  refine ⟨fun h'=>?_,fun _=>?_⟩<;>conv=>whnf
  ·simp at h'
  refine ⟨by simp only [G8];omega,?_⟩
  conv=>whnf
  exact At [] (k+1) Ad Ad ⟨rfl,trivial⟩ trivial trivial A5 trivial A5
 ·exact Ah A0 rfl rfl ⟨rfl,trivial⟩
theorem A7d (x:Ar)(h:x.w≤1048576):Aq Tryz.prog 25 [.agg x.c,.agg x.c] [.one (vb true)]:=by
 refine Aj A0 false Tryz.func25 rfl Bs fun W=>?_
 conv=>whnf
 refine Ai (B4i x.nodes (by simp only [Ar.w] at h;omega)) rfl (go A0 false ?_)
 conv=>whnf
 refine ⟨fun h=>?_,fun _=>?_⟩<;>conv=>whnf
 ·simp at h
 refine ⟨fun h=>?_,fun _=>?_⟩<;>conv=>whnf
 ·simp at h
 refine ⟨fun h=>?_,fun _=>?_⟩<;>conv=>whnf
 ·simp at h
 exact Ah A0 rfl rfl ⟨rfl,trivial⟩
theorem B4k (x:Dq):Aq Tryz.prog 127 [.agg x.c,.agg x.c] [.one (vb true)]:=by
 refine Aj A0 false Tryz.func127 rfl Bs fun W=>?_
 conv=>whnf
 refine ⟨fun h=>?_,fun _=>?_⟩<;>conv=>whnf
 ·simp at h
 refine ⟨fun h=>?_,fun _=>?_⟩<;>conv=>whnf
 ·simp at h
 exact Ah A0 rfl rfl ⟨rfl,trivial⟩
theorem B1t (x:A3):Aq Tryz.prog 69 [.agg x.c,.agg x.c] [.one (vb true)]:=by
 refine Aj A0 false Tryz.func69 rfl Bs fun W=>?_
 conv=>whnf
 refine ⟨fun h=>?_,fun _=>?_⟩<;>conv=>whnf
 ·simp at h
 refine Ai (B4k x.stamp) rfl (go A0 false ?_)
 conv=>whnf
 refine ⟨fun h=>?_,fun _=>?_⟩<;>conv=>whnf
 ·simp at h
 refine ⟨fun h=>?_,fun _=>?_⟩<;>conv=>whnf
 ·simp at h
 refine ⟨fun h=>?_,fun _=>?_⟩<;>conv=>whnf
 ·simp at h
 exact Ah A0 rfl rfl ⟨rfl,trivial⟩
theorem Z5 (xs:List A3)(hx:xs.length≤1048576):Aq Tryz.prog 26 [.one (A9 xs),.one (A9 xs)] [.one (vb true)]:=by
 have hl:=hx
 refine Aj A0 false Tryz.func26 rfl Bs fun W=>?_
 conv=>whnf
 refine ⟨fun h=>?_,fun _=>?_⟩<;>conv=>whnf
 ·simp at h
 refine B6 A0 false [] (fun k:Nat=>[(5,.c (vi k))]) (fun _=>[]) (fun _=>[])
  (fun k=>k≤xs.length) (fun k=>xs.length-k) 0 (Nat.zero_le _) ⟨rfl,trivial⟩ trivial trivial trivial A5 (fun k hk=>?_)
 conv=>whnf
 refine ⟨fun h=>?_,fun h=>?_⟩<;>simp at h<;>conv=>whnf
 ·refine Ks rfl [0,1,2,3,4,5,6,7,8,9] A5 (go A0 false ?_)
  conv=>whnf
  refine ⟨by omega,?_⟩
  conv=>whnf
  refine ⟨by omega,?_⟩
  conv=>whnf
  refine Ai (B1t (xs.getD k default)) rfl (go A0 false ?_)
  conv=>whnf
  refine ⟨fun h'=>?_,fun _=>?_⟩<;>conv=>whnf
  ·simp at h'
  refine ⟨by simp only [G8];omega,?_⟩
  conv=>whnf
  exact At [] (k+1) Ad Ad ⟨rfl,trivial⟩ trivial trivial A5 trivial A5
 ·exact Ah A0 rfl rfl ⟨rfl,trivial⟩
theorem B56 (x:Bo):Aq Tryz.prog 112 [.agg x.c,.agg x.c] [.one (vb true)]:=by
 refine Aj A0 false Tryz.func112 rfl Bs fun W=>?_
 conv=>whnf
 refine ⟨fun h=>?_,fun _=>?_⟩<;>conv=>whnf
 ·simp at h
 refine ⟨fun h=>?_,fun _=>?_⟩<;>conv=>whnf
 ·simp at h
 refine ⟨fun h=>?_,fun _=>?_⟩<;>conv=>whnf
 ·simp at h
 exact Ah A0 rfl rfl ⟨rfl,trivial⟩
theorem B4j (xs:List Bo)(hx:xs.length≤1048576):Aq Tryz.prog 47 [.one (D5 xs),.one (D5 xs)] [.one (vb true)]:=by
 have hl:=hx
 refine Aj A0 false Tryz.func47 rfl Bs fun W=>?_
 conv=>whnf
 refine ⟨fun h=>?_,fun _=>?_⟩<;>conv=>whnf
 ·simp at h
 refine B6 A0 false [] (fun k:Nat=>[(5,.c (vi k))]) (fun _=>[]) (fun _=>[])
  (fun k=>k≤xs.length) (fun k=>xs.length-k) 0 (Nat.zero_le _) ⟨rfl,trivial⟩ trivial trivial trivial A5 (fun k hk=>?_)
 conv=>whnf
 refine ⟨fun h=>?_,fun h=>?_⟩<;>simp at h<;>conv=>whnf
 ·refine Ks rfl [0,1,2,3,4,5,6,7,8,9] A5 (go A0 false ?_)
  conv=>whnf
  refine ⟨by omega,?_⟩
  conv=>whnf
  refine ⟨by omega,?_⟩
  conv=>whnf
  refine Ai (B56 (xs.getD k default)) rfl (go A0 false ?_)
  conv=>whnf
  refine ⟨fun h'=>?_,fun _=>?_⟩<;>conv=>whnf
  ·simp at h'
  refine ⟨by simp only [G8];omega,?_⟩
  conv=>whnf
  exact At [] (k+1) Ad Ad ⟨rfl,trivial⟩ trivial trivial A5 trivial A5
 ·exact Ah A0 rfl rfl ⟨rfl,trivial⟩
theorem B1u (x:D9)(h:x.w≤1048576):Aq Tryz.prog 12 [.agg x.c,.agg x.c] [.one (vb true)]:=by
 refine Aj A0 false Tryz.func12 rfl Bs fun W=>?_
 conv=>whnf
 refine Ai (A7d x.graph (by simp only [D9.w] at h;omega)) rfl (go A0 false ?_)
 conv=>whnf
 refine ⟨fun h=>?_,fun _=>?_⟩<;>conv=>whnf
 ·simp at h
 refine Ai (Z5 x.inputs (by simp only [D9.w] at h;omega)) rfl (go A0 false ?_)
 conv=>whnf
 refine ⟨fun h=>?_,fun _=>?_⟩<;>conv=>whnf
 ·simp at h
 refine Ai (B4j x.picks (by simp only [D9.w] at h;omega)) rfl (go A0 false ?_)
 conv=>whnf
 refine ⟨fun h=>?_,fun _=>?_⟩<;>conv=>whnf
 ·simp at h
 refine ⟨fun h=>?_,fun _=>?_⟩<;>conv=>whnf
 ·simp at h
 exact Ah A0 rfl rfl ⟨rfl,trivial⟩
end Go.Proofs.YtlbmkgkmbjadcaaGreat
