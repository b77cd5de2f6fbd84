/- Part 6 of the proof that each of the laws FnTold returns true for every input. No conditions. -/
import Derived.Test.YtdendlkeiaccpaaGreatDoorP3
import Derived.Test.YtdendlkeiaccpaaGreatDoorProg
import Derived.KernelRfl
import Derived.Test.YtdendlkeiaccpaaGreatDoorP4

set_option linter.unusedSimpArgs false
set_option linter.unusedVariables false
set_option maxRecDepth 100000
namespace Go.Proofs.YtdendlkeiaccpaaGreatDoor
open Go.Sx
def tbl:List (TypeId×TI):=[
 (2,{agg:=false,size:=1,bytes:=8,zero:=[Value.int IntKind.i64 (0)],fields:=[],elem:=none,str:=false,flat:=some [CK.int IntKind.i64]}),
 (3,{agg:=false,size:=1,bytes:=8,zero:=[Value.int IntKind.i64 (0)],fields:=[],elem:=none,str:=false,flat:=some [CK.int IntKind.i64]}),
 (4,{agg:=false,size:=1,bytes:=1,zero:=[Value.bool false],fields:=[],elem:=none,str:=false,flat:=some [CK.bool]}),
 (5,{agg:=false,size:=1,bytes:=1,zero:=[Value.int IntKind.u8 (0)],fields:=[],elem:=none,str:=false,flat:=some [CK.int IntKind.u8]}),
 (9,{agg:=false,size:=1,bytes:=16,zero:=[Value.string ByteArray.empty],fields:=[],elem:=none,str:=true,flat:=none}),
 (12,{agg:=false,size:=1,bytes:=8,zero:=[Value.int IntKind.u64 (0)],fields:=[],elem:=none,str:=false,flat:=some [CK.int IntKind.u64]}),
 (21,{agg:=false,size:=1,bytes:=4,zero:=[Value.int IntKind.i32 (0)],fields:=[],elem:=none,str:=false,flat:=some [CK.int IntKind.i32]}),
 (22,{agg:=false,size:=1,bytes:=24,zero:=[Value.slice none 0 0],fields:=[],elem:=some 5,str:=false,flat:=none}),
 (24,{agg:=false,size:=1,bytes:=24,zero:=[Value.slice none 0 0],fields:=[],elem:=some 129,str:=false,flat:=none}),
 (25,{agg:=true,size:=3,bytes:=40,zero:=[Value.slice none 0 0,Value.int IntKind.i64 (0),Value.int IntKind.i64 (0)],fields:=[(0,24),(1,3),(2,3)],elem:=none,str:=false,flat:=none}),
 (26,{agg:=true,size:=3,bytes:=40,zero:=[Value.slice none 0 0,Value.int IntKind.i64 (0),Value.int IntKind.i64 (0)],fields:=[(0,24),(1,3),(2,3)],elem:=none,str:=false,flat:=none}),
 (27,{agg:=false,size:=1,bytes:=24,zero:=[Value.slice none 0 0],fields:=[],elem:=some 67,str:=false,flat:=none}),
 (28,{agg:=false,size:=1,bytes:=24,zero:=[Value.slice none 0 0],fields:=[],elem:=some 81,str:=false,flat:=none}),
 (29,{agg:=false,size:=1,bytes:=24,zero:=[Value.slice none 0 0],fields:=[],elem:=some 36,str:=false,flat:=none}),
 (30,{agg:=false,size:=1,bytes:=24,zero:=[Value.slice none 0 0],fields:=[],elem:=some 110,str:=false,flat:=none}),
 (31,{agg:=true,size:=7,bytes:=136,zero:=[Value.slice none 0 0,Value.int IntKind.i64 (0),Value.int IntKind.i64 (0),Value.slice none 0 0,Value.slice none 0 0,Value.slice none 0 0,Value.slice none 0 0],fields:=[(0,26),(3,27),(4,28),(5,29),(6,30)],elem:=none,str:=false,flat:=none}),
 (32,{agg:=true,size:=7,bytes:=136,zero:=[Value.slice none 0 0,Value.int IntKind.i64 (0),Value.int IntKind.i64 (0),Value.slice none 0 0,Value.slice none 0 0,Value.slice none 0 0,Value.slice none 0 0],fields:=[(0,26),(3,27),(4,28),(5,29),(6,30)],elem:=none,str:=false,flat:=none}),
 (35,{agg:=true,size:=5,bytes:=32,zero:=[Value.bool false,Value.int IntKind.i64 (0),Value.int IntKind.i64 (0),Value.bool false,Value.bool false],fields:=[(0,4),(1,3),(2,3),(3,4),(4,4)],elem:=none,str:=false,flat:=some [CK.bool,CK.int IntKind.i64,CK.int IntKind.i64,CK.bool,CK.bool]}),
 (36,{agg:=true,size:=5,bytes:=32,zero:=[Value.bool false,Value.int IntKind.i64 (0),Value.int IntKind.i64 (0),Value.bool false,Value.bool false],fields:=[(0,4),(1,3),(2,3),(3,4),(4,4)],elem:=none,str:=false,flat:=some [CK.bool,CK.int IntKind.i64,CK.int IntKind.i64,CK.bool,CK.bool]}),
 (40,{agg:=false,size:=1,bytes:=24,zero:=[Value.slice none 0 0],fields:=[],elem:=some 3,str:=false,flat:=none}),
 (47,{agg:=true,size:=4,bytes:=32,zero:=[Value.int IntKind.i64 (0),Value.int IntKind.i64 (0),Value.int IntKind.i64 (0),Value.int IntKind.i64 (0)],fields:=[(0,3),(1,3),(2,3),(3,3)],elem:=none,str:=false,flat:=some [CK.int IntKind.i64,CK.int IntKind.i64,CK.int IntKind.i64,CK.int IntKind.i64]}),
 (48,{agg:=true,size:=4,bytes:=32,zero:=[Value.int IntKind.i64 (0),Value.int IntKind.i64 (0),Value.int IntKind.i64 (0),Value.int IntKind.i64 (0)],fields:=[(0,3),(1,3),(2,3),(3,3)],elem:=none,str:=false,flat:=some [CK.int IntKind.i64,CK.int IntKind.i64,CK.int IntKind.i64,CK.int IntKind.i64]}),
 (50,{agg:=false,size:=1,bytes:=24,zero:=[Value.slice none 0 0],fields:=[],elem:=some 9,str:=false,flat:=none}),
 (56,{agg:=false,size:=1,bytes:=8,zero:=[Value.pointer none],fields:=[],elem:=none,str:=false,flat:=none}),
 (62,{agg:=false,size:=1,bytes:=24,zero:=[Value.slice none 0 0],fields:=[],elem:=some 123,str:=false,flat:=none}),
 (63,{agg:=false,size:=1,bytes:=24,zero:=[Value.slice none 0 0],fields:=[],elem:=some 48,str:=false,flat:=none}),
 (64,{agg:=false,size:=1,bytes:=24,zero:=[Value.slice none 0 0],fields:=[],elem:=some 4,str:=false,flat:=none}),
 (65,{agg:=false,size:=1,bytes:=24,zero:=[Value.slice none 0 0],fields:=[],elem:=some 108,str:=false,flat:=none}),
 (66,{agg:=true,size:=8,bytes:=192,zero:=[Value.slice none 0 0,Value.slice none 0 0,Value.slice none 0 0,Value.slice none 0 0,Value.slice none 0 0,Value.slice none 0 0,Value.slice none 0 0,Value.slice none 0 0],fields:=[(0,62),(1,62),(2,62),(3,63),(4,40),(5,64),(6,64),(7,65)],elem:=none,str:=false,flat:=none}),
 (67,{agg:=true,size:=8,bytes:=192,zero:=[Value.slice none 0 0,Value.slice none 0 0,Value.slice none 0 0,Value.slice none 0 0,Value.slice none 0 0,Value.slice none 0 0,Value.slice none 0 0,Value.slice none 0 0],fields:=[(0,62),(1,62),(2,62),(3,63),(4,40),(5,64),(6,64),(7,65)],elem:=none,str:=false,flat:=none}),
 (70,{agg:=true,size:=3,bytes:=24,zero:=[Value.int IntKind.i64 (0),Value.int IntKind.i64 (0),Value.int IntKind.i64 (0)],fields:=[(0,3),(1,3),(2,3)],elem:=none,str:=false,flat:=some [CK.int IntKind.i64,CK.int IntKind.i64,CK.int IntKind.i64]}),
 (71,{agg:=true,size:=3,bytes:=24,zero:=[Value.int IntKind.i64 (0),Value.int IntKind.i64 (0),Value.int IntKind.i64 (0)],fields:=[(0,3),(1,3),(2,3)],elem:=none,str:=false,flat:=some [CK.int IntKind.i64,CK.int IntKind.i64,CK.int IntKind.i64]}),
 (72,{agg:=false,size:=1,bytes:=24,zero:=[Value.slice none 0 0],fields:=[],elem:=some 71,str:=false,flat:=none}),
 (80,{agg:=true,size:=6,bytes:=64,zero:=[Value.int IntKind.i64 (0),Value.slice none 0 0,Value.int IntKind.i64 (0),Value.int IntKind.i64 (0),Value.int IntKind.i64 (0),Value.int IntKind.i64 (0)],fields:=[(0,3),(1,62),(2,3),(3,3),(4,3),(5,3)],elem:=none,str:=false,flat:=none}),
 (81,{agg:=true,size:=6,bytes:=64,zero:=[Value.int IntKind.i64 (0),Value.slice none 0 0,Value.int IntKind.i64 (0),Value.int IntKind.i64 (0),Value.int IntKind.i64 (0),Value.int IntKind.i64 (0)],fields:=[(0,3),(1,62),(2,3),(3,3),(4,3),(5,3)],elem:=none,str:=false,flat:=none}),
 (83,{agg:=false,size:=1,bytes:=8,zero:=[Value.pointer none],fields:=[],elem:=none,str:=false,flat:=none}),
 (88,{agg:=true,size:=8,bytes:=144,zero:=[Value.slice none 0 0,Value.int IntKind.i64 (0),Value.int IntKind.i64 (0),Value.slice none 0 0,Value.slice none 0 0,Value.slice none 0 0,Value.slice none 0 0,Value.bool false],fields:=[(0,32),(7,4)],elem:=none,str:=false,flat:=none}),
 (89,{agg:=true,size:=8,bytes:=144,zero:=[Value.slice none 0 0,Value.int IntKind.i64 (0),Value.int IntKind.i64 (0),Value.slice none 0 0,Value.slice none 0 0,Value.slice none 0 0,Value.slice none 0 0,Value.bool false],fields:=[(0,32),(7,4)],elem:=none,str:=false,flat:=none}),
 (94,{agg:=true,size:=3,bytes:=40,zero:=[Value.slice none 0 0,Value.int IntKind.i64 (0),Value.int IntKind.i64 (0)],fields:=[(0,22),(1,3),(2,3)],elem:=none,str:=false,flat:=none}),
 (95,{agg:=true,size:=3,bytes:=40,zero:=[Value.slice none 0 0,Value.int IntKind.i64 (0),Value.int IntKind.i64 (0)],fields:=[(0,22),(1,3),(2,3)],elem:=none,str:=false,flat:=none}),
 (105,{agg:=false,size:=1,bytes:=8,zero:=[Value.pointer none],fields:=[],elem:=none,str:=false,flat:=none}),
 (106,{agg:=false,size:=1,bytes:=8,zero:=[Value.pointer none],fields:=[],elem:=none,str:=false,flat:=none}),
 (107,{agg:=true,size:=2,bytes:=16,zero:=[Value.int IntKind.i64 (0),Value.bool false],fields:=[(0,3),(1,4)],elem:=none,str:=false,flat:=some [CK.int IntKind.i64,CK.bool]}),
 (108,{agg:=true,size:=2,bytes:=16,zero:=[Value.int IntKind.i64 (0),Value.bool false],fields:=[(0,3),(1,4)],elem:=none,str:=false,flat:=some [CK.int IntKind.i64,CK.bool]}),
 (109,{agg:=true,size:=3,bytes:=24,zero:=[Value.int IntKind.i64 (0),Value.int IntKind.i64 (0),Value.bool false],fields:=[(0,3),(1,3),(2,4)],elem:=none,str:=false,flat:=some [CK.int IntKind.i64,CK.int IntKind.i64,CK.bool]}),
 (110,{agg:=true,size:=3,bytes:=24,zero:=[Value.int IntKind.i64 (0),Value.int IntKind.i64 (0),Value.bool false],fields:=[(0,3),(1,3),(2,4)],elem:=none,str:=false,flat:=some [CK.int IntKind.i64,CK.int IntKind.i64,CK.bool]}),
 (120,{agg:=true,size:=2,bytes:=16,zero:=[Value.int IntKind.i64 (0),Value.int IntKind.i64 (0)],fields:=[(0,3),(1,3)],elem:=none,str:=false,flat:=some [CK.int IntKind.i64,CK.int IntKind.i64]}),
 (121,{agg:=true,size:=2,bytes:=16,zero:=[Value.int IntKind.i64 (0),Value.int IntKind.i64 (0)],fields:=[(0,3),(1,3)],elem:=none,str:=false,flat:=some [CK.int IntKind.i64,CK.int IntKind.i64]}),
 (122,{agg:=true,size:=5,bytes:=40,zero:=[Value.int IntKind.i64 (0),Value.int IntKind.i64 (0),Value.int IntKind.i64 (0),Value.int IntKind.i64 (0),Value.int IntKind.i64 (0)],fields:=[(0,3),(1,121),(3,3),(4,3)],elem:=none,str:=false,flat:=some [CK.int IntKind.i64,CK.int IntKind.i64,CK.int IntKind.i64,CK.int IntKind.i64,CK.int IntKind.i64]}),
 (123,{agg:=true,size:=5,bytes:=40,zero:=[Value.int IntKind.i64 (0),Value.int IntKind.i64 (0),Value.int IntKind.i64 (0),Value.int IntKind.i64 (0),Value.int IntKind.i64 (0)],fields:=[(0,3),(1,121),(3,3),(4,3)],elem:=none,str:=false,flat:=some [CK.int IntKind.i64,CK.int IntKind.i64,CK.int IntKind.i64,CK.int IntKind.i64,CK.int IntKind.i64]}),
 (128,{agg:=true,size:=4,bytes:=48,zero:=[Value.int IntKind.i64 (0),Value.int IntKind.i64 (0),Value.int IntKind.i64 (0),Value.slice none 0 0],fields:=[(0,3),(1,3),(2,3),(3,40)],elem:=none,str:=false,flat:=none}),
 (129,{agg:=true,size:=4,bytes:=48,zero:=[Value.int IntKind.i64 (0),Value.int IntKind.i64 (0),Value.int IntKind.i64 (0),Value.slice none 0 0],fields:=[(0,3),(1,3),(2,3),(3,40)],elem:=none,str:=false,flat:=none}),
 (131,{agg:=false,size:=1,bytes:=8,zero:=[Value.int IntKind.u64 (0)],fields:=[],elem:=none,str:=false,flat:=some [CK.int IntKind.u64]}),
 (145,{agg:=false,size:=1,bytes:=8,zero:=[Value.pointer none],fields:=[],elem:=none,str:=false,flat:=none}),
 (146,{agg:=true,size:=2,bytes:=32,zero:=[Value.pointer none,Value.slice none 0 0],fields:=[(0,145),(1,22)],elem:=none,str:=false,flat:=none}),
 (147,{agg:=true,size:=2,bytes:=32,zero:=[Value.pointer none,Value.slice none 0 0],fields:=[(0,145),(1,22)],elem:=none,str:=false,flat:=none}),
 (150,{agg:=false,size:=1,bytes:=16,zero:=[Value.nilIface],fields:=[],elem:=none,str:=false,flat:=none}),
 (182,{agg:=false,size:=1,bytes:=8,zero:=[Value.pointer none],fields:=[],elem:=none,str:=false,flat:=none}),
 (198,{agg:=true,size:=24,bytes:=24,zero:=[Value.int IntKind.u8 (0),Value.int IntKind.u8 (0),Value.int IntKind.u8 (0),Value.int IntKind.u8 (0),Value.int IntKind.u8 (0),Value.int IntKind.u8 (0),Value.int IntKind.u8 (0),Value.int IntKind.u8 (0),Value.int IntKind.u8 (0),Value.int IntKind.u8 (0),Value.int IntKind.u8 (0),Value.int IntKind.u8 (0),Value.int IntKind.u8 (0),Value.int IntKind.u8 (0),Value.int IntKind.u8 (0),Value.int IntKind.u8 (0),Value.int IntKind.u8 (0),Value.int IntKind.u8 (0),Value.int IntKind.u8 (0),Value.int IntKind.u8 (0),Value.int IntKind.u8 (0),Value.int IntKind.u8 (0),Value.int IntKind.u8 (0),Value.int IntKind.u8 (0)],fields:=[],elem:=none,str:=false,flat:=none}),
 (199,{agg:=false,size:=1,bytes:=8,zero:=[Value.int IntKind.u64 (0)],fields:=[],elem:=none,str:=false,flat:=some [CK.int IntKind.u64]}),
 (214,{agg:=true,size:=20,bytes:=160,zero:=[Value.int IntKind.u64 (0),Value.int IntKind.u64 (0),Value.int IntKind.u64 (0),Value.int IntKind.u64 (0),Value.int IntKind.u64 (0),Value.int IntKind.u64 (0),Value.int IntKind.u64 (0),Value.int IntKind.u64 (0),Value.int IntKind.u64 (0),Value.int IntKind.u64 (0),Value.int IntKind.u64 (0),Value.int IntKind.u64 (0),Value.int IntKind.u64 (0),Value.int IntKind.u64 (0),Value.int IntKind.u64 (0),Value.int IntKind.u64 (0),Value.int IntKind.u64 (0),Value.int IntKind.u64 (0),Value.int IntKind.u64 (0),Value.int IntKind.u64 (0)],fields:=[],elem:=none,str:=false,flat:=none}),
 (215,{agg:=false,size:=1,bytes:=4,zero:=[Value.int IntKind.u32 (0)],fields:=[],elem:=none,str:=false,flat:=some [CK.int IntKind.u32]}),
 (221,{agg:=true,size:=32,bytes:=32,zero:=[Value.int IntKind.u8 (0),Value.int IntKind.u8 (0),Value.int IntKind.u8 (0),Value.int IntKind.u8 (0),Value.int IntKind.u8 (0),Value.int IntKind.u8 (0),Value.int IntKind.u8 (0),Value.int IntKind.u8 (0),Value.int IntKind.u8 (0),Value.int IntKind.u8 (0),Value.int IntKind.u8 (0),Value.int IntKind.u8 (0),Value.int IntKind.u8 (0),Value.int IntKind.u8 (0),Value.int IntKind.u8 (0),Value.int IntKind.u8 (0),Value.int IntKind.u8 (0),Value.int IntKind.u8 (0),Value.int IntKind.u8 (0),Value.int IntKind.u8 (0),Value.int IntKind.u8 (0),Value.int IntKind.u8 (0),Value.int IntKind.u8 (0),Value.int IntKind.u8 (0),Value.int IntKind.u8 (0),Value.int IntKind.u8 (0),Value.int IntKind.u8 (0),Value.int IntKind.u8 (0),Value.int IntKind.u8 (0),Value.int IntKind.u8 (0),Value.int IntKind.u8 (0),Value.int IntKind.u8 (0)],fields:=[],elem:=none,str:=false,flat:=none})]
theorem A0:C7 Tryz.prog tbl:=
 (.cons A7 (.cons A7 (.cons A7 (.cons A7 (.cons A7 (.cons A7 (.cons A7 (.cons A7 (.cons A7 (.cons A7 (.cons A7 (.cons A7 (.cons A7 (.cons A7 (.cons A7 (.cons A7 (.cons A7 (.cons A7 (.cons A7 (.cons A7 (.cons A7 (.cons A7 (.cons A7 (.cons A7 (.cons A7 (.cons A7 (.cons A7 (.cons A7 (.cons A7 (.cons A7 (.cons A7 (.cons A7 (.cons A7 (.cons A7 (.cons A7 (.cons A7 (.cons A7 (.cons A7 (.cons A7 (.cons A7 (.cons A7 (.cons A7 (.cons A7 (.cons A7 (.cons A7 (.cons A7 (.cons A7 (.cons A7 (.cons A7 (.cons A7 (.cons A7 (.cons A7 (.cons A7 (.cons A7 (.cons A7 (.cons A7 (.cons A7 (.cons A7 (.cons A7 (.cons A7 (.cons A7 (.cons A7 (.cons A7 .nil)))))))))))))))))))))))))))))))))))))))))))))))))))))))))))))))
structure A0k (R:Prop):Prop where
 get:R
theorem B6s {p q:Prop}(hq:q)(hp:p:=by first|omega|(show _∧_;omega)|decide):p∧q:=⟨hp,hq⟩
theorem B6t {p q:Prop}(hq:q)(hp:p:=by first|omega|(show _∧_;omega)|(simp only [List.length_set];omega)|decide):p∧q:=⟨hp,hq⟩
theorem Bj {X Y R:Prop}(r:R)(h:A0k R→X∧Y:=by intro r;(first|refine skf ?_|refine skt ?_|refine Ft ?_);(conv=>whnf);exact r.get):X∧Y:=h ⟨r⟩
theorem An {X Y R:Prop}(r:R)(h:A0k R→X∧Y:=by intro r;refine Ft ?_;(conv=>whnf);exact r.get):X∧Y:=h ⟨r⟩
theorem ndV {X Y R:Prop}(r:R)(h:A0k R→X∧Y:=by intro r;refine B6s ?_;(conv=>whnf);exact r.get):X∧Y:=h ⟨r⟩
theorem ndU {X Y R:Prop}(r:R)(h:A0k R→X∧Y:=by intro r;refine B6t ?_;(conv=>whnf);exact r.get):X∧Y:=h ⟨r⟩
theorem Ji {B:Ax}{Q:Exit→Act→World→Prop}{K:List KI}{s:AS}(h:Wv Tryz.prog B Q (M6 tbl false 100000 K s)):GW Tryz.prog B Q K s:=go A0 false h
theorem A8 {B:Ax}{Q:Exit→Act→World→Prop}{K:List KI}{s:AS}{R:Prop}(r:R)(h:A0k R→GW Tryz.prog B Q K s:=by intro r;refine go A0 false ?_;(conv=>whnf);exact r.get):GW Tryz.prog B Q K s:=h ⟨r⟩
theorem Fi {P p q:Prop} [Decidable P] (h:P→p)(g:¬P→q):(decide P=true→p)∧(decide P=false→q):=⟨fun e=>h (of_decide_eq_true e),fun e=>g (of_decide_eq_false e)⟩
structure Mt (p:Prop):Prop where
 out:p
theorem Fh (n lo hi:Int):Bo Tryz.prog 44 [.one (vi n),.one (vi lo),.one (vi hi)] [.one (vb (Do n lo hi))]:=by
 refine Bh A0 false Tryz.func44 rfl Aw fun W=>?_
 conv=>whnf
 repeat' (first|(refine L6 ?_;conv=>whnf)|(refine L7 ?_;conv=>whnf)|(refine ⟨fun h=>?_,fun h=>?_⟩<;>conv=>whnf)|(refine B3 A0 rfl rfl ⟨?_,trivial⟩;conv=>whnf)|(refine Ft ?_;conv=>whnf)|fail)
 all_goals (refine congrArg vb ?_;simp_all [Do]<;>omega)
theorem A3q (n lo hi:Int):Bo Tryz.prog 50 [.one (vi n),.one (vi lo),.one (vi hi)] [.one (vb (Do n lo hi))]:=by
 refine Bh A0 false Tryz.func50 rfl Aw fun W=>?_
 conv=>whnf
 repeat' (first|(refine L6 ?_;conv=>whnf)|(refine L7 ?_;conv=>whnf)|(refine ⟨fun h=>?_,fun h=>?_⟩<;>conv=>whnf)|(refine B3 A0 rfl rfl ⟨?_,trivial⟩;conv=>whnf)|(refine Ft ?_;conv=>whnf)|fail)
 all_goals (refine congrArg vb ?_;simp_all [Do]<;>omega)
def Jh (x:Aq):Prop:=(1≤x.kind∧x.kind≤8)∧(x.kind=2→0≤x.a∧x.a≤999∧x.b=0)∧(x.kind=3→1≤x.a∧x.a≤10∧0≤x.b∧x.b≤x.a-1)∧(x.kind=4→0≤x.a∧x.a≤99∧x.b=0)∧
 (x.kind≠2→x.kind≠3→x.kind≠4→x.a=0∧x.b=0)∧x.outs.length≤2∧(x.kind=8→x.outs.length=0)∧(x.outs.length=2→x.outs.getD 0 default≠x.outs.getD 1 default)∧(∀n∈x.outs,0≤n∧n≤7)
instance (x:Aq):Decidable (Jh x):=by unfold Jh;infer_instance
def Rs (x:Aq):Bool:=decide (Jh x)
def A0n (l:List Int) (k:Nat):Prop:=∀i,i<k→0≤l.getD i default∧l.getD i default≤7
theorem A31 {l:List Int}{k:Nat}(h:A0n l k)(h1:0≤l.getD k default)(h2:l.getD k default≤7):A0n l (k+1):=fun i hi=>by
 by_cases e:i=k
 ·subst e;exact ⟨h1,h2⟩
 exact h i Ab
theorem A7v {l:List Int}(h:A0n l l.length):∀n∈l,0≤n∧n≤7:=fun n hn=>by
 obtain ⟨i,hi,e⟩:=List.getElem_of_mem hn
 have:=h i hi
 rw [List.getD,List.getElem?_eq_getElem hi] at this
 rw [←e];exact this
def A4v (x:Aq):Prop:=(1≤x.kind∧x.kind≤8)∧(x.kind=2→0≤x.a∧x.a≤999∧x.b=0)∧(x.kind=3→1≤x.a∧x.a≤10∧0≤x.b∧x.b≤x.a-1)∧(x.kind=4→0≤x.a∧x.a≤99∧x.b=0)∧
 (x.kind≠2→x.kind≠3→x.kind≠4→x.a=0∧x.b=0)
theorem Jh.pars {x:Aq}(h:Jh x):A4v x:=⟨h.1,h.2.1,h.2.2.1,h.2.2.2.1,h.2.2.2.2.1⟩
theorem A9j {p:Prop}(d:Decidable p)(q:Prop) [Decidable q]:(Decidable.rec (motive:=fun _=>Bool) (fun _=>false) (fun _=>decide q) d=true)↔(p∧q):=by
 cases d<;>simp [*]
theorem Vp (x:Aq)(hx:x.w≤16777216):Bo Tryz.prog 147 [.agg x.c] [.one (vb (Rs x))]:=by
 have hl:x.outs.length≤16777216:=hx
 have hw1:1≤x.a→x.a≤10→IntKind.wrap .i64 (x.a-1)=x.a-1:=fun h1 h2=>H6 (by show _∧_;omega)
 refine B5i 20 A0 true Tryz.func147 rfl Aw fun W=>?_
 conv=>whnf
 refine B6g A0 true (J:=Bool×Bool) [12,13,14,15,16,17,18,19,20,21,22,23,24,25,26,27,28,29,30,31,32,33,34] (fun j=>[(3,.c (vb j.1)),(4,.c (vb j.2))]) (fun _=>[⟨0,[.c (vi x.kind),.c (vi x.a),.c (vi x.b),.c (At x.outs)]⟩]) (fun _=>[]) (fun j=>((j.1=true∧j.2=true∧1≤x.kind∧x.kind≤8)↔A4v x)) ?_ ?_
 ·conv=>whnf
  repeat' (first|(refine L6 ?_;conv=>whnf)|(refine L7 ?_;conv=>whnf)|(refine ⟨fun h=>?_,fun h=>?_⟩<;>conv=>whnf)|(refine B5 (Fh _ _ _) rfl (go A0 true ?_);conv=>whnf)|(refine Gx ?_;conv=>whnf)|(refine B7 16 rfl [0,1,2,3,4,5,6,7,8,9,10,11,12,13,14,15,16,17,18,19,20,21] A7 (go A0 true ?_);conv=>whnf)|fail)
  all_goals
   refine B9 [] (_,_) ?_ Aw ⟨rfl,rfl,trivial⟩ trivial Cf A7 trivial A7
   unfold A4v
   try simp only [A9j]
   simp only [beq_iff_eq,beq_eq_false_iff_ne,bne_iff_ne,bne_eq_false_iff_eq,Bool.not_eq_true',Bool.not_eq_false',Go.Sx.As,Go.Sx.Bn,decide_eq_true_eq,decide_eq_false_iff_not,ne_eq,Int.not_lt,Int.not_le,ge_iff_le,gt_iff_lt,Int.toNat_zero,Int.toNat_one,Int.toNat_natCast] at * <;>omega
 rintro ⟨a,b⟩ hp
 have hu:A0n x.outs 0∧(2≤0→x.outs.getD 0 default≠x.outs.getD 1 default):=⟨fun i h=>absurd h (Nat.not_lt_zero i),fun h=>by omega⟩
 conv=>whnf
 repeat' (first|(refine L6 ?_;conv=>whnf)|(refine L7 ?_;conv=>whnf)|(refine ⟨fun h=>?_,fun h=>?_⟩<;>conv=>whnf)|(refine B5 (Fh _ _ _) rfl (go A0 true ?_);conv=>whnf)|(refine Gx ?_;conv=>whnf)|(refine B7 16 rfl [0,1,2,3,4,5,6,7,8,9,10,11,12,13,14,15,16,17,18,19,20,21] A7 (go A0 true ?_);conv=>whnf)|fail)
 all_goals try (refine B3 A0 rfl rfl ⟨congrArg vb (decide_eq_false fun p=>?_),trivial⟩;have q:=hp.2 p.pars;obtain ⟨p1,p2,p3,p4,p5,p6,p7,p8,p9⟩:=p;clear hp hu p2 p3 p4 p5 p9;simp only [beq_iff_eq,beq_eq_false_iff_ne,bne_iff_ne,bne_eq_false_iff_eq,Bool.not_eq_true',Bool.not_eq_false',Go.Sx.As,Go.Sx.Bn,decide_eq_true_eq,decide_eq_false_iff_not,ne_eq,Int.not_lt,Int.not_le,ge_iff_le,gt_iff_lt,Int.toNat_zero,Int.toNat_one,Int.toNat_natCast] at * <;>first|omega|simp_all)
 all_goals
  refine C0 A0 true [] (fun k:Nat=>[(5,.c (vi k))]) (fun k=>[⟨0,[.c (vi x.kind),.c (vi x.a),.c (vi x.b),.c (At x.outs)]⟩]) (fun k=>[])
   (fun k=>k≤x.outs.length∧(A0n x.outs k∧(2≤k→x.outs.getD 0 default≠x.outs.getD 1 default))) (fun k=>x.outs.length-k) 0 ⟨Nat.zero_le _,by first|rfl|assumption|simp⟩ ⟨G9,trivial⟩ Cf trivial Cr A7 (fun k hk=>?_)
  obtain ⟨hk,he⟩:=hk
  conv=>whnf
  refine Fi (fun h'=>?_) fun h'=>?_<;>conv=>whnf
  ·have h':k<x.outs.length:=by omega
   clear hp hu
   repeat' (first|(refine L6 ?_;conv=>whnf)|(refine L7 ?_;conv=>whnf)|(refine ⟨fun h=>?_,fun h=>?_⟩<;>conv=>whnf)|(refine B5 (Fh _ _ _) rfl (go A0 true ?_);conv=>whnf)|(refine Gx ?_;conv=>whnf)|(refine B7 16 rfl [0,1,2,3,4,5,6,7,8,9,10,11,12,13,14,15,16,17,18,19,20,21] A7 (go A0 true ?_);conv=>whnf)|fail)
   all_goals try (refine B3 A0 rfl rfl ⟨congrArg vb (decide_eq_false fun p=>?_),trivial⟩;have p9:=p.2.2.2.2.2.2.2.2 _ (B8 (d:=default) h');have p8:=p.2.2.2.2.2.2.2.1;have p6:=p.2.2.2.2.2.1;clear p he;simp only [beq_iff_eq,beq_eq_false_iff_ne,bne_iff_ne,bne_eq_false_iff_eq,Bool.not_eq_true',Bool.not_eq_false',Go.Sx.As,Go.Sx.Bn,decide_eq_true_eq,decide_eq_false_iff_not,ne_eq,Int.not_lt,Int.not_le,ge_iff_le,gt_iff_lt,Int.toNat_zero,Int.toNat_one,Int.toNat_natCast] at * <;>omega)
   all_goals
    refine B9 [] (k+1) ⟨by omega,⟨A31 he.1 (by clear he;simp only [beq_iff_eq,beq_eq_false_iff_ne,bne_iff_ne,bne_eq_false_iff_eq,Bool.not_eq_true',Bool.not_eq_false',Go.Sx.As,Go.Sx.Bn,decide_eq_true_eq,decide_eq_false_iff_not,ne_eq,Int.not_lt,Int.not_le,ge_iff_le,gt_iff_lt,Int.toNat_zero,Int.toNat_one,Int.toNat_natCast] at * <;>omega) (by clear he;simp only [beq_iff_eq,beq_eq_false_iff_ne,bne_iff_ne,bne_eq_false_iff_eq,Bool.not_eq_true',Bool.not_eq_false',Go.Sx.As,Go.Sx.Bn,decide_eq_true_eq,decide_eq_false_iff_not,ne_eq,Int.not_lt,Int.not_le,ge_iff_le,gt_iff_lt,Int.toNat_zero,Int.toNat_one,Int.toNat_natCast] at * <;>omega),by have q:=he.2;clear he;simp only [beq_iff_eq,beq_eq_false_iff_ne,bne_iff_ne,bne_eq_false_iff_eq,Bool.not_eq_true',Bool.not_eq_false',Go.Sx.As,Go.Sx.Bn,decide_eq_true_eq,decide_eq_false_iff_not,ne_eq,Int.not_lt,Int.not_le,ge_iff_le,gt_iff_lt,Int.toNat_zero,Int.toNat_one,Int.toNat_natCast] at * <;>omega⟩⟩ Ab ⟨congrArg (fun n=>AV.c (vi n)) (A8h k Ab),trivial⟩ trivial Cf A7 Cr A7
  have e:k=x.outs.length:=by omega
  have hq:A4v x:=hp.1 (by clear hp hu he;simp only [beq_iff_eq,beq_eq_false_iff_ne,bne_iff_ne,bne_eq_false_iff_eq,Bool.not_eq_true',Bool.not_eq_false',Go.Sx.As,Go.Sx.Bn,decide_eq_true_eq,decide_eq_false_iff_not,ne_eq,Int.not_lt,Int.not_le,ge_iff_le,gt_iff_lt,Int.toNat_zero,Int.toNat_one,Int.toNat_natCast] at * <;>first|omega|(refine ⟨?_,?_,?_,?_⟩<;>first|assumption|omega))
  have q:=he.2
  refine B3 A0 rfl rfl ⟨congrArg vb (decide_eq_true ⟨hq.1,hq.2.1,hq.2.2.1,hq.2.2.2.1,hq.2.2.2.2,?_,?_,?_,A7v (e▸he.1)⟩),trivial⟩
  all_goals (clear he hp hu hq;intros;simp only [beq_iff_eq,beq_eq_false_iff_ne,bne_iff_ne,bne_eq_false_iff_eq,Bool.not_eq_true',Bool.not_eq_false',Go.Sx.As,Go.Sx.Bn,decide_eq_true_eq,decide_eq_false_iff_not,ne_eq,Int.not_lt,Int.not_le,ge_iff_le,gt_iff_lt,Int.toNat_zero,Int.toNat_one,Int.toNat_natCast] at * <;>omega)
end Go.Proofs.YtdendlkeiaccpaaGreatDoor
