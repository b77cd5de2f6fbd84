/- Part 6 of the proof that each of the laws FnTotals returns true for every input. No conditions. -/
import Derived.Test.YtdendlkeiaccpaaGreatP3
import Derived.Test.YtdendlkeiaccpaaGreatProg
import Derived.KernelRfl
import Derived.Test.YtdendlkeiaccpaaGreatP4

set_option linter.unusedSimpArgs false
set_option linter.unusedVariables false
set_option maxRecDepth 100000
namespace Go.Proofs.YtdendlkeiaccpaaGreat
open Go.Sx
def tbl:List (TypeId×TI):=[
 (2,{agg:=false,size:=1,bytes:=8,zero:=[Value.int IntKind.i64 (0)],fields:=[],elem:=none,str:=false,flat:=some [CK.int IntKind.i64]}),
 (3,{agg:=false,size:=1,bytes:=8,zero:=[Value.int IntKind.i64 (0)],fields:=[],elem:=none,str:=false,flat:=some [CK.int IntKind.i64]}),
 (4,{agg:=false,size:=1,bytes:=1,zero:=[Value.bool false],fields:=[],elem:=none,str:=false,flat:=some [CK.bool]}),
 (5,{agg:=false,size:=1,bytes:=1,zero:=[Value.int IntKind.u8 (0)],fields:=[],elem:=none,str:=false,flat:=some [CK.int IntKind.u8]}),
 (9,{agg:=false,size:=1,bytes:=16,zero:=[Value.string ByteArray.empty],fields:=[],elem:=none,str:=true,flat:=none}),
 (12,{agg:=false,size:=1,bytes:=8,zero:=[Value.int IntKind.u64 (0)],fields:=[],elem:=none,str:=false,flat:=some [CK.int IntKind.u64]}),
 (21,{agg:=false,size:=1,bytes:=4,zero:=[Value.int IntKind.i32 (0)],fields:=[],elem:=none,str:=false,flat:=some [CK.int IntKind.i32]}),
 (22,{agg:=false,size:=1,bytes:=24,zero:=[Value.slice none 0 0],fields:=[],elem:=some 5,str:=false,flat:=none}),
 (24,{agg:=false,size:=1,bytes:=24,zero:=[Value.slice none 0 0],fields:=[],elem:=some 56,str:=false,flat:=none}),
 (25,{agg:=true,size:=3,bytes:=40,zero:=[Value.slice none 0 0,Value.int IntKind.i64 (0),Value.int IntKind.i64 (0)],fields:=[(0,24),(1,3),(2,3)],elem:=none,str:=false,flat:=none}),
 (26,{agg:=true,size:=3,bytes:=40,zero:=[Value.slice none 0 0,Value.int IntKind.i64 (0),Value.int IntKind.i64 (0)],fields:=[(0,24),(1,3),(2,3)],elem:=none,str:=false,flat:=none}),
 (27,{agg:=false,size:=1,bytes:=24,zero:=[Value.slice none 0 0],fields:=[],elem:=some 60,str:=false,flat:=none}),
 (30,{agg:=false,size:=1,bytes:=24,zero:=[Value.slice none 0 0],fields:=[],elem:=some 78,str:=false,flat:=none}),
 (34,{agg:=false,size:=1,bytes:=24,zero:=[Value.slice none 0 0],fields:=[],elem:=some 86,str:=false,flat:=none}),
 (35,{agg:=false,size:=1,bytes:=24,zero:=[Value.slice none 0 0],fields:=[],elem:=some 91,str:=false,flat:=none}),
 (36,{agg:=false,size:=1,bytes:=24,zero:=[Value.slice none 0 0],fields:=[],elem:=some 101,str:=false,flat:=none}),
 (37,{agg:=false,size:=1,bytes:=24,zero:=[Value.slice none 0 0],fields:=[],elem:=some 103,str:=false,flat:=none}),
 (38,{agg:=true,size:=7,bytes:=136,zero:=[Value.slice none 0 0,Value.int IntKind.i64 (0),Value.int IntKind.i64 (0),Value.slice none 0 0,Value.slice none 0 0,Value.slice none 0 0,Value.slice none 0 0],fields:=[(0,26),(3,34),(4,35),(5,36),(6,37)],elem:=none,str:=false,flat:=none}),
 (39,{agg:=true,size:=7,bytes:=136,zero:=[Value.slice none 0 0,Value.int IntKind.i64 (0),Value.int IntKind.i64 (0),Value.slice none 0 0,Value.slice none 0 0,Value.slice none 0 0,Value.slice none 0 0],fields:=[(0,26),(3,34),(4,35),(5,36),(6,37)],elem:=none,str:=false,flat:=none}),
 (47,{agg:=false,size:=1,bytes:=24,zero:=[Value.slice none 0 0],fields:=[],elem:=some 27,str:=false,flat:=none}),
 (54,{agg:=false,size:=1,bytes:=24,zero:=[Value.slice none 0 0],fields:=[],elem:=some 3,str:=false,flat:=none}),
 (55,{agg:=true,size:=4,bytes:=48,zero:=[Value.int IntKind.i64 (0),Value.int IntKind.i64 (0),Value.int IntKind.i64 (0),Value.slice none 0 0],fields:=[(0,3),(1,3),(2,3),(3,54)],elem:=none,str:=false,flat:=none}),
 (56,{agg:=true,size:=4,bytes:=48,zero:=[Value.int IntKind.i64 (0),Value.int IntKind.i64 (0),Value.int IntKind.i64 (0),Value.slice none 0 0],fields:=[(0,3),(1,3),(2,3),(3,54)],elem:=none,str:=false,flat:=none}),
 (57,{agg:=true,size:=2,bytes:=16,zero:=[Value.int IntKind.i64 (0),Value.int IntKind.i64 (0)],fields:=[(0,3),(1,3)],elem:=none,str:=false,flat:=some [CK.int IntKind.i64,CK.int IntKind.i64]}),
 (58,{agg:=true,size:=2,bytes:=16,zero:=[Value.int IntKind.i64 (0),Value.int IntKind.i64 (0)],fields:=[(0,3),(1,3)],elem:=none,str:=false,flat:=some [CK.int IntKind.i64,CK.int IntKind.i64]}),
 (59,{agg:=true,size:=5,bytes:=40,zero:=[Value.int IntKind.i64 (0),Value.int IntKind.i64 (0),Value.int IntKind.i64 (0),Value.int IntKind.i64 (0),Value.int IntKind.i64 (0)],fields:=[(0,3),(1,58),(3,3),(4,3)],elem:=none,str:=false,flat:=some [CK.int IntKind.i64,CK.int IntKind.i64,CK.int IntKind.i64,CK.int IntKind.i64,CK.int IntKind.i64]}),
 (60,{agg:=true,size:=5,bytes:=40,zero:=[Value.int IntKind.i64 (0),Value.int IntKind.i64 (0),Value.int IntKind.i64 (0),Value.int IntKind.i64 (0),Value.int IntKind.i64 (0)],fields:=[(0,3),(1,58),(3,3),(4,3)],elem:=none,str:=false,flat:=some [CK.int IntKind.i64,CK.int IntKind.i64,CK.int IntKind.i64,CK.int IntKind.i64,CK.int IntKind.i64]}),
 (64,{agg:=false,size:=1,bytes:=24,zero:=[Value.slice none 0 0],fields:=[],elem:=some 93,str:=false,flat:=none}),
 (70,{agg:=false,size:=1,bytes:=8,zero:=[Value.pointer none],fields:=[],elem:=none,str:=false,flat:=none}),
 (77,{agg:=true,size:=4,bytes:=32,zero:=[Value.int IntKind.i64 (0),Value.int IntKind.i64 (0),Value.int IntKind.i64 (0),Value.int IntKind.i64 (0)],fields:=[(0,3),(1,3),(2,3),(3,3)],elem:=none,str:=false,flat:=some [CK.int IntKind.i64,CK.int IntKind.i64,CK.int IntKind.i64,CK.int IntKind.i64]}),
 (78,{agg:=true,size:=4,bytes:=32,zero:=[Value.int IntKind.i64 (0),Value.int IntKind.i64 (0),Value.int IntKind.i64 (0),Value.int IntKind.i64 (0)],fields:=[(0,3),(1,3),(2,3),(3,3)],elem:=none,str:=false,flat:=some [CK.int IntKind.i64,CK.int IntKind.i64,CK.int IntKind.i64,CK.int IntKind.i64]}),
 (83,{agg:=false,size:=1,bytes:=24,zero:=[Value.slice none 0 0],fields:=[],elem:=some 4,str:=false,flat:=none}),
 (84,{agg:=false,size:=1,bytes:=24,zero:=[Value.slice none 0 0],fields:=[],elem:=some 112,str:=false,flat:=none}),
 (85,{agg:=true,size:=8,bytes:=192,zero:=[Value.slice none 0 0,Value.slice none 0 0,Value.slice none 0 0,Value.slice none 0 0,Value.slice none 0 0,Value.slice none 0 0,Value.slice none 0 0,Value.slice none 0 0],fields:=[(0,27),(1,27),(2,27),(3,30),(4,54),(5,83),(6,83),(7,84)],elem:=none,str:=false,flat:=none}),
 (86,{agg:=true,size:=8,bytes:=192,zero:=[Value.slice none 0 0,Value.slice none 0 0,Value.slice none 0 0,Value.slice none 0 0,Value.slice none 0 0,Value.slice none 0 0,Value.slice none 0 0,Value.slice none 0 0],fields:=[(0,27),(1,27),(2,27),(3,30),(4,54),(5,83),(6,83),(7,84)],elem:=none,str:=false,flat:=none}),
 (90,{agg:=true,size:=6,bytes:=64,zero:=[Value.int IntKind.i64 (0),Value.slice none 0 0,Value.int IntKind.i64 (0),Value.int IntKind.i64 (0),Value.int IntKind.i64 (0),Value.int IntKind.i64 (0)],fields:=[(0,3),(1,27),(2,3),(3,3),(4,3),(5,3)],elem:=none,str:=false,flat:=none}),
 (91,{agg:=true,size:=6,bytes:=64,zero:=[Value.int IntKind.i64 (0),Value.slice none 0 0,Value.int IntKind.i64 (0),Value.int IntKind.i64 (0),Value.int IntKind.i64 (0),Value.int IntKind.i64 (0)],fields:=[(0,3),(1,27),(2,3),(3,3),(4,3),(5,3)],elem:=none,str:=false,flat:=none}),
 (92,{agg:=true,size:=3,bytes:=24,zero:=[Value.int IntKind.i64 (0),Value.int IntKind.i64 (0),Value.int IntKind.i64 (0)],fields:=[(0,58),(2,3)],elem:=none,str:=false,flat:=some [CK.int IntKind.i64,CK.int IntKind.i64,CK.int IntKind.i64]}),
 (93,{agg:=true,size:=3,bytes:=24,zero:=[Value.int IntKind.i64 (0),Value.int IntKind.i64 (0),Value.int IntKind.i64 (0)],fields:=[(0,58),(2,3)],elem:=none,str:=false,flat:=some [CK.int IntKind.i64,CK.int IntKind.i64,CK.int IntKind.i64]}),
 (100,{agg:=true,size:=5,bytes:=32,zero:=[Value.bool false,Value.int IntKind.i64 (0),Value.int IntKind.i64 (0),Value.bool false,Value.bool false],fields:=[(0,4),(1,3),(2,3),(3,4),(4,4)],elem:=none,str:=false,flat:=some [CK.bool,CK.int IntKind.i64,CK.int IntKind.i64,CK.bool,CK.bool]}),
 (101,{agg:=true,size:=5,bytes:=32,zero:=[Value.bool false,Value.int IntKind.i64 (0),Value.int IntKind.i64 (0),Value.bool false,Value.bool false],fields:=[(0,4),(1,3),(2,3),(3,4),(4,4)],elem:=none,str:=false,flat:=some [CK.bool,CK.int IntKind.i64,CK.int IntKind.i64,CK.bool,CK.bool]}),
 (102,{agg:=true,size:=3,bytes:=24,zero:=[Value.int IntKind.i64 (0),Value.int IntKind.i64 (0),Value.bool false],fields:=[(0,3),(1,3),(2,4)],elem:=none,str:=false,flat:=some [CK.int IntKind.i64,CK.int IntKind.i64,CK.bool]}),
 (103,{agg:=true,size:=3,bytes:=24,zero:=[Value.int IntKind.i64 (0),Value.int IntKind.i64 (0),Value.bool false],fields:=[(0,3),(1,3),(2,4)],elem:=none,str:=false,flat:=some [CK.int IntKind.i64,CK.int IntKind.i64,CK.bool]}),
 (104,{agg:=true,size:=3,bytes:=40,zero:=[Value.slice none 0 0,Value.int IntKind.i64 (0),Value.int IntKind.i64 (0)],fields:=[(0,22),(1,3),(2,3)],elem:=none,str:=false,flat:=none}),
 (105,{agg:=true,size:=3,bytes:=40,zero:=[Value.slice none 0 0,Value.int IntKind.i64 (0),Value.int IntKind.i64 (0)],fields:=[(0,22),(1,3),(2,3)],elem:=none,str:=false,flat:=none}),
 (111,{agg:=true,size:=2,bytes:=16,zero:=[Value.int IntKind.i64 (0),Value.bool false],fields:=[(0,3),(1,4)],elem:=none,str:=false,flat:=some [CK.int IntKind.i64,CK.bool]}),
 (112,{agg:=true,size:=2,bytes:=16,zero:=[Value.int IntKind.i64 (0),Value.bool false],fields:=[(0,3),(1,4)],elem:=none,str:=false,flat:=some [CK.int IntKind.i64,CK.bool]}),
 (123,{agg:=false,size:=1,bytes:=24,zero:=[Value.slice none 0 0],fields:=[],elem:=some 154,str:=false,flat:=none}),
 (136,{agg:=false,size:=1,bytes:=8,zero:=[Value.int IntKind.u64 (0)],fields:=[],elem:=none,str:=false,flat:=some [CK.int IntKind.u64]}),
 (144,{agg:=false,size:=1,bytes:=8,zero:=[Value.pointer none],fields:=[],elem:=none,str:=false,flat:=none}),
 (148,{agg:=true,size:=8,bytes:=144,zero:=[Value.slice none 0 0,Value.int IntKind.i64 (0),Value.int IntKind.i64 (0),Value.slice none 0 0,Value.slice none 0 0,Value.slice none 0 0,Value.slice none 0 0,Value.bool false],fields:=[(0,39),(7,4)],elem:=none,str:=false,flat:=none}),
 (149,{agg:=true,size:=8,bytes:=144,zero:=[Value.slice none 0 0,Value.int IntKind.i64 (0),Value.int IntKind.i64 (0),Value.slice none 0 0,Value.slice none 0 0,Value.slice none 0 0,Value.slice none 0 0,Value.bool false],fields:=[(0,39),(7,4)],elem:=none,str:=false,flat:=none}),
 (153,{agg:=true,size:=3,bytes:=24,zero:=[Value.int IntKind.i64 (0),Value.int IntKind.i64 (0),Value.int IntKind.i64 (0)],fields:=[(0,3),(1,3),(2,3)],elem:=none,str:=false,flat:=some [CK.int IntKind.i64,CK.int IntKind.i64,CK.int IntKind.i64]}),
 (154,{agg:=true,size:=3,bytes:=24,zero:=[Value.int IntKind.i64 (0),Value.int IntKind.i64 (0),Value.int IntKind.i64 (0)],fields:=[(0,3),(1,3),(2,3)],elem:=none,str:=false,flat:=some [CK.int IntKind.i64,CK.int IntKind.i64,CK.int IntKind.i64]}),
 (200,{agg:=false,size:=1,bytes:=8,zero:=[Value.int IntKind.i64 (0)],fields:=[],elem:=none,str:=false,flat:=some [CK.int IntKind.i64]}),
 (207,{agg:=false,size:=1,bytes:=4,zero:=[Value.int IntKind.u32 (0)],fields:=[],elem:=none,str:=false,flat:=some [CK.int IntKind.u32]}),
 (209,{agg:=false,size:=1,bytes:=8,zero:=[Value.int IntKind.u64 (0)],fields:=[],elem:=none,str:=false,flat:=some [CK.int IntKind.u64]}),
 (217,{agg:=false,size:=1,bytes:=8,zero:=[Value.int IntKind.u64 (0)],fields:=[],elem:=none,str:=false,flat:=some [CK.int IntKind.u64]}),
 (221,{agg:=false,size:=1,bytes:=8,zero:=[Value.pointer none],fields:=[],elem:=none,str:=false,flat:=none}),
 (225,{agg:=false,size:=1,bytes:=8,zero:=[Value.pointer none],fields:=[],elem:=none,str:=false,flat:=none}),
 (226,{agg:=false,size:=1,bytes:=8,zero:=[Value.pointer none],fields:=[],elem:=none,str:=false,flat:=none}),
 (231,{agg:=false,size:=1,bytes:=8,zero:=[Value.pointer none],fields:=[],elem:=none,str:=false,flat:=none}),
 (257,{agg:=false,size:=1,bytes:=8,zero:=[Value.pointer none],fields:=[],elem:=none,str:=false,flat:=none})]
theorem A0:Cn Tryz.prog tbl:=
 (.cons A7 (.cons A7 (.cons A7 (.cons A7 (.cons A7 (.cons A7 (.cons A7 (.cons A7 (.cons A7 (.cons A7 (.cons A7 (.cons A7 (.cons A7 (.cons A7 (.cons A7 (.cons A7 (.cons A7 (.cons A7 (.cons A7 (.cons A7 (.cons A7 (.cons A7 (.cons A7 (.cons A7 (.cons A7 (.cons A7 (.cons A7 (.cons A7 (.cons A7 (.cons A7 (.cons A7 (.cons A7 (.cons A7 (.cons A7 (.cons A7 (.cons A7 (.cons A7 (.cons A7 (.cons A7 (.cons A7 (.cons A7 (.cons A7 (.cons A7 (.cons A7 (.cons A7 (.cons A7 (.cons A7 (.cons A7 (.cons A7 (.cons A7 (.cons A7 (.cons A7 (.cons A7 (.cons A7 (.cons A7 (.cons A7 (.cons A7 (.cons A7 (.cons A7 (.cons A7 (.cons A7 (.cons A7 (.cons A7 .nil)))))))))))))))))))))))))))))))))))))))))))))))))))))))))))))))
structure Zm (R:Prop):Prop where
 get:R
theorem B5p {p q:Prop}(hq:q)(hp:p:=by first|omega|(show _∧_;omega)|decide):p∧q:=⟨hp,hq⟩
theorem B5q {p q:Prop}(hq:q)(hp:p:=by first|omega|(show _∧_;omega)|(simp only [List.length_set];omega)|decide):p∧q:=⟨hp,hq⟩
theorem B7 {X Y R:Prop}(r:R)(h:Zm R→X∧Y:=by intro r;(first|refine skf ?_|refine skt ?_|refine Gl ?_);(conv=>whnf);exact r.get):X∧Y:=h ⟨r⟩
theorem Am {X Y R:Prop}(r:R)(h:Zm R→X∧Y:=by intro r;refine Gl ?_;(conv=>whnf);exact r.get):X∧Y:=h ⟨r⟩
theorem ndV {X Y R:Prop}(r:R)(h:Zm R→X∧Y:=by intro r;refine B5p ?_;(conv=>whnf);exact r.get):X∧Y:=h ⟨r⟩
theorem ndU {X Y R:Prop}(r:R)(h:Zm R→X∧Y:=by intro r;refine B5q ?_;(conv=>whnf);exact r.get):X∧Y:=h ⟨r⟩
theorem Jf {B:B0}{Q:Exit→Act→World→Prop}{K:List KI}{s:AS}(h:Zg Tryz.prog B Q (Ni tbl false 100000 K s)):GW Tryz.prog B Q K s:=go A0 false h
theorem A8 {B:B0}{Q:Exit→Act→World→Prop}{K:List KI}{s:AS}{R:Prop}(r:R)(h:Zm R→GW Tryz.prog B Q K s:=by intro r;refine go A0 false ?_;(conv=>whnf);exact r.get):GW Tryz.prog B Q K s:=h ⟨r⟩
theorem Es {P p q:Prop} [Decidable P] (h:P→p)(g:¬P→q):(decide P=true→p)∧(decide P=false→q):=⟨fun e=>h (of_decide_eq_true e),fun e=>g (of_decide_eq_false e)⟩
theorem Ep (n lo hi:Int):Bi Tryz.prog 62 [.one (vi n),.one (vi lo),.one (vi hi)] [.one (vb (Eb n lo hi))]:=by
 refine Bd A0 false Tryz.func62 rfl Aw fun W=>?_
 conv=>whnf
 repeat' (first|(refine Oo ?_;conv=>whnf)|(refine Oq ?_;conv=>whnf)|(refine ⟨fun h=>?_,fun h=>?_⟩<;>conv=>whnf)|(refine B2 A0 rfl rfl ⟨?_,trivial⟩;conv=>whnf)|(refine Gl ?_;conv=>whnf)|fail)
 all_goals (refine congrArg vb ?_;simp_all [Eb]<;>omega)
theorem B4k (n lo hi:Int):Bi Tryz.prog 61 [.one (vi n),.one (vi lo),.one (vi hi)] [.one (vb (Eb n lo hi))]:=by
 refine Bd A0 false Tryz.func61 rfl Aw fun W=>?_
 conv=>whnf
 repeat' (first|(refine Oo ?_;conv=>whnf)|(refine Oq ?_;conv=>whnf)|(refine ⟨fun h=>?_,fun h=>?_⟩<;>conv=>whnf)|(refine B2 A0 rfl rfl ⟨?_,trivial⟩;conv=>whnf)|(refine Gl ?_;conv=>whnf)|fail)
 all_goals (refine congrArg vb ?_;simp_all [Eb]<;>omega)
def H7 (r:A9):Prop:=(0≤r.op∧r.op≤7)∧(0≤r.stamp.epoch∧r.stamp.epoch≤3)∧(0≤r.stamp.turn∧r.stamp.turn≤6)∧(0≤r.key∧r.key≤99)∧(0≤r.val∧r.val≤999)
instance (r:A9):Decidable (H7 r):=by unfold H7;infer_instance
def I6 (r:A9):Bool:=decide (H7 r)
theorem M1 (r:A9):I6 r=true↔(0≤r.op∧r.op≤7)∧(0≤r.stamp.epoch∧r.stamp.epoch≤3)∧(0≤r.stamp.turn∧r.stamp.turn≤6)∧(0≤r.key∧r.key≤99)∧(0≤r.val∧r.val≤999):=decide_eq_true_iff
def Dp (s:Bs):Bool:=decide ((0≤s.epoch∧s.epoch≤3)∧(0≤s.turn∧s.turn≤6))
theorem Kv (s:Bs):Bi Tryz.prog 129 [.agg s.c] [.one (vb (Dp s))]:=by
 refine Bd A0 false Tryz.func129 rfl Aw fun W=>?_
 conv=>whnf
 repeat' (first|(refine Oo ?_;conv=>whnf)|(refine Oq ?_;conv=>whnf)|(refine ⟨fun h=>?_,fun h=>?_⟩<;>conv=>whnf)|(refine Az (Ep _ _ _) rfl (A8 ?_))|(refine I8 ?_;conv=>whnf)|fail)
 all_goals (refine B2 A0 rfl rfl ⟨congrArg vb ?_,trivial⟩;(rw [Bool.eq_iff_iff];simp only [M1,Dp,beq_iff_eq,beq_eq_false_iff_ne,bne_iff_ne,bne_eq_false_iff_eq,Bool.not_eq_true',Bool.not_eq_false',Go.Sx.Au,Go.Sx.Bo,decide_eq_true_eq,decide_eq_false_iff_not,Bool.false_eq_true,iff_false,false_iff,iff_true,true_iff,ne_eq] at * <;>omega))
theorem A0r (s:Bs):Bi Tryz.prog 100 [.agg s.c] [.one (vb (Dp s))]:=by
 refine Bd A0 false Tryz.func100 rfl Aw fun W=>?_
 conv=>whnf
 repeat' (first|(refine Oo ?_;conv=>whnf)|(refine Oq ?_;conv=>whnf)|(refine ⟨fun h=>?_,fun h=>?_⟩<;>conv=>whnf)|(refine Az (B4k _ _ _) rfl (A8 ?_))|(refine I8 ?_;conv=>whnf)|fail)
 all_goals (refine B2 A0 rfl rfl ⟨congrArg vb ?_,trivial⟩;(rw [Bool.eq_iff_iff];simp only [M1,Dp,beq_iff_eq,beq_eq_false_iff_ne,bne_iff_ne,bne_eq_false_iff_eq,Bool.not_eq_true',Bool.not_eq_false',Go.Sx.Au,Go.Sx.Bo,decide_eq_true_eq,decide_eq_false_iff_not,Bool.false_eq_true,iff_false,false_iff,iff_true,true_iff,ne_eq] at * <;>omega))
theorem H2 (r:A9):Bi Tryz.prog 97 [.agg r.c] [.one (vb (I6 r))]:=by
 refine Bd A0 false Tryz.func97 rfl Aw fun W=>?_
 conv=>whnf
 repeat' (first|(refine Oo ?_;conv=>whnf)|(refine Oq ?_;conv=>whnf)|(refine ⟨fun h=>?_,fun h=>?_⟩<;>conv=>whnf)|(refine Az (Ep _ _ _) rfl (A8 ?_))|(refine Az (Kv r.stamp) rfl (A8 ?_))|(refine I8 ?_;conv=>whnf)|fail)
 all_goals (refine B2 A0 rfl rfl ⟨congrArg vb ?_,trivial⟩;(rw [Bool.eq_iff_iff];simp only [M1,Dp,beq_iff_eq,beq_eq_false_iff_ne,bne_iff_ne,bne_eq_false_iff_eq,Bool.not_eq_true',Bool.not_eq_false',Go.Sx.Au,Go.Sx.Bo,decide_eq_true_eq,decide_eq_false_iff_not,Bool.false_eq_true,iff_false,false_iff,iff_true,true_iff,ne_eq] at * <;>omega))
end Go.Proofs.YtdendlkeiaccpaaGreat
