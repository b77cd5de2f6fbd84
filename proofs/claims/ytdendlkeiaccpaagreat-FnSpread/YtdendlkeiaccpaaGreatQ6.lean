/- Part 6 of the proof that each of the laws FnSpread returns true for every input. No conditions. -/
import Derived.Test.YtdendlkeiaccpaaGreatQ3
import Derived.Test.YtdendlkeiaccpaaGreatProg
import Derived.KernelRfl
import Derived.Test.YtdendlkeiaccpaaGreatQ4

set_option linter.unusedSimpArgs false
set_option linter.unusedVariables false
set_option maxRecDepth 100000
namespace Go.Proofs.YtdendlkeiaccpaaGreat
open Go.Sx
def tbl:List (TypeId×TI):=[
 (2,{agg:=false,size:=1,bytes:=8,zero:=[Value.int IntKind.i64 (0)],fields:=[],elem:=none,str:=false,flat:=some [CK.int IntKind.i64]}),
 (3,{agg:=false,size:=1,bytes:=8,zero:=[Value.int IntKind.i64 (0)],fields:=[],elem:=none,str:=false,flat:=some [CK.int IntKind.i64]}),
 (4,{agg:=false,size:=1,bytes:=1,zero:=[Value.bool false],fields:=[],elem:=none,str:=false,flat:=some [CK.bool]}),
 (5,{agg:=false,size:=1,bytes:=1,zero:=[Value.int IntKind.u8 (0)],fields:=[],elem:=none,str:=false,flat:=some [CK.int IntKind.u8]}),
 (9,{agg:=false,size:=1,bytes:=16,zero:=[Value.string ByteArray.empty],fields:=[],elem:=none,str:=true,flat:=none}),
 (12,{agg:=false,size:=1,bytes:=8,zero:=[Value.int IntKind.u64 (0)],fields:=[],elem:=none,str:=false,flat:=some [CK.int IntKind.u64]}),
 (21,{agg:=false,size:=1,bytes:=4,zero:=[Value.int IntKind.i32 (0)],fields:=[],elem:=none,str:=false,flat:=some [CK.int IntKind.i32]}),
 (22,{agg:=false,size:=1,bytes:=24,zero:=[Value.slice none 0 0],fields:=[],elem:=some 5,str:=false,flat:=none}),
 (24,{agg:=false,size:=1,bytes:=24,zero:=[Value.slice none 0 0],fields:=[],elem:=some 56,str:=false,flat:=none}),
 (25,{agg:=true,size:=3,bytes:=40,zero:=[Value.slice none 0 0,Value.int IntKind.i64 (0),Value.int IntKind.i64 (0)],fields:=[(0,24),(1,3),(2,3)],elem:=none,str:=false,flat:=none}),
 (26,{agg:=true,size:=3,bytes:=40,zero:=[Value.slice none 0 0,Value.int IntKind.i64 (0),Value.int IntKind.i64 (0)],fields:=[(0,24),(1,3),(2,3)],elem:=none,str:=false,flat:=none}),
 (27,{agg:=false,size:=1,bytes:=24,zero:=[Value.slice none 0 0],fields:=[],elem:=some 60,str:=false,flat:=none}),
 (30,{agg:=false,size:=1,bytes:=24,zero:=[Value.slice none 0 0],fields:=[],elem:=some 78,str:=false,flat:=none}),
 (34,{agg:=false,size:=1,bytes:=24,zero:=[Value.slice none 0 0],fields:=[],elem:=some 86,str:=false,flat:=none}),
 (35,{agg:=false,size:=1,bytes:=24,zero:=[Value.slice none 0 0],fields:=[],elem:=some 91,str:=false,flat:=none}),
 (36,{agg:=false,size:=1,bytes:=24,zero:=[Value.slice none 0 0],fields:=[],elem:=some 101,str:=false,flat:=none}),
 (37,{agg:=false,size:=1,bytes:=24,zero:=[Value.slice none 0 0],fields:=[],elem:=some 103,str:=false,flat:=none}),
 (38,{agg:=true,size:=7,bytes:=136,zero:=[Value.slice none 0 0,Value.int IntKind.i64 (0),Value.int IntKind.i64 (0),Value.slice none 0 0,Value.slice none 0 0,Value.slice none 0 0,Value.slice none 0 0],fields:=[(0,26),(3,34),(4,35),(5,36),(6,37)],elem:=none,str:=false,flat:=none}),
 (39,{agg:=true,size:=7,bytes:=136,zero:=[Value.slice none 0 0,Value.int IntKind.i64 (0),Value.int IntKind.i64 (0),Value.slice none 0 0,Value.slice none 0 0,Value.slice none 0 0,Value.slice none 0 0],fields:=[(0,26),(3,34),(4,35),(5,36),(6,37)],elem:=none,str:=false,flat:=none}),
 (47,{agg:=false,size:=1,bytes:=24,zero:=[Value.slice none 0 0],fields:=[],elem:=some 27,str:=false,flat:=none}),
 (54,{agg:=false,size:=1,bytes:=24,zero:=[Value.slice none 0 0],fields:=[],elem:=some 3,str:=false,flat:=none}),
 (55,{agg:=true,size:=4,bytes:=48,zero:=[Value.int IntKind.i64 (0),Value.int IntKind.i64 (0),Value.int IntKind.i64 (0),Value.slice none 0 0],fields:=[(0,3),(1,3),(2,3),(3,54)],elem:=none,str:=false,flat:=none}),
 (56,{agg:=true,size:=4,bytes:=48,zero:=[Value.int IntKind.i64 (0),Value.int IntKind.i64 (0),Value.int IntKind.i64 (0),Value.slice none 0 0],fields:=[(0,3),(1,3),(2,3),(3,54)],elem:=none,str:=false,flat:=none}),
 (57,{agg:=true,size:=2,bytes:=16,zero:=[Value.int IntKind.i64 (0),Value.int IntKind.i64 (0)],fields:=[(0,3),(1,3)],elem:=none,str:=false,flat:=some [CK.int IntKind.i64,CK.int IntKind.i64]}),
 (58,{agg:=true,size:=2,bytes:=16,zero:=[Value.int IntKind.i64 (0),Value.int IntKind.i64 (0)],fields:=[(0,3),(1,3)],elem:=none,str:=false,flat:=some [CK.int IntKind.i64,CK.int IntKind.i64]}),
 (59,{agg:=true,size:=5,bytes:=40,zero:=[Value.int IntKind.i64 (0),Value.int IntKind.i64 (0),Value.int IntKind.i64 (0),Value.int IntKind.i64 (0),Value.int IntKind.i64 (0)],fields:=[(0,3),(1,58),(3,3),(4,3)],elem:=none,str:=false,flat:=some [CK.int IntKind.i64,CK.int IntKind.i64,CK.int IntKind.i64,CK.int IntKind.i64,CK.int IntKind.i64]}),
 (60,{agg:=true,size:=5,bytes:=40,zero:=[Value.int IntKind.i64 (0),Value.int IntKind.i64 (0),Value.int IntKind.i64 (0),Value.int IntKind.i64 (0),Value.int IntKind.i64 (0)],fields:=[(0,3),(1,58),(3,3),(4,3)],elem:=none,str:=false,flat:=some [CK.int IntKind.i64,CK.int IntKind.i64,CK.int IntKind.i64,CK.int IntKind.i64,CK.int IntKind.i64]}),
 (64,{agg:=false,size:=1,bytes:=24,zero:=[Value.slice none 0 0],fields:=[],elem:=some 93,str:=false,flat:=none}),
 (70,{agg:=false,size:=1,bytes:=8,zero:=[Value.pointer none],fields:=[],elem:=none,str:=false,flat:=none}),
 (77,{agg:=true,size:=4,bytes:=32,zero:=[Value.int IntKind.i64 (0),Value.int IntKind.i64 (0),Value.int IntKind.i64 (0),Value.int IntKind.i64 (0)],fields:=[(0,3),(1,3),(2,3),(3,3)],elem:=none,str:=false,flat:=some [CK.int IntKind.i64,CK.int IntKind.i64,CK.int IntKind.i64,CK.int IntKind.i64]}),
 (78,{agg:=true,size:=4,bytes:=32,zero:=[Value.int IntKind.i64 (0),Value.int IntKind.i64 (0),Value.int IntKind.i64 (0),Value.int IntKind.i64 (0)],fields:=[(0,3),(1,3),(2,3),(3,3)],elem:=none,str:=false,flat:=some [CK.int IntKind.i64,CK.int IntKind.i64,CK.int IntKind.i64,CK.int IntKind.i64]}),
 (83,{agg:=false,size:=1,bytes:=24,zero:=[Value.slice none 0 0],fields:=[],elem:=some 4,str:=false,flat:=none}),
 (84,{agg:=false,size:=1,bytes:=24,zero:=[Value.slice none 0 0],fields:=[],elem:=some 112,str:=false,flat:=none}),
 (85,{agg:=true,size:=8,bytes:=192,zero:=[Value.slice none 0 0,Value.slice none 0 0,Value.slice none 0 0,Value.slice none 0 0,Value.slice none 0 0,Value.slice none 0 0,Value.slice none 0 0,Value.slice none 0 0],fields:=[(0,27),(1,27),(2,27),(3,30),(4,54),(5,83),(6,83),(7,84)],elem:=none,str:=false,flat:=none}),
 (86,{agg:=true,size:=8,bytes:=192,zero:=[Value.slice none 0 0,Value.slice none 0 0,Value.slice none 0 0,Value.slice none 0 0,Value.slice none 0 0,Value.slice none 0 0,Value.slice none 0 0,Value.slice none 0 0],fields:=[(0,27),(1,27),(2,27),(3,30),(4,54),(5,83),(6,83),(7,84)],elem:=none,str:=false,flat:=none}),
 (90,{agg:=true,size:=6,bytes:=64,zero:=[Value.int IntKind.i64 (0),Value.slice none 0 0,Value.int IntKind.i64 (0),Value.int IntKind.i64 (0),Value.int IntKind.i64 (0),Value.int IntKind.i64 (0)],fields:=[(0,3),(1,27),(2,3),(3,3),(4,3),(5,3)],elem:=none,str:=false,flat:=none}),
 (91,{agg:=true,size:=6,bytes:=64,zero:=[Value.int IntKind.i64 (0),Value.slice none 0 0,Value.int IntKind.i64 (0),Value.int IntKind.i64 (0),Value.int IntKind.i64 (0),Value.int IntKind.i64 (0)],fields:=[(0,3),(1,27),(2,3),(3,3),(4,3),(5,3)],elem:=none,str:=false,flat:=none}),
 (92,{agg:=true,size:=3,bytes:=24,zero:=[Value.int IntKind.i64 (0),Value.int IntKind.i64 (0),Value.int IntKind.i64 (0)],fields:=[(0,58),(2,3)],elem:=none,str:=false,flat:=some [CK.int IntKind.i64,CK.int IntKind.i64,CK.int IntKind.i64]}),
 (93,{agg:=true,size:=3,bytes:=24,zero:=[Value.int IntKind.i64 (0),Value.int IntKind.i64 (0),Value.int IntKind.i64 (0)],fields:=[(0,58),(2,3)],elem:=none,str:=false,flat:=some [CK.int IntKind.i64,CK.int IntKind.i64,CK.int IntKind.i64]}),
 (100,{agg:=true,size:=5,bytes:=32,zero:=[Value.bool false,Value.int IntKind.i64 (0),Value.int IntKind.i64 (0),Value.bool false,Value.bool false],fields:=[(0,4),(1,3),(2,3),(3,4),(4,4)],elem:=none,str:=false,flat:=some [CK.bool,CK.int IntKind.i64,CK.int IntKind.i64,CK.bool,CK.bool]}),
 (101,{agg:=true,size:=5,bytes:=32,zero:=[Value.bool false,Value.int IntKind.i64 (0),Value.int IntKind.i64 (0),Value.bool false,Value.bool false],fields:=[(0,4),(1,3),(2,3),(3,4),(4,4)],elem:=none,str:=false,flat:=some [CK.bool,CK.int IntKind.i64,CK.int IntKind.i64,CK.bool,CK.bool]}),
 (102,{agg:=true,size:=3,bytes:=24,zero:=[Value.int IntKind.i64 (0),Value.int IntKind.i64 (0),Value.bool false],fields:=[(0,3),(1,3),(2,4)],elem:=none,str:=false,flat:=some [CK.int IntKind.i64,CK.int IntKind.i64,CK.bool]}),
 (103,{agg:=true,size:=3,bytes:=24,zero:=[Value.int IntKind.i64 (0),Value.int IntKind.i64 (0),Value.bool false],fields:=[(0,3),(1,3),(2,4)],elem:=none,str:=false,flat:=some [CK.int IntKind.i64,CK.int IntKind.i64,CK.bool]}),
 (104,{agg:=true,size:=3,bytes:=40,zero:=[Value.slice none 0 0,Value.int IntKind.i64 (0),Value.int IntKind.i64 (0)],fields:=[(0,22),(1,3),(2,3)],elem:=none,str:=false,flat:=none}),
 (105,{agg:=true,size:=3,bytes:=40,zero:=[Value.slice none 0 0,Value.int IntKind.i64 (0),Value.int IntKind.i64 (0)],fields:=[(0,22),(1,3),(2,3)],elem:=none,str:=false,flat:=none}),
 (111,{agg:=true,size:=2,bytes:=16,zero:=[Value.int IntKind.i64 (0),Value.bool false],fields:=[(0,3),(1,4)],elem:=none,str:=false,flat:=some [CK.int IntKind.i64,CK.bool]}),
 (112,{agg:=true,size:=2,bytes:=16,zero:=[Value.int IntKind.i64 (0),Value.bool false],fields:=[(0,3),(1,4)],elem:=none,str:=false,flat:=some [CK.int IntKind.i64,CK.bool]}),
 (123,{agg:=false,size:=1,bytes:=24,zero:=[Value.slice none 0 0],fields:=[],elem:=some 154,str:=false,flat:=none}),
 (136,{agg:=false,size:=1,bytes:=8,zero:=[Value.int IntKind.u64 (0)],fields:=[],elem:=none,str:=false,flat:=some [CK.int IntKind.u64]}),
 (144,{agg:=false,size:=1,bytes:=8,zero:=[Value.pointer none],fields:=[],elem:=none,str:=false,flat:=none}),
 (148,{agg:=true,size:=8,bytes:=144,zero:=[Value.slice none 0 0,Value.int IntKind.i64 (0),Value.int IntKind.i64 (0),Value.slice none 0 0,Value.slice none 0 0,Value.slice none 0 0,Value.slice none 0 0,Value.bool false],fields:=[(0,39),(7,4)],elem:=none,str:=false,flat:=none}),
 (149,{agg:=true,size:=8,bytes:=144,zero:=[Value.slice none 0 0,Value.int IntKind.i64 (0),Value.int IntKind.i64 (0),Value.slice none 0 0,Value.slice none 0 0,Value.slice none 0 0,Value.slice none 0 0,Value.bool false],fields:=[(0,39),(7,4)],elem:=none,str:=false,flat:=none}),
 (153,{agg:=true,size:=3,bytes:=24,zero:=[Value.int IntKind.i64 (0),Value.int IntKind.i64 (0),Value.int IntKind.i64 (0)],fields:=[(0,3),(1,3),(2,3)],elem:=none,str:=false,flat:=some [CK.int IntKind.i64,CK.int IntKind.i64,CK.int IntKind.i64]}),
 (154,{agg:=true,size:=3,bytes:=24,zero:=[Value.int IntKind.i64 (0),Value.int IntKind.i64 (0),Value.int IntKind.i64 (0)],fields:=[(0,3),(1,3),(2,3)],elem:=none,str:=false,flat:=some [CK.int IntKind.i64,CK.int IntKind.i64,CK.int IntKind.i64]}),
 (200,{agg:=false,size:=1,bytes:=8,zero:=[Value.int IntKind.i64 (0)],fields:=[],elem:=none,str:=false,flat:=some [CK.int IntKind.i64]}),
 (207,{agg:=false,size:=1,bytes:=4,zero:=[Value.int IntKind.u32 (0)],fields:=[],elem:=none,str:=false,flat:=some [CK.int IntKind.u32]}),
 (209,{agg:=false,size:=1,bytes:=8,zero:=[Value.int IntKind.u64 (0)],fields:=[],elem:=none,str:=false,flat:=some [CK.int IntKind.u64]}),
 (217,{agg:=false,size:=1,bytes:=8,zero:=[Value.int IntKind.u64 (0)],fields:=[],elem:=none,str:=false,flat:=some [CK.int IntKind.u64]}),
 (221,{agg:=false,size:=1,bytes:=8,zero:=[Value.pointer none],fields:=[],elem:=none,str:=false,flat:=none}),
 (225,{agg:=false,size:=1,bytes:=8,zero:=[Value.pointer none],fields:=[],elem:=none,str:=false,flat:=none}),
 (226,{agg:=false,size:=1,bytes:=8,zero:=[Value.pointer none],fields:=[],elem:=none,str:=false,flat:=none}),
 (231,{agg:=false,size:=1,bytes:=8,zero:=[Value.pointer none],fields:=[],elem:=none,str:=false,flat:=none}),
 (257,{agg:=false,size:=1,bytes:=8,zero:=[Value.pointer none],fields:=[],elem:=none,str:=false,flat:=none})]
theorem A0:Cs Tryz.prog tbl:=
 (.cons A6 (.cons A6 (.cons A6 (.cons A6 (.cons A6 (.cons A6 (.cons A6 (.cons A6 (.cons A6 (.cons A6 (.cons A6 (.cons A6 (.cons A6 (.cons A6 (.cons A6 (.cons A6 (.cons A6 (.cons A6 (.cons A6 (.cons A6 (.cons A6 (.cons A6 (.cons A6 (.cons A6 (.cons A6 (.cons A6 (.cons A6 (.cons A6 (.cons A6 (.cons A6 (.cons A6 (.cons A6 (.cons A6 (.cons A6 (.cons A6 (.cons A6 (.cons A6 (.cons A6 (.cons A6 (.cons A6 (.cons A6 (.cons A6 (.cons A6 (.cons A6 (.cons A6 (.cons A6 (.cons A6 (.cons A6 (.cons A6 (.cons A6 (.cons A6 (.cons A6 (.cons A6 (.cons A6 (.cons A6 (.cons A6 (.cons A6 (.cons A6 (.cons A6 (.cons A6 (.cons A6 (.cons A6 (.cons A6 .nil)))))))))))))))))))))))))))))))))))))))))))))))))))))))))))))))
structure A7c (R:Prop):Prop where
 get:R
theorem C49 {p q:Prop}(hq:q)(hp:p:=by first|omega|(show _∧_;omega)|decide):p∧q:=⟨hp,hq⟩
theorem C5a {p q:Prop}(hq:q)(hp:p:=by first|omega|(show _∧_;omega)|(simp only [List.length_set];omega)|decide):p∧q:=⟨hp,hq⟩
theorem B2 {X Y R:Prop}(r:R)(h:A7c R→X∧Y:=by intro r;(first|refine skf ?_|refine skt ?_|refine Gi ?_);(conv=>whnf);exact r.get):X∧Y:=h ⟨r⟩
theorem Ap {X Y R:Prop}(r:R)(h:A7c R→X∧Y:=by intro r;refine Gi ?_;(conv=>whnf);exact r.get):X∧Y:=h ⟨r⟩
theorem ndV {X Y R:Prop}(r:R)(h:A7c R→X∧Y:=by intro r;refine C49 ?_;(conv=>whnf);exact r.get):X∧Y:=h ⟨r⟩
theorem ndU {X Y R:Prop}(r:R)(h:A7c R→X∧Y:=by intro r;refine C5a ?_;(conv=>whnf);exact r.get):X∧Y:=h ⟨r⟩
theorem G3 {B:Be}{Q:Exit→Act→World→Prop}{K:List KI}{s:AS}(h:vcW Tryz.prog B Q (Oz tbl false 100000 K s)):GW Tryz.prog B Q K s:=go A0 false h
theorem A7 {B:Be}{Q:Exit→Act→World→Prop}{K:List KI}{s:AS}{R:Prop}(r:R)(h:A7c R→GW Tryz.prog B Q K s:=by intro r;refine go A0 false ?_;(conv=>whnf);exact r.get):GW Tryz.prog B Q K s:=h ⟨r⟩
theorem Eo {P p q:Prop} [Decidable P] (h:P→p)(g:¬P→q):(decide P=true→p)∧(decide P=false→q):=⟨fun e=>h (of_decide_eq_true e),fun e=>g (of_decide_eq_false e)⟩
theorem G9 (n lo hi:Int):B3 Tryz.prog 62 [.one (vi n),.one (vi lo),.one (vi hi)] [.one (vb (E6 n lo hi))]:=by
 refine Aw A0 false Tryz.func62 rfl B5 fun W=>?_;conv=>whnf
 repeat' (first|(refine L4 ?_;conv=>whnf)|(refine L5 ?_;conv=>whnf)|(refine ⟨fun h=>?_,fun h=>?_⟩<;>conv=>whnf)|(refine Am A0 rfl rfl ⟨?_,trivial⟩;conv=>whnf)|(refine Gi ?_;conv=>whnf)|fail)
 all_goals (refine congrArg vb ?_;simp_all [E6]<;>omega)
theorem Ik (n lo hi:Int):B3 Tryz.prog 61 [.one (vi n),.one (vi lo),.one (vi hi)] [.one (vb (E6 n lo hi))]:=by
 refine Aw A0 false Tryz.func61 rfl B5 fun W=>?_;conv=>whnf
 repeat' (first|(refine L4 ?_;conv=>whnf)|(refine L5 ?_;conv=>whnf)|(refine ⟨fun h=>?_,fun h=>?_⟩<;>conv=>whnf)|(refine Am A0 rfl rfl ⟨?_,trivial⟩;conv=>whnf)|(refine Gi ?_;conv=>whnf)|fail)
 all_goals (refine congrArg vb ?_;simp_all [E6]<;>omega)
def H2 (r:Aa):Prop:=(0≤r.op∧r.op≤7)∧(0≤r.stamp.epoch∧r.stamp.epoch≤3)∧(0≤r.stamp.turn∧r.stamp.turn≤6)∧(0≤r.key∧r.key≤99)∧(0≤r.val∧r.val≤999)
instance (r:Aa):Decidable (H2 r):=by unfold H2;infer_instance
def Ev (r:Aa):Bool:=decide (H2 r)
theorem Kn (r:Aa):Ev r=true↔(0≤r.op∧r.op≤7)∧(0≤r.stamp.epoch∧r.stamp.epoch≤3)∧(0≤r.stamp.turn∧r.stamp.turn≤6)∧(0≤r.key∧r.key≤99)∧(0≤r.val∧r.val≤999):=decide_eq_true_iff
def I2 (s:Fo):Bool:=decide ((0≤s.epoch∧s.epoch≤3)∧(0≤s.turn∧s.turn≤6))
theorem Ye (s:Fo):B3 Tryz.prog 129 [.agg s.c] [.one (vb (I2 s))]:=by
 refine Aw A0 false Tryz.func129 rfl B5 fun W=>?_;conv=>whnf
 repeat' (first|(refine L4 ?_;conv=>whnf)|(refine L5 ?_;conv=>whnf)|(refine ⟨fun h=>?_,fun h=>?_⟩<;>conv=>whnf)|(refine As (G9 _ _ _) rfl (A7 ?_))|(refine Ft ?_;conv=>whnf)|fail)
 all_goals (refine Am A0 rfl rfl ⟨congrArg vb ?_,trivial⟩;(rw [Bool.eq_iff_iff];simp only [Kn,I2,beq_iff_eq,beq_eq_false_iff_ne,bne_iff_ne,bne_eq_false_iff_eq,Bool.not_eq_true',Bool.not_eq_false',Go.Sx.Al,Go.Sx.B4,decide_eq_true_eq,decide_eq_false_iff_not,Bool.false_eq_true,iff_false,false_iff,iff_true,true_iff,ne_eq] at * <;>omega))
theorem Xv (s:Fo):B3 Tryz.prog 100 [.agg s.c] [.one (vb (I2 s))]:=by
 refine Aw A0 false Tryz.func100 rfl B5 fun W=>?_;conv=>whnf
 repeat' (first|(refine L4 ?_;conv=>whnf)|(refine L5 ?_;conv=>whnf)|(refine ⟨fun h=>?_,fun h=>?_⟩<;>conv=>whnf)|(refine As (Ik _ _ _) rfl (A7 ?_))|(refine Ft ?_;conv=>whnf)|fail)
 all_goals (refine Am A0 rfl rfl ⟨congrArg vb ?_,trivial⟩;(rw [Bool.eq_iff_iff];simp only [Kn,I2,beq_iff_eq,beq_eq_false_iff_ne,bne_iff_ne,bne_eq_false_iff_eq,Bool.not_eq_true',Bool.not_eq_false',Go.Sx.Al,Go.Sx.B4,decide_eq_true_eq,decide_eq_false_iff_not,Bool.false_eq_true,iff_false,false_iff,iff_true,true_iff,ne_eq] at * <;>omega))
theorem I1 (r:Aa):B3 Tryz.prog 97 [.agg r.c] [.one (vb (Ev r))]:=by
 refine Aw A0 false Tryz.func97 rfl B5 fun W=>?_;conv=>whnf
 repeat' (first|(refine L4 ?_;conv=>whnf)|(refine L5 ?_;conv=>whnf)|(refine ⟨fun h=>?_,fun h=>?_⟩<;>conv=>whnf)|(refine As (G9 _ _ _) rfl (A7 ?_))|(refine As (Ye r.stamp) rfl (A7 ?_))|(refine Ft ?_;conv=>whnf)|fail)
 all_goals (refine Am A0 rfl rfl ⟨congrArg vb ?_,trivial⟩;(rw [Bool.eq_iff_iff];simp only [Kn,I2,beq_iff_eq,beq_eq_false_iff_ne,bne_iff_ne,bne_eq_false_iff_eq,Bool.not_eq_true',Bool.not_eq_false',Go.Sx.Al,Go.Sx.B4,decide_eq_true_eq,decide_eq_false_iff_not,Bool.false_eq_true,iff_false,false_iff,iff_true,true_iff,ne_eq] at * <;>omega))
theorem A04 (k v:Int):B3 Tryz.prog 141 [.one (vi k),.one (vi v)] [.one (vb (decide ((0≤k∧k≤99)∧(0≤v∧v≤999))))]:=by
 refine Aw A0 false Tryz.func141 rfl B5 fun W=>?_;conv=>whnf
 repeat' (first|(refine L4 ?_;conv=>whnf)|(refine L5 ?_;conv=>whnf)|(refine ⟨fun h=>?_,fun h=>?_⟩<;>conv=>whnf)|(refine As (Ik _ _ _) rfl (A7 ?_))|(refine Ft ?_;conv=>whnf)|fail)
 all_goals (refine Am A0 rfl rfl ⟨congrArg vb ?_,trivial⟩;(rw [Bool.eq_iff_iff];simp only [Kn,I2,beq_iff_eq,beq_eq_false_iff_ne,bne_iff_ne,bne_eq_false_iff_eq,Bool.not_eq_true',Bool.not_eq_false',Go.Sx.Al,Go.Sx.B4,decide_eq_true_eq,decide_eq_false_iff_not,Bool.false_eq_true,iff_false,false_iff,iff_true,true_iff,ne_eq] at * <;>omega))
theorem J0 (r:Aa):B3 Tryz.prog 106 [.agg r.c] [.one (vb (Ev r))]:=by
 refine Aw A0 false Tryz.func106 rfl B5 fun W=>?_;conv=>whnf
 repeat' (first|(refine L4 ?_;conv=>whnf)|(refine L5 ?_;conv=>whnf)|(refine ⟨fun h=>?_,fun h=>?_⟩<;>conv=>whnf)|(refine As (Ik _ _ _) rfl (A7 ?_))|(refine As (Xv r.stamp) rfl (A7 ?_))|(refine As (A04 r.key r.val) rfl (A7 ?_))|(refine Ft ?_;conv=>whnf)|fail)
 all_goals (refine Am A0 rfl rfl ⟨congrArg vb ?_,trivial⟩;(rw [Bool.eq_iff_iff];simp only [Kn,I2,beq_iff_eq,beq_eq_false_iff_ne,bne_iff_ne,bne_eq_false_iff_eq,Bool.not_eq_true',Bool.not_eq_false',Go.Sx.Al,Go.Sx.B4,decide_eq_true_eq,decide_eq_false_iff_not,Bool.false_eq_true,iff_false,false_iff,iff_true,true_iff,ne_eq] at * <;>omega))
def Lv (a b:Int):Int:=if a<b then-1 else if a>b then 1 else 0
def Rc:List Int→List Int→Int
 |a::x,b::y=>if Lv a b=0 then Rc x y else Lv a b
 |_,_=>0
theorem B5f {a b:List Int}{k:Nat}(h:k<a.length)(hl:a.length=b.length):Rc (a.drop k) (b.drop k)=if Lv (a.getD k default) (b.getD k default)=0 then Rc (a.drop (k+1)) (b.drop (k+1)) else Lv (a.getD k default) (b.getD k default):=by
 have h2:k<b.length:=by omega
 rw [List.drop_eq_getElem_cons h,List.drop_eq_getElem_cons h2,Rc,List.getD,List.getD,List.getElem?_eq_getElem h,List.getElem?_eq_getElem h2];rfl
theorem B8t {a b:List Int}{k:Nat}(h:¬ k<a.length):Rc (a.drop k) (b.drop k)=0:=by
 rw [List.drop_of_length_le Ad];rfl
theorem B25 (n:Int):B3 Tryz.prog 243 [.one (vi n)] [.one (vb false)]:=by
 refine Aw A0 false Tryz.func243 rfl B5 fun W=>?_;conv=>whnf
 exact Am A0 rfl rfl ⟨congrArg vb C8,trivial⟩
theorem B04 (a b:Int):B3 Tryz.prog 220 [.one (vi a),.one (vi b)] [.one (vi (Lv a b))]:=by
 refine Aw A0 false Tryz.func220 rfl B5 fun W=>?_;conv=>whnf
 refine As (B25 a) rfl (A7 ?_);refine As (B25 b) rfl (A7 ?_);refine A1c B6x ?_;conv=>whnf
 refine A1c B6x ?_;conv=>whnf
 refine Eo (fun h=>?_) fun h=>?_<;>conv=>whnf
 ·exact Am A0 rfl rfl ⟨congrArg vi (by rw [Lv,if_pos h]),trivial⟩
 refine Eo (fun h2=>?_) fun h2=>?_<;>conv=>whnf
 ·exact Am A0 rfl rfl ⟨congrArg vi (by rw [Lv,if_neg h,if_pos h2]),trivial⟩
 exact Am A0 rfl rfl ⟨congrArg vi (by rw [Lv,if_neg h,if_neg h2]),trivial⟩
theorem B57 (a b:Int):B3 Tryz.prog 138 [.one (vi a),.one (vi b)] [.one (vi (Lv a b))]:=by
 refine Aw A0 false Tryz.func138 rfl B5 fun W=>?_;conv=>whnf
 refine Eo (fun h=>?_) fun h=>?_<;>conv=>whnf
 ·exact Am A0 rfl rfl ⟨congrArg vi (by rw [Lv,if_pos h]),trivial⟩
 refine Eo (fun h2=>?_) fun h2=>?_<;>conv=>whnf
 ·exact Am A0 rfl rfl ⟨congrArg vi (by rw [Lv,if_neg h,if_pos h2]),trivial⟩
 exact Am A0 rfl rfl ⟨congrArg vi (by rw [Lv,if_neg h,if_neg h2]),trivial⟩
theorem A8e (a b:List Int)(hl:a.length=b.length)(ha:a.length≤16777216):B3 Tryz.prog 200 [.one (Bh a),.one (Bh b)] [.one (vi (Rc a b))]:=by
 refine Aw A0 false Tryz.func200 rfl B5 fun W=>?_;conv=>whnf
 refine Bk A0 false [] (fun k:Nat=>[(11,.c (vi k))]) (fun k=>[]) (fun k=>[])
  (fun k=>k≤a.length∧Rc (a.drop k) (b.drop k)=Rc a b) (fun k=>a.length-k) 0 ⟨Nat.zero_le _,by first|rfl|assumption|simp⟩ ⟨F0,trivial⟩ trivial trivial C1 A6 (fun k hk=>?_)
 obtain ⟨hk,he⟩:=hk;conv=>whnf
 refine Eo (fun h=>?_) fun h=>?_<;>conv=>whnf
 ·have h:k<a.length:=by omega
  rw [B5f h hl] at he;(repeat refine Ap ?_);refine Eo (fun h2=>?_) fun h2=>?_<;>conv=>whnf
  ·omega
  (repeat refine Ap ?_);refine As (B04 (a.getD k default) (b.getD k default)) rfl (A7 ?_);refine ⟨fun h3=>have h3:=bne_iff_ne.1 h3;?_,fun h3=>have h3:=bne_eq_false_iff_eq.1 h3;?_⟩<;>conv=>whnf
  ·rw [if_neg h3] at he
   exact Am A0 rfl rfl ⟨congrArg vi he.symm,trivial⟩
  rw [if_pos h3] at he;(repeat refine Ap ?_);refine Az [] (k+1) ⟨by omega,he⟩ Ad ⟨rfl,trivial⟩ trivial trivial A6 C1 A6
 rw [B8t Ad] at he;refine Eo (fun h4=>?_) fun h4=>?_<;>conv=>whnf
 ·omega
 exact Am A0 rfl rfl ⟨congrArg vi he.symm,trivial⟩
theorem A8j (a b:List Int)(hl:a.length=b.length)(ha:a.length≤16777216):B3 Tryz.prog 172 [.one (Bh a),.one (Bh b)] [.one (vi (Rc a b))]:=by
 refine Aw A0 false Tryz.func172 rfl B5 fun W=>?_;conv=>whnf
 refine As (A8e a b hl ha) rfl (A7 ?_);exact Am A0 rfl rfl ⟨rfl,trivial⟩
def Nn (x:Ae):List Int:=[x.epoch,x.op,x.key,x.val]
def Kh (a b:Ae):Int:=Rc (Nn a) (Nn b)
theorem Su (a b:Ae):B3 Tryz.prog 176 [.agg a.c,.agg b.c] [.one (vi (Kh a b))]:=by
 refine Aw A0 false Tryz.func176 rfl B5 fun W=>?_;conv=>whnf
 refine Fx 2 (Bh (Nn a)) rfl (Bu rfl C2) ?_;refine Fx 3 (Bh (Nn b)) rfl (Bu rfl C2) ?_;refine As (A8j (Nn a) (Nn b) rfl (by simp [Nn])) rfl (A7 ?_);exact Am A0 rfl rfl ⟨rfl,trivial⟩
def B4s (a b:Ae):List Int:=[Lv a.epoch b.epoch,Lv a.op b.op,Lv a.key b.key,Lv a.val b.val]
theorem A1g:∀(l m:List Int) (k:Nat),(∀i,i<k→Lv (l.getD i default) (m.getD i default)=0)→l.length=m.length→k<l.length→Lv (l.getD k default) (m.getD k default)≠0→Rc l m=Lv (l.getD k default) (m.getD k default)
 | [],_,_,_,_,h,_=>by simp at h
 |_::_,[],_,_,h,_,_=>by simp at h
 |a::x,b::y,0,_,_,_,h=>by rw [Rc,if_neg (show ¬ Lv a b=0 from h)];rfl
 |a::x,b::y,k+1,h0,hl,hk,h=>by
  have:=h0 0 Ad
  rw [Rc,if_pos (show Lv a b=0 from this)]
  exact A1g x y k (fun i hi=>h0 (i+1) Ad) (by simpa using hl) (by simpa using hk) h
theorem A39:∀(l m:List Int),(∀i,i<l.length→Lv (l.getD i default) (m.getD i default)=0)→l.length=m.length→Rc l m=0
 | [],_,_,_=>by rw [Rc];simp
 |_::_,[],_,h=>by simp at h
 |a::x,b::y,h0,hl=>by
  have:=h0 0 C8
  rw [Rc,if_pos (show Lv a b=0 from this)]
  exact A39 x y (fun i hi=>h0 (i+1) (by simpa using hi)) (by simpa using hl)
theorem Tb (a b:Ae):B3 Tryz.prog 139 [.agg a.c,.agg b.c] [.one (vi (Kh a b))]:=by
 refine Aw A0 false Tryz.func139 rfl B5 fun W=>?_;conv=>whnf
 repeat' (first|(refine L4 ?_;conv=>whnf)|(refine L5 ?_;conv=>whnf)|(refine ⟨fun h=>?_,fun h=>?_⟩<;>conv=>whnf)|(refine As (B57 _ _) rfl (A7 ?_))|(refine Ft ?_;conv=>whnf)|(refine Ax 1 rfl [0,1,2,3,5,6,7,8,10,11,12,13,15,16,17,18,4,9,14,19,20,21] A6 (A7 ?_))|fail)
 refine Es 2 (Bh (B4s a b)) rfl (Bu rfl C2) ?_
 refine Bk A0 false [] (fun k:Nat=>[(6,.c (vi k))]) (fun k=>[]) (fun k=>[⟨2,Bh (B4s a b)⟩])
  (fun k=>k≤4∧∀i,i<k→(B4s a b).getD i default=0) (fun k=>4-k) 0 ⟨Nat.zero_le _,by first|rfl|assumption|simp⟩ ⟨F0,trivial⟩ trivial ⟨Dm,trivial⟩ C1 A6 (fun k hk=>?_)
 obtain ⟨hk,he⟩:=hk;conv=>whnf
 refine Eo (fun h=>?_) fun h=>?_<;>conv=>whnf
 ·have h:k<4:=by omega
  have hk:(B4s a b).length=4:=rfl
  have hq:∀i,i<4→(B4s a b).getD i default=Lv ((Nn a).getD i default) ((Nn b).getD i default):=fun i hi=>by
   match i,hi with
   | 0,_=>rfl
   | 1,_=>rfl
   | 2,_=>rfl
   | 3,_=>rfl
  (repeat refine Ap ?_);refine ⟨fun h3=>have h3:=bne_iff_ne.1 h3;?_,fun h3=>have h3:=bne_eq_false_iff_eq.1 h3;?_⟩<;>conv=>whnf
  ·(repeat refine Ap ?_)
   exact Am A0 rfl rfl ⟨congrArg vi ((A1g _ _ k (fun i hi=>(hq i Ad).symm.trans (he i hi)) rfl h (by rw [←hq k h];exact h3)).trans (hq k h).symm),trivial⟩
  (repeat refine Ap ?_);refine Az [] (k+1) ⟨by omega,fun i hi=>(Nat.lt_succ_iff_lt_or_eq.1 hi).elim (fun h4=>he i h4) (fun h4=>h4▸h3)⟩ Ad ⟨rfl,trivial⟩ ⟨rfl,trivial⟩ trivial A6 C1 A6
 have hq:∀i,i<4→(B4s a b).getD i default=Lv ((Nn a).getD i default) ((Nn b).getD i default):=fun i hi=>by
  match i,hi with
  | 0,_=>rfl
  | 1,_=>rfl
  | 2,_=>rfl
  | 3,_=>rfl
 exact Am A0 rfl rfl ⟨congrArg vi (A39 (Nn a) (Nn b) (fun i hi=>(hq i hi).symm.trans (he i (by have:i<4:=hi;omega))) rfl),trivial⟩
def Jv (x:Bw):Prop:=(1≤x.kind∧x.kind≤8)∧(x.kind=2→0≤x.a∧x.a≤999∧x.b=0)∧(x.kind=3→1≤x.a∧x.a≤10∧0≤x.b∧x.b≤x.a-1)∧(x.kind=4→0≤x.a∧x.a≤99∧x.b=0)∧
 (x.kind≠2→x.kind≠3→x.kind≠4→x.a=0∧x.b=0)∧x.outs.length≤2∧(x.kind=8→x.outs.length=0)∧(x.outs.length=2→x.outs.getD 0 default≠x.outs.getD 1 default)∧(∀n∈x.outs,0≤n∧n≤7)
instance (x:Bw):Decidable (Jv x):=by unfold Jv;infer_instance
def Ma (x:Bw):Bool:=decide (Jv x)
def Zb (l:List Int) (k:Nat):Prop:=∀i,i<k→0≤l.getD i default∧l.getD i default≤7
theorem A1p {l:List Int}{k:Nat}(h:Zb l k)(h1:0≤l.getD k default)(h2:l.getD k default≤7):Zb l (k+1):=fun i hi=>by
 by_cases e:i=k
 ·subst e;exact ⟨h1,h2⟩
 exact h i Ad
theorem A4d {l:List Int}(h:Zb l l.length):∀n∈l,0≤n∧n≤7:=fun n hn=>by
 obtain ⟨i,hi,e⟩:=List.getElem_of_mem hn
 have:=h i hi
 rw [List.getD,List.getElem?_eq_getElem hi] at this;rw [←e];exact this
def Zc (x:Bw):Prop:=(1≤x.kind∧x.kind≤8)∧(x.kind=2→0≤x.a∧x.a≤999∧x.b=0)∧(x.kind=3→1≤x.a∧x.a≤10∧0≤x.b∧x.b≤x.a-1)∧(x.kind=4→0≤x.a∧x.a≤99∧x.b=0)∧
 (x.kind≠2→x.kind≠3→x.kind≠4→x.a=0∧x.b=0)
theorem Jv.pars {x:Bw}(h:Jv x):Zc x:=⟨h.1,h.2.1,h.2.2.1,h.2.2.2.1,h.2.2.2.2.1⟩
theorem A06 (x:Bw)(hx:x.w≤16777216):B3 Tryz.prog 140 [.agg x.c] [.one (vb (Ma x))]:=by
 have hl:x.outs.length≤16777216:=hx;refine B7w 6 A0 false Tryz.func140 rfl B5 fun W=>?_;conv=>whnf
 refine C05 A0 false (J:=Unit) [5,6,7,8,9,10,11,12,13,14,15,16,17,18,19,20,21,22,23,24,25,26,27,28,29,30,31,32,33,34,35,36,37,38,39,40,41,42,43,44,45,46,47,48,49,50,51,52,53,54,55,56,57] (fun _=>[]) (fun _=>[⟨0,[.c (vi x.kind),.c (vi x.a),.c (vi x.b),.c (Bh x.outs)]⟩]) (fun _=>[]) (fun _=>Zc x) ?_ ?_
 ·conv=>whnf
  repeat' (first|(refine L4 ?_;conv=>whnf)|(refine L5 ?_;conv=>whnf)|(refine ⟨fun h=>?_,fun h=>?_⟩<;>conv=>whnf)|(refine As (Ik _ _ _) rfl (A7 ?_))|(refine Ft ?_;conv=>whnf)|(refine Ax 19 rfl [0,1,2,3,4,5,6,7,8,9,10,11,12,13,14,15,16,17,18,19,20,21,22,23,24,25,26,27,28,29,30,31] A6 (A7 ?_))|fail)
  all_goals first
   |(refine Am A0 rfl rfl ⟨congrArg vb (decide_eq_false fun p=>?_),trivial⟩;have p:=p.pars;unfold Zc at p;obtain ⟨p1,p2,p3,p4,p5⟩:=p;simp only [beq_iff_eq,beq_eq_false_iff_ne,bne_iff_ne,bne_eq_false_iff_eq,Bool.not_eq_true',Bool.not_eq_false',Go.Sx.Al,Go.Sx.B4,decide_eq_true_eq,decide_eq_false_iff_not,ne_eq,Int.not_lt,Int.not_le,ge_iff_le,gt_iff_lt,Int.toNat_zero,Int.toNat_one,Int.toNat_natCast] at * <;>omega)
   |(refine Az [] () ?_ B5 trivial trivial C2 A6 trivial A6;refine ⟨?_,?_,?_,?_,?_⟩<;>(intros;simp only [beq_iff_eq,beq_eq_false_iff_ne,bne_iff_ne,bne_eq_false_iff_eq,Bool.not_eq_true',Bool.not_eq_false',Go.Sx.Al,Go.Sx.B4,decide_eq_true_eq,decide_eq_false_iff_not,ne_eq,Int.not_lt,Int.not_le,ge_iff_le,gt_iff_lt,Int.toNat_zero,Int.toNat_one,Int.toNat_natCast] at * <;>omega))
 intro _ hp;have hu:Zb x.outs 0:=fun i h=>absurd h (Nat.not_lt_zero i);conv=>whnf
 unfold Zc at hp
 repeat' (first|(refine L4 ?_;conv=>whnf)|(refine L5 ?_;conv=>whnf)|(refine ⟨fun h=>?_,fun h=>?_⟩<;>conv=>whnf)|(refine Ft ?_;conv=>whnf)|(refine Ax 19 rfl [0,1,2,3,4,5,6,7,8,9,10,11,12,13,14,15,16,17,18,19,20,21,22,23,24,25,26,27,28,29,30,31] A6 (A7 ?_))|fail)
 all_goals try (refine Am A0 rfl rfl ⟨congrArg vb (decide_eq_false fun p=>?_),trivial⟩;obtain ⟨p1,p2,p3,p4,p5,p6,p7,p8,p9⟩:=p;clear hp p1 p2 p3 p4 p5 p9;simp only [beq_iff_eq,beq_eq_false_iff_ne,bne_iff_ne,bne_eq_false_iff_eq,Bool.not_eq_true',Bool.not_eq_false',Go.Sx.Al,Go.Sx.B4,decide_eq_true_eq,decide_eq_false_iff_not,ne_eq,Int.not_lt,Int.not_le,ge_iff_le,gt_iff_lt,Int.toNat_zero,Int.toNat_one,Int.toNat_natCast] at * <;>omega)
 all_goals
  refine Bk A0 false [] (fun k:Nat=>[(93,.c (vi k))]) (fun k=>[⟨0,[.c (vi x.kind),.c (vi x.a),.c (vi x.b),.c (Bh x.outs)]⟩]) (fun k=>[])
   (fun k=>k≤x.outs.length∧Zb x.outs k) (fun k=>x.outs.length-k) 0 ⟨Nat.zero_le _,by first|rfl|assumption|simp⟩ ⟨F0,trivial⟩ C2 trivial C1 A6 (fun k hk=>?_)
  obtain ⟨hk,he⟩:=hk;conv=>whnf
  refine Eo (fun h'=>?_) fun h'=>?_<;>conv=>whnf
  ·have h':k<x.outs.length:=by omega
   (repeat refine Ap ?_);refine As (Ik (x.outs.getD k default) 0 7) rfl (A7 ?_);refine ⟨fun hc=>?_,fun hc=>?_⟩<;>conv=>whnf
   ·exact Am A0 rfl rfl ⟨congrArg vb (decide_eq_false fun p=>by have p9:=p.2.2.2.2.2.2.2.2 _ (At (d:=default) h');clear p hp he;simp only [beq_iff_eq,beq_eq_false_iff_ne,bne_iff_ne,bne_eq_false_iff_eq,Bool.not_eq_true',Bool.not_eq_false',Go.Sx.Al,Go.Sx.B4,decide_eq_true_eq,decide_eq_false_iff_not,ne_eq,Int.not_lt,Int.not_le,ge_iff_le,gt_iff_lt,Int.toNat_zero,Int.toNat_one,Int.toNat_natCast] at * <;>omega),trivial⟩
   have hc:=Go.Sx.Al.1 (by simpa using hc);(repeat refine Ap ?_);refine Az [] (k+1) ⟨by omega,A1p he hc.1 hc.2⟩ Ad ⟨rfl,trivial⟩ trivial C2 A6 C1 A6
  have e:k=x.outs.length:=by omega
  refine Am A0 rfl rfl ⟨congrArg vb (decide_eq_true ⟨hp.1,hp.2.1,hp.2.2.1,hp.2.2.2.1,hp.2.2.2.2,?_,?_,?_,A4d (e▸he)⟩),trivial⟩
  all_goals (clear he hp;intros;simp only [beq_iff_eq,beq_eq_false_iff_ne,bne_iff_ne,bne_eq_false_iff_eq,Bool.not_eq_true',Bool.not_eq_false',Go.Sx.Al,Go.Sx.B4,decide_eq_true_eq,decide_eq_false_iff_not,ne_eq,Int.not_lt,Int.not_le,ge_iff_le,gt_iff_lt,Int.toNat_zero,Int.toNat_one,Int.toNat_natCast] at * <;>omega)
theorem B7t {p:Prop}(d:Decidable p)(q:Prop) [Decidable q]:(Decidable.rec (motive:=fun _=>Bool) (fun _=>false) (fun _=>decide q) d=true)↔(p∧q):=by
 cases d<;>simp [*]
theorem A2i (x:Bw)(hx:x.w≤16777216):B3 Tryz.prog 103 [.agg x.c] [.one (vb (Ma x))]:=by
 have hl:x.outs.length≤16777216:=hx;have hw1:1≤x.a→x.a≤10→IntKind.wrap .i64 (x.a-1)=x.a-1:=fun h1 h2=>Ix (by show _∧_;omega)
 refine B7w 20 A0 true Tryz.func103 rfl B5 fun W=>?_;conv=>whnf
 refine C05 A0 true (J:=Bool×Bool) [12,13,14,15,16,17,18,19,20,21,22,23,24,25,26,27,28,29,30,31,32,33,34] (fun j=>[(3,.c (vb j.1)),(4,.c (vb j.2))]) (fun _=>[⟨0,[.c (vi x.kind),.c (vi x.a),.c (vi x.b),.c (Bh x.outs)]⟩]) (fun _=>[]) (fun j=>((j.1=true∧j.2=true∧1≤x.kind∧x.kind≤8)↔Zc x)) ?_ ?_
 ·conv=>whnf
  repeat' (first|(refine L4 ?_;conv=>whnf)|(refine L5 ?_;conv=>whnf)|(refine ⟨fun h=>?_,fun h=>?_⟩<;>conv=>whnf)|(refine As (G9 _ _ _) rfl (go A0 true ?_);conv=>whnf)|(refine Ft ?_;conv=>whnf)|(refine Ax 16 rfl [0,1,2,3,4,5,6,7,8,9,10,11,12,13,14,15,16,17,18,19,20,21] A6 (go A0 true ?_);conv=>whnf)|fail)
  all_goals
   refine Az [] (_,_) ?_ B5 ⟨rfl,rfl,trivial⟩ trivial C2 A6 trivial A6;unfold Zc
   try simp only [B7t]
   simp only [beq_iff_eq,beq_eq_false_iff_ne,bne_iff_ne,bne_eq_false_iff_eq,Bool.not_eq_true',Bool.not_eq_false',Go.Sx.Al,Go.Sx.B4,decide_eq_true_eq,decide_eq_false_iff_not,ne_eq,Int.not_lt,Int.not_le,ge_iff_le,gt_iff_lt,Int.toNat_zero,Int.toNat_one,Int.toNat_natCast] at * <;>omega
 rintro ⟨a,b⟩ hp
 have hu:Zb x.outs 0∧(2≤0→x.outs.getD 0 default≠x.outs.getD 1 default):=⟨fun i h=>absurd h (Nat.not_lt_zero i),fun h=>by omega⟩
 conv=>whnf
 repeat' (first|(refine L4 ?_;conv=>whnf)|(refine L5 ?_;conv=>whnf)|(refine ⟨fun h=>?_,fun h=>?_⟩<;>conv=>whnf)|(refine As (G9 _ _ _) rfl (go A0 true ?_);conv=>whnf)|(refine Ft ?_;conv=>whnf)|(refine Ax 16 rfl [0,1,2,3,4,5,6,7,8,9,10,11,12,13,14,15,16,17,18,19,20,21] A6 (go A0 true ?_);conv=>whnf)|fail)
 all_goals try (refine Am A0 rfl rfl ⟨congrArg vb (decide_eq_false fun p=>?_),trivial⟩;have q:=hp.2 p.pars;obtain ⟨p1,p2,p3,p4,p5,p6,p7,p8,p9⟩:=p;clear hp hu p2 p3 p4 p5 p9;simp only [beq_iff_eq,beq_eq_false_iff_ne,bne_iff_ne,bne_eq_false_iff_eq,Bool.not_eq_true',Bool.not_eq_false',Go.Sx.Al,Go.Sx.B4,decide_eq_true_eq,decide_eq_false_iff_not,ne_eq,Int.not_lt,Int.not_le,ge_iff_le,gt_iff_lt,Int.toNat_zero,Int.toNat_one,Int.toNat_natCast] at * <;>first|omega|simp_all)
 all_goals
  refine Bk A0 true [] (fun k:Nat=>[(5,.c (vi k))]) (fun k=>[⟨0,[.c (vi x.kind),.c (vi x.a),.c (vi x.b),.c (Bh x.outs)]⟩]) (fun k=>[])
   (fun k=>k≤x.outs.length∧(Zb x.outs k∧(2≤k→x.outs.getD 0 default≠x.outs.getD 1 default))) (fun k=>x.outs.length-k) 0 ⟨Nat.zero_le _,by first|rfl|assumption|simp⟩ ⟨F0,trivial⟩ C2 trivial C1 A6 (fun k hk=>?_)
  obtain ⟨hk,he⟩:=hk;conv=>whnf
  refine Eo (fun h'=>?_) fun h'=>?_<;>conv=>whnf
  ·have h':k<x.outs.length:=by omega
   clear hp hu
   repeat' (first|(refine L4 ?_;conv=>whnf)|(refine L5 ?_;conv=>whnf)|(refine ⟨fun h=>?_,fun h=>?_⟩<;>conv=>whnf)|(refine As (G9 _ _ _) rfl (go A0 true ?_);conv=>whnf)|(refine Ft ?_;conv=>whnf)|(refine Ax 16 rfl [0,1,2,3,4,5,6,7,8,9,10,11,12,13,14,15,16,17,18,19,20,21] A6 (go A0 true ?_);conv=>whnf)|fail)
   all_goals try (refine Am A0 rfl rfl ⟨congrArg vb (decide_eq_false fun p=>?_),trivial⟩;have p9:=p.2.2.2.2.2.2.2.2 _ (At (d:=default) h');have p8:=p.2.2.2.2.2.2.2.1;have p6:=p.2.2.2.2.2.1;clear p he;simp only [beq_iff_eq,beq_eq_false_iff_ne,bne_iff_ne,bne_eq_false_iff_eq,Bool.not_eq_true',Bool.not_eq_false',Go.Sx.Al,Go.Sx.B4,decide_eq_true_eq,decide_eq_false_iff_not,ne_eq,Int.not_lt,Int.not_le,ge_iff_le,gt_iff_lt,Int.toNat_zero,Int.toNat_one,Int.toNat_natCast] at * <;>omega)
   all_goals
    refine Az [] (k+1) ⟨by omega,⟨A1p he.1 (by clear he;simp only [beq_iff_eq,beq_eq_false_iff_ne,bne_iff_ne,bne_eq_false_iff_eq,Bool.not_eq_true',Bool.not_eq_false',Go.Sx.Al,Go.Sx.B4,decide_eq_true_eq,decide_eq_false_iff_not,ne_eq,Int.not_lt,Int.not_le,ge_iff_le,gt_iff_lt,Int.toNat_zero,Int.toNat_one,Int.toNat_natCast] at * <;>omega) (by clear he;simp only [beq_iff_eq,beq_eq_false_iff_ne,bne_iff_ne,bne_eq_false_iff_eq,Bool.not_eq_true',Bool.not_eq_false',Go.Sx.Al,Go.Sx.B4,decide_eq_true_eq,decide_eq_false_iff_not,ne_eq,Int.not_lt,Int.not_le,ge_iff_le,gt_iff_lt,Int.toNat_zero,Int.toNat_one,Int.toNat_natCast] at * <;>omega),by have q:=he.2;clear he;simp only [beq_iff_eq,beq_eq_false_iff_ne,bne_iff_ne,bne_eq_false_iff_eq,Bool.not_eq_true',Bool.not_eq_false',Go.Sx.Al,Go.Sx.B4,decide_eq_true_eq,decide_eq_false_iff_not,ne_eq,Int.not_lt,Int.not_le,ge_iff_le,gt_iff_lt,Int.toNat_zero,Int.toNat_one,Int.toNat_natCast] at * <;>omega⟩⟩ Ad ⟨congrArg (fun n=>AV.c (vi n)) (B6l k Ad),trivial⟩ trivial C2 A6 C1 A6
  have e:k=x.outs.length:=by omega
  have hq:Zc x:=hp.1 (by clear hp hu he;simp only [beq_iff_eq,beq_eq_false_iff_ne,bne_iff_ne,bne_eq_false_iff_eq,Bool.not_eq_true',Bool.not_eq_false',Go.Sx.Al,Go.Sx.B4,decide_eq_true_eq,decide_eq_false_iff_not,ne_eq,Int.not_lt,Int.not_le,ge_iff_le,gt_iff_lt,Int.toNat_zero,Int.toNat_one,Int.toNat_natCast] at * <;>first|omega|(refine ⟨?_,?_,?_,?_⟩<;>first|assumption|omega))
  have q:=he.2;refine Am A0 rfl rfl ⟨congrArg vb (decide_eq_true ⟨hq.1,hq.2.1,hq.2.2.1,hq.2.2.2.1,hq.2.2.2.2,?_,?_,?_,A4d (e▸he.1)⟩),trivial⟩
  all_goals (clear he hp hu hq;intros;simp only [beq_iff_eq,beq_eq_false_iff_ne,bne_iff_ne,bne_eq_false_iff_eq,Bool.not_eq_true',Bool.not_eq_false',Go.Sx.Al,Go.Sx.B4,decide_eq_true_eq,decide_eq_false_iff_not,ne_eq,Int.not_lt,Int.not_le,ge_iff_le,gt_iff_lt,Int.toNat_zero,Int.toNat_one,Int.toNat_natCast] at * <;>omega)
def Wv (g:Ah) (k:Int):Int:=(g.nodes.getD k.toNat default).kind
def Qs (g:Ah) (i:Nat) (x:Bw) (k:Int):Prop:=k<g.nodes.length∧(x.kind=7→k≤i∧(Wv g k=5∨Wv g k=6))∧(x.kind≠7→i<k)
instance (g:Ah) (i:Nat) (x:Bw) (k:Int):Decidable (Qs g i x k):=by unfold Qs;infer_instance
def Nj (g:Ah) (i:Nat):Prop:=Jv (g.nodes.getD i default)∧((g.nodes.getD i default).kind=1↔i=0)∧∀k∈(g.nodes.getD i default).outs,Qs g i (g.nodes.getD i default) k
instance (g:Ah) (i:Nat):Decidable (Nj g i):=by unfold Nj;infer_instance
def Ea (g:Ah):Prop:=(1≤g.nodes.length∧g.nodes.length≤8)∧(1≤g.workers∧g.workers≤4)∧(1≤g.cap∧g.cap≤4)∧∀i,i<g.nodes.length→Nj g i
instance (g:Ah):Decidable (Ea g):=by unfold Ea;infer_instance
def F1 (g:Ah):Bool:=decide (Ea g)
def Kc (p:Nat→Prop) (k:Nat):Prop:=∀i,i<k→p i
theorem Dz (p:Nat→Prop):Kc p 0:=fun i h=>absurd h (Nat.not_lt_zero i)
theorem Dy {p:Nat→Prop}{k:Nat}(h:Kc p k)(hk:p k):Kc p (k+1):=fun i hi=>by
 by_cases e:i=k
 ·subst e;exact hk
 exact h i Ad
theorem Hc {α:Type} [Inhabited α] {l:List α}{p:α→Prop}(h:Kc (fun i=>p (l.getD i default)) l.length):∀x∈l,p x:=fun x hx=>by
 obtain ⟨i,hi,e⟩:=List.getElem_of_mem hx
 have:p (l.getD i default):=h i hi
 rw [List.getD,List.getElem?_eq_getElem hi] at this;rw [←e];exact this
theorem Ah.nodes_le {g:Ah}{n:Nat}(h:g.w≤n):g.nodes.length≤n:=by
 have:g.nodes.length+(g.nodes.map Bw.w).sum≤n:=h
 omega
theorem Ah.node_le {g:Ah}{n:Nat}(h:g.w≤n){k:Nat}(hk:k<g.nodes.length):(g.nodes.getD k default).w≤n:=by
 have:g.nodes.length+(g.nodes.map Bw.w).sum≤n:=h
 have hle:=I5 Bw.w g.nodes k hk;omega
theorem B9f {z:Int}{k:Nat}(h:((z==1) !=((k:Int)==0))=true):¬ (z=1↔k=0):=by
 intro q
 by_cases e:k=0
 ·have:=q.2 e
  subst this;subst e;exact absurd h B5
 have e1:¬ z=1:=fun e2=>e (q.1 e2);rw [beq_eq_false_iff_ne.2 e1,beq_eq_false_iff_ne.2 (show (k:Int)≠0 by omega)] at h
 exact absurd h B5
theorem B9e {z:Int}{k:Nat}(h:((z==1) !=((k:Int)==0))=false):z=1↔k=0:=by
 have h:=bne_eq_false_iff_eq.1 h
 constructor
 ·intro e
  have h2:((k:Int)==0)=true:=by rw [←h,e];rfl
  have:=eq_of_beq h2
  omega
 intro e;have h2:(z==1)=true:=by rw [h,e];rfl
 exact eq_of_beq h2
theorem Iw (g:Ah)(hg:g.w≤16777216):B3 Tryz.prog 73 [.agg g.c] [.one (vb (F1 g))]:=by
 have hn:=Ah.nodes_le hg;have hu:=Dz (Nj g);refine Aw A0 false Tryz.func73 rfl B5 fun W=>?_;conv=>whnf
 repeat' (first|(refine L4 ?_;conv=>whnf)|(refine L5 ?_;conv=>whnf)|(refine ⟨fun h=>?_,fun h=>?_⟩<;>conv=>whnf)|(refine As (G9 _ _ _) rfl (A7 ?_))|(refine Ft ?_;conv=>whnf)|fail)
 all_goals try (refine Am A0 rfl rfl ⟨congrArg vb (decide_eq_false fun p=>?_),trivial⟩;have p1:=p.1;have p2:=p.2.1;have p3:=p.2.2.1;clear p;simp only [beq_iff_eq,beq_eq_false_iff_ne,bne_iff_ne,bne_eq_false_iff_eq,Bool.not_eq_true',Bool.not_eq_false',Go.Sx.Al,Go.Sx.B4,decide_eq_true_eq,decide_eq_false_iff_not,ne_eq,Int.not_lt,Int.not_le,ge_iff_le,gt_iff_lt,Int.toNat_zero,Int.toNat_one,Int.toNat_natCast] at * <;>omega)
 refine Bk A0 false [] (fun k:Nat=>[(3,.c (vi k))]) (fun k=>[⟨0,[.c (Bg g.nodes),.c (vi g.workers),.c (vi g.cap)]⟩]) (fun k=>[])
  (fun k=>k≤g.nodes.length∧Kc (Nj g) k) (fun k=>g.nodes.length-k) 0 ⟨Nat.zero_le _,by first|rfl|assumption|simp⟩ ⟨F0,trivial⟩ C2 trivial C1 A6 (fun k hk=>?_)
 obtain ⟨hk,he⟩:=hk;conv=>whnf
 refine Eo (fun h'=>?_) fun h'=>?_<;>conv=>whnf
 ·have h':k<g.nodes.length:=by omega
  have hw:=Ah.node_le hg h';have hq:(g.nodes.getD k default).outs.length≤16777216:=hw;have hv:=Dz (fun j=>Qs g k (g.nodes.getD k default) ((g.nodes.getD k default).outs.getD j default))
  repeat' (first|(refine L4 ?_;conv=>whnf)|(refine L5 ?_;conv=>whnf)|(refine ⟨fun h=>?_,fun h=>?_⟩<;>conv=>whnf)|(refine As (A2i (g.nodes.getD k default) hw) rfl (G3 ?_);conv=>whnf)|(refine Ft ?_;conv=>whnf)|fail)
  ·exact Am A0 rfl rfl ⟨congrArg vb (decide_eq_false fun p=>by rw [show Ma (g.nodes.getD k default)=true from decide_eq_true (p.2.2.2 k h').1] at h;exact absurd h B5),trivial⟩
  ·exact Am A0 rfl rfl ⟨congrArg vb (decide_eq_false fun p=>B9f h (p.2.2.2 k h').2.1),trivial⟩
  rename_i hno
  have hN:Jv (g.nodes.getD k default):=of_decide_eq_true (show Ma (g.nodes.getD k default)=true by cases hq2:Ma (g.nodes.getD k default)<;>simp_all only [Bool.not_false,Bool.true_eq_false])
  have hK:(g.nodes.getD k default).kind=1↔k=0:=B9e h;have hO:=hN.2.2.2.2.2.2.2.2
  refine Bk A0 false [] (fun j:Nat=>[(5,.c (vi j))]) (fun j=>[⟨0,[.c (Bg g.nodes),.c (vi g.workers),.c (vi g.cap)]⟩,⟨1,[.c (vi (g.nodes.getD k default).kind),.c (vi (g.nodes.getD k default).a),.c (vi (g.nodes.getD k default).b),.c (Bh (g.nodes.getD k default).outs)]⟩]) (fun j=>[])
   (fun j=>j≤(g.nodes.getD k default).outs.length∧Kc (fun j=>Qs g k (g.nodes.getD k default) ((g.nodes.getD k default).outs.getD j default)) j) (fun j=>(g.nodes.getD k default).outs.length-j) 0 ⟨Nat.zero_le _,by first|rfl|assumption|simp⟩ ⟨F0,trivial⟩ C2 trivial C1 A6 (fun j hj=>?_)
  obtain ⟨hj,hej⟩:=hj;conv=>whnf
  refine Eo (fun h2=>?_) fun h2=>?_<;>conv=>whnf
  ·have h2:j<(g.nodes.getD k default).outs.length:=by first|omega|(simp only [Int.toNat_natCast] at h2;omega)
   have hb:=hO _ (At (d:=default) h2)
   repeat' (first|(refine L4 ?_;conv=>whnf)|(refine L5 ?_;conv=>whnf)|(refine ⟨fun h=>?_,fun h=>?_⟩<;>conv=>whnf)|(refine Ft ?_;conv=>whnf)|fail)
   all_goals try (refine Am A0 rfl rfl ⟨congrArg vb (decide_eq_false fun p=>?_),trivial⟩;have q:=(p.2.2.2 k h').2.2 _ (At (d:=default) h2);clear p hej he hv hu hN hK hO;simp only [Qs,Wv] at q;simp only [beq_iff_eq,beq_eq_false_iff_ne,bne_iff_ne,bne_eq_false_iff_eq,Bool.not_eq_true',Bool.not_eq_false',Go.Sx.Al,Go.Sx.B4,decide_eq_true_eq,decide_eq_false_iff_not,ne_eq,Int.not_lt,Int.not_le,ge_iff_le,gt_iff_lt,Int.toNat_zero,Int.toNat_one,Int.toNat_natCast] at * <;>omega)
   all_goals
    refine Az [] (j+1) ⟨by omega,Dy hej (by clear hej he hv hu hN hK hO;simp only [Qs,Wv];simp only [beq_iff_eq,beq_eq_false_iff_ne,bne_iff_ne,bne_eq_false_iff_eq,Bool.not_eq_true',Bool.not_eq_false',Go.Sx.Al,Go.Sx.B4,decide_eq_true_eq,decide_eq_false_iff_not,ne_eq,Int.not_lt,Int.not_le,ge_iff_le,gt_iff_lt,Int.toNat_zero,Int.toNat_one,Int.toNat_natCast] at * <;>omega)⟩ Ad ⟨rfl,trivial⟩ trivial C2 A6 C1 A6
  have e:j=(g.nodes.getD k default).outs.length:=by first|omega|(simp only [Int.toNat_natCast] at h2;omega)
  (repeat refine Ap ?_);refine Az [] (k+1) ⟨by omega,Dy he ⟨hN,hK,Hc (e▸hej)⟩⟩ Ad ⟨rfl,trivial⟩ trivial C2 A6 C1 A6
 have e:k=g.nodes.length:=by omega
 exact Am A0 rfl rfl ⟨congrArg vb (decide_eq_true ⟨by simp only [beq_iff_eq,beq_eq_false_iff_ne,bne_iff_ne,bne_eq_false_iff_eq,Bool.not_eq_true',Bool.not_eq_false',Go.Sx.Al,Go.Sx.B4,decide_eq_true_eq,decide_eq_false_iff_not,ne_eq,Int.not_lt,Int.not_le,ge_iff_le,gt_iff_lt,Int.toNat_zero,Int.toNat_one,Int.toNat_natCast] at * <;>omega,by simp only [beq_iff_eq,beq_eq_false_iff_ne,bne_iff_ne,bne_eq_false_iff_eq,Bool.not_eq_true',Bool.not_eq_false',Go.Sx.Al,Go.Sx.B4,decide_eq_true_eq,decide_eq_false_iff_not,ne_eq,Int.not_lt,Int.not_le,ge_iff_le,gt_iff_lt,Int.toNat_zero,Int.toNat_one,Int.toNat_natCast] at * <;>omega,by simp only [beq_iff_eq,beq_eq_false_iff_ne,bne_iff_ne,bne_eq_false_iff_eq,Bool.not_eq_true',Bool.not_eq_false',Go.Sx.Al,Go.Sx.B4,decide_eq_true_eq,decide_eq_false_iff_not,ne_eq,Int.not_lt,Int.not_le,ge_iff_le,gt_iff_lt,Int.toNat_zero,Int.toNat_one,Int.toNat_natCast] at * <;>omega,e▸he⟩),trivial⟩
end Go.Proofs.YtdendlkeiaccpaaGreat
