/- Part 6 of the proof that each of the laws FnTight returns true for every input. No conditions. -/
import Derived.Test.YtonodkjaoalfjaaP3
import Derived.Test.YtonodkjaoalfjaaProg
import Derived.KernelRfl
import Derived.Test.YtonodkjaoalfjaaP4

set_option linter.unusedSimpArgs false
set_option linter.unusedVariables false
set_option maxRecDepth 100000
namespace Go.Proofs.Ytonodkjaoalfjaa
open Go.Sx
def tbl:List (TypeId×TI):=[
 (2,{agg:=false,size:=1,bytes:=8,zero:=[Value.int IntKind.i64 (0)],fields:=[],elem:=none,str:=false,flat:=some [CK.int IntKind.i64]}),
 (3,{agg:=false,size:=1,bytes:=8,zero:=[Value.int IntKind.i64 (0)],fields:=[],elem:=none,str:=false,flat:=some [CK.int IntKind.i64]}),
 (4,{agg:=false,size:=1,bytes:=1,zero:=[Value.bool false],fields:=[],elem:=none,str:=false,flat:=some [CK.bool]}),
 (5,{agg:=false,size:=1,bytes:=1,zero:=[Value.int IntKind.u8 (0)],fields:=[],elem:=none,str:=false,flat:=some [CK.int IntKind.u8]}),
 (9,{agg:=false,size:=1,bytes:=16,zero:=[Value.string ByteArray.empty],fields:=[],elem:=none,str:=true,flat:=none}),
 (12,{agg:=false,size:=1,bytes:=8,zero:=[Value.int IntKind.u64 (0)],fields:=[],elem:=none,str:=false,flat:=some [CK.int IntKind.u64]}),
 (21,{agg:=false,size:=1,bytes:=4,zero:=[Value.int IntKind.i32 (0)],fields:=[],elem:=none,str:=false,flat:=some [CK.int IntKind.i32]}),
 (22,{agg:=false,size:=1,bytes:=24,zero:=[Value.slice none 0 0],fields:=[],elem:=some 5,str:=false,flat:=none}),
 (24,{agg:=false,size:=1,bytes:=24,zero:=[Value.slice none 0 0],fields:=[],elem:=some 93,str:=false,flat:=none}),
 (25,{agg:=true,size:=3,bytes:=40,zero:=[Value.slice none 0 0,Value.int IntKind.i64 (0),Value.int IntKind.i64 (0)],fields:=[(0,24),(1,3),(2,3)],elem:=none,str:=false,flat:=none}),
 (26,{agg:=true,size:=3,bytes:=40,zero:=[Value.slice none 0 0,Value.int IntKind.i64 (0),Value.int IntKind.i64 (0)],fields:=[(0,24),(1,3),(2,3)],elem:=none,str:=false,flat:=none}),
 (27,{agg:=false,size:=1,bytes:=24,zero:=[Value.slice none 0 0],fields:=[],elem:=some 67,str:=false,flat:=none}),
 (28,{agg:=false,size:=1,bytes:=24,zero:=[Value.slice none 0 0],fields:=[],elem:=some 75,str:=false,flat:=none}),
 (31,{agg:=false,size:=1,bytes:=24,zero:=[Value.slice none 0 0],fields:=[],elem:=some 49,str:=false,flat:=none}),
 (32,{agg:=false,size:=1,bytes:=24,zero:=[Value.slice none 0 0],fields:=[],elem:=some 72,str:=false,flat:=none}),
 (33,{agg:=false,size:=1,bytes:=24,zero:=[Value.slice none 0 0],fields:=[],elem:=some 117,str:=false,flat:=none}),
 (34,{agg:=false,size:=1,bytes:=24,zero:=[Value.slice none 0 0],fields:=[],elem:=some 119,str:=false,flat:=none}),
 (35,{agg:=true,size:=7,bytes:=136,zero:=[Value.slice none 0 0,Value.int IntKind.i64 (0),Value.int IntKind.i64 (0),Value.slice none 0 0,Value.slice none 0 0,Value.slice none 0 0,Value.slice none 0 0],fields:=[(0,26),(3,31),(4,32),(5,33),(6,34)],elem:=none,str:=false,flat:=none}),
 (36,{agg:=true,size:=7,bytes:=136,zero:=[Value.slice none 0 0,Value.int IntKind.i64 (0),Value.int IntKind.i64 (0),Value.slice none 0 0,Value.slice none 0 0,Value.slice none 0 0,Value.slice none 0 0],fields:=[(0,26),(3,31),(4,32),(5,33),(6,34)],elem:=none,str:=false,flat:=none}),
 (41,{agg:=false,size:=1,bytes:=24,zero:=[Value.slice none 0 0],fields:=[],elem:=some 4,str:=false,flat:=none}),
 (45,{agg:=false,size:=1,bytes:=24,zero:=[Value.slice none 0 0],fields:=[],elem:=some 136,str:=false,flat:=none}),
 (46,{agg:=false,size:=1,bytes:=24,zero:=[Value.slice none 0 0],fields:=[],elem:=some 3,str:=false,flat:=none}),
 (47,{agg:=false,size:=1,bytes:=24,zero:=[Value.slice none 0 0],fields:=[],elem:=some 104,str:=false,flat:=none}),
 (48,{agg:=true,size:=8,bytes:=192,zero:=[Value.slice none 0 0,Value.slice none 0 0,Value.slice none 0 0,Value.slice none 0 0,Value.slice none 0 0,Value.slice none 0 0,Value.slice none 0 0,Value.slice none 0 0],fields:=[(0,27),(1,27),(2,27),(3,45),(4,46),(5,41),(6,41),(7,47)],elem:=none,str:=false,flat:=none}),
 (49,{agg:=true,size:=8,bytes:=192,zero:=[Value.slice none 0 0,Value.slice none 0 0,Value.slice none 0 0,Value.slice none 0 0,Value.slice none 0 0,Value.slice none 0 0,Value.slice none 0 0,Value.slice none 0 0],fields:=[(0,27),(1,27),(2,27),(3,45),(4,46),(5,41),(6,41),(7,47)],elem:=none,str:=false,flat:=none}),
 (57,{agg:=false,size:=1,bytes:=8,zero:=[Value.pointer none],fields:=[],elem:=none,str:=false,flat:=none}),
 (64,{agg:=true,size:=2,bytes:=16,zero:=[Value.int IntKind.i64 (0),Value.int IntKind.i64 (0)],fields:=[(0,3),(1,3)],elem:=none,str:=false,flat:=some [CK.int IntKind.i64,CK.int IntKind.i64]}),
 (65,{agg:=true,size:=2,bytes:=16,zero:=[Value.int IntKind.i64 (0),Value.int IntKind.i64 (0)],fields:=[(0,3),(1,3)],elem:=none,str:=false,flat:=some [CK.int IntKind.i64,CK.int IntKind.i64]}),
 (66,{agg:=true,size:=5,bytes:=40,zero:=[Value.int IntKind.i64 (0),Value.int IntKind.i64 (0),Value.int IntKind.i64 (0),Value.int IntKind.i64 (0),Value.int IntKind.i64 (0)],fields:=[(0,3),(1,65),(3,3),(4,3)],elem:=none,str:=false,flat:=some [CK.int IntKind.i64,CK.int IntKind.i64,CK.int IntKind.i64,CK.int IntKind.i64,CK.int IntKind.i64]}),
 (67,{agg:=true,size:=5,bytes:=40,zero:=[Value.int IntKind.i64 (0),Value.int IntKind.i64 (0),Value.int IntKind.i64 (0),Value.int IntKind.i64 (0),Value.int IntKind.i64 (0)],fields:=[(0,3),(1,65),(3,3),(4,3)],elem:=none,str:=false,flat:=some [CK.int IntKind.i64,CK.int IntKind.i64,CK.int IntKind.i64,CK.int IntKind.i64,CK.int IntKind.i64]}),
 (71,{agg:=true,size:=6,bytes:=64,zero:=[Value.int IntKind.i64 (0),Value.slice none 0 0,Value.int IntKind.i64 (0),Value.int IntKind.i64 (0),Value.int IntKind.i64 (0),Value.int IntKind.i64 (0)],fields:=[(0,3),(1,27),(2,3),(3,3),(4,3),(5,3)],elem:=none,str:=false,flat:=none}),
 (72,{agg:=true,size:=6,bytes:=64,zero:=[Value.int IntKind.i64 (0),Value.slice none 0 0,Value.int IntKind.i64 (0),Value.int IntKind.i64 (0),Value.int IntKind.i64 (0),Value.int IntKind.i64 (0)],fields:=[(0,3),(1,27),(2,3),(3,3),(4,3),(5,3)],elem:=none,str:=false,flat:=none}),
 (74,{agg:=true,size:=3,bytes:=24,zero:=[Value.int IntKind.i64 (0),Value.int IntKind.i64 (0),Value.int IntKind.i64 (0)],fields:=[(0,3),(1,3),(2,3)],elem:=none,str:=false,flat:=some [CK.int IntKind.i64,CK.int IntKind.i64,CK.int IntKind.i64]}),
 (75,{agg:=true,size:=3,bytes:=24,zero:=[Value.int IntKind.i64 (0),Value.int IntKind.i64 (0),Value.int IntKind.i64 (0)],fields:=[(0,3),(1,3),(2,3)],elem:=none,str:=false,flat:=some [CK.int IntKind.i64,CK.int IntKind.i64,CK.int IntKind.i64]}),
 (78,{agg:=false,size:=1,bytes:=8,zero:=[Value.pointer none],fields:=[],elem:=none,str:=false,flat:=none}),
 (81,{agg:=true,size:=8,bytes:=144,zero:=[Value.slice none 0 0,Value.int IntKind.i64 (0),Value.int IntKind.i64 (0),Value.slice none 0 0,Value.slice none 0 0,Value.slice none 0 0,Value.slice none 0 0,Value.bool false],fields:=[(0,36),(7,4)],elem:=none,str:=false,flat:=none}),
 (82,{agg:=true,size:=8,bytes:=144,zero:=[Value.slice none 0 0,Value.int IntKind.i64 (0),Value.int IntKind.i64 (0),Value.slice none 0 0,Value.slice none 0 0,Value.slice none 0 0,Value.slice none 0 0,Value.bool false],fields:=[(0,36),(7,4)],elem:=none,str:=false,flat:=none}),
 (89,{agg:=true,size:=3,bytes:=40,zero:=[Value.slice none 0 0,Value.int IntKind.i64 (0),Value.int IntKind.i64 (0)],fields:=[(0,22),(1,3),(2,3)],elem:=none,str:=false,flat:=none}),
 (90,{agg:=true,size:=3,bytes:=40,zero:=[Value.slice none 0 0,Value.int IntKind.i64 (0),Value.int IntKind.i64 (0)],fields:=[(0,22),(1,3),(2,3)],elem:=none,str:=false,flat:=none}),
 (92,{agg:=true,size:=4,bytes:=48,zero:=[Value.int IntKind.i64 (0),Value.int IntKind.i64 (0),Value.int IntKind.i64 (0),Value.slice none 0 0],fields:=[(0,3),(1,3),(2,3),(3,46)],elem:=none,str:=false,flat:=none}),
 (93,{agg:=true,size:=4,bytes:=48,zero:=[Value.int IntKind.i64 (0),Value.int IntKind.i64 (0),Value.int IntKind.i64 (0),Value.slice none 0 0],fields:=[(0,3),(1,3),(2,3),(3,46)],elem:=none,str:=false,flat:=none}),
 (103,{agg:=true,size:=2,bytes:=16,zero:=[Value.int IntKind.i64 (0),Value.bool false],fields:=[(0,3),(1,4)],elem:=none,str:=false,flat:=some [CK.int IntKind.i64,CK.bool]}),
 (104,{agg:=true,size:=2,bytes:=16,zero:=[Value.int IntKind.i64 (0),Value.bool false],fields:=[(0,3),(1,4)],elem:=none,str:=false,flat:=some [CK.int IntKind.i64,CK.bool]}),
 (116,{agg:=true,size:=5,bytes:=32,zero:=[Value.bool false,Value.int IntKind.i64 (0),Value.int IntKind.i64 (0),Value.bool false,Value.bool false],fields:=[(0,4),(1,3),(2,3),(3,4),(4,4)],elem:=none,str:=false,flat:=some [CK.bool,CK.int IntKind.i64,CK.int IntKind.i64,CK.bool,CK.bool]}),
 (117,{agg:=true,size:=5,bytes:=32,zero:=[Value.bool false,Value.int IntKind.i64 (0),Value.int IntKind.i64 (0),Value.bool false,Value.bool false],fields:=[(0,4),(1,3),(2,3),(3,4),(4,4)],elem:=none,str:=false,flat:=some [CK.bool,CK.int IntKind.i64,CK.int IntKind.i64,CK.bool,CK.bool]}),
 (118,{agg:=true,size:=3,bytes:=24,zero:=[Value.int IntKind.i64 (0),Value.int IntKind.i64 (0),Value.bool false],fields:=[(0,3),(1,3),(2,4)],elem:=none,str:=false,flat:=some [CK.int IntKind.i64,CK.int IntKind.i64,CK.bool]}),
 (119,{agg:=true,size:=3,bytes:=24,zero:=[Value.int IntKind.i64 (0),Value.int IntKind.i64 (0),Value.bool false],fields:=[(0,3),(1,3),(2,4)],elem:=none,str:=false,flat:=some [CK.int IntKind.i64,CK.int IntKind.i64,CK.bool]}),
 (127,{agg:=false,size:=1,bytes:=8,zero:=[Value.int IntKind.u64 (0)],fields:=[],elem:=none,str:=false,flat:=some [CK.int IntKind.u64]}),
 (135,{agg:=true,size:=4,bytes:=32,zero:=[Value.int IntKind.i64 (0),Value.int IntKind.i64 (0),Value.int IntKind.i64 (0),Value.int IntKind.i64 (0)],fields:=[(0,3),(1,3),(2,3),(3,3)],elem:=none,str:=false,flat:=some [CK.int IntKind.i64,CK.int IntKind.i64,CK.int IntKind.i64,CK.int IntKind.i64]}),
 (136,{agg:=true,size:=4,bytes:=32,zero:=[Value.int IntKind.i64 (0),Value.int IntKind.i64 (0),Value.int IntKind.i64 (0),Value.int IntKind.i64 (0)],fields:=[(0,3),(1,3),(2,3),(3,3)],elem:=none,str:=false,flat:=some [CK.int IntKind.i64,CK.int IntKind.i64,CK.int IntKind.i64,CK.int IntKind.i64]}),
 (153,{agg:=false,size:=1,bytes:=4,zero:=[Value.int IntKind.u32 (0)],fields:=[],elem:=none,str:=false,flat:=some [CK.int IntKind.u32]}),
 (157,{agg:=false,size:=1,bytes:=8,zero:=[Value.pointer none],fields:=[],elem:=none,str:=false,flat:=none})]
theorem A0:Bv Try.prog tbl:=
 (.cons A6 (.cons A6 (.cons A6 (.cons A6 (.cons A6 (.cons A6 (.cons A6 (.cons A6 (.cons A6 (.cons A6 (.cons A6 (.cons A6 (.cons A6 (.cons A6 (.cons A6 (.cons A6 (.cons A6 (.cons A6 (.cons A6 (.cons A6 (.cons A6 (.cons A6 (.cons A6 (.cons A6 (.cons A6 (.cons A6 (.cons A6 (.cons A6 (.cons A6 (.cons A6 (.cons A6 (.cons A6 (.cons A6 (.cons A6 (.cons A6 (.cons A6 (.cons A6 (.cons A6 (.cons A6 (.cons A6 (.cons A6 (.cons A6 (.cons A6 (.cons A6 (.cons A6 (.cons A6 (.cons A6 (.cons A6 (.cons A6 (.cons A6 (.cons A6 (.cons A6 .nil))))))))))))))))))))))))))))))))))))))))))))))))))))
structure Us (R:Prop):Prop where
 get:R
theorem A7g {p q:Prop}(hq:q)(hp:p:=by first|omega|(show _∧_;omega)|decide):p∧q:=⟨hp,hq⟩
theorem A7h {p q:Prop}(hq:q)(hp:p:=by first|omega|(show _∧_;omega)|(simp only [List.length_set];omega)|decide):p∧q:=⟨hp,hq⟩
theorem Bg {X Y R:Prop}(r:R)(h:Us R→X∧Y:=by intro r;(first|refine skf ?_|refine skt ?_|refine He ?_);(conv=>whnf);exact r.get):X∧Y:=h ⟨r⟩
theorem Ak {X Y R:Prop}(r:R)(h:Us R→X∧Y:=by intro r;refine He ?_;(conv=>whnf);exact r.get):X∧Y:=h ⟨r⟩
theorem ndV {X Y R:Prop}(r:R)(h:Us R→X∧Y:=by intro r;refine A7g ?_;(conv=>whnf);exact r.get):X∧Y:=h ⟨r⟩
theorem ndU {X Y R:Prop}(r:R)(h:Us R→X∧Y:=by intro r;refine A7h ?_;(conv=>whnf);exact r.get):X∧Y:=h ⟨r⟩
theorem J4 {B:Am}{Q:Exit→Act→World→Prop}{K:List KI}{s:AS}(h:Un Try.prog B Q (Kv tbl false 100000 K s)):GW Try.prog B Q K s:=go A0 false h
theorem Af {B:Am}{Q:Exit→Act→World→Prop}{K:List KI}{s:AS}{R:Prop}(r:R)(h:Us R→GW Try.prog B Q K s:=by intro r;refine go A0 false ?_;(conv=>whnf);exact r.get):GW Try.prog B Q K s:=h ⟨r⟩
theorem G2 {P p q:Prop} [Decidable P] (h:P→p)(g:¬P→q):(decide P=true→p)∧(decide P=false→q):=⟨fun e=>h (of_decide_eq_true e),fun e=>g (of_decide_eq_false e)⟩
theorem Er (n lo hi:Int):Bp Try.prog 49 [.one (vi n),.one (vi lo),.one (vi hi)] [.one (vb (Ek n lo hi))]:=by
 refine Bm A0 false Try.func49 rfl Cb fun W=>?_
 conv=>whnf
 repeat' (first|(refine L9 ?_;conv=>whnf)|(refine La ?_;conv=>whnf)|(refine ⟨fun h=>?_,fun h=>?_⟩<;>conv=>whnf)|(refine B1 A0 rfl rfl ⟨?_,trivial⟩;conv=>whnf)|(refine He ?_;conv=>whnf)|fail)
 all_goals (refine congrArg vb ?_;simp_all [Ek]<;>omega)
theorem B4i (n lo hi:Int):Bp Try.prog 61 [.one (vi n),.one (vi lo),.one (vi hi)] [.one (vb (Ek n lo hi))]:=by
 refine Bm A0 false Try.func61 rfl Cb fun W=>?_
 conv=>whnf
 repeat' (first|(refine L9 ?_;conv=>whnf)|(refine La ?_;conv=>whnf)|(refine ⟨fun h=>?_,fun h=>?_⟩<;>conv=>whnf)|(refine B1 A0 rfl rfl ⟨?_,trivial⟩;conv=>whnf)|(refine He ?_;conv=>whnf)|fail)
 all_goals (refine congrArg vb ?_;simp_all [Ek]<;>omega)
def Gt (r:Ac):Prop:=(0≤r.op∧r.op≤7)∧(0≤r.stamp.epoch∧r.stamp.epoch≤3)∧(0≤r.stamp.turn∧r.stamp.turn≤6)∧(0≤r.key∧r.key≤99)∧(0≤r.val∧r.val≤999)
instance (r:Ac):Decidable (Gt r):=by unfold Gt;infer_instance
def Gp (r:Ac):Bool:=decide (Gt r)
theorem N6 (r:Ac):Gp r=true↔(0≤r.op∧r.op≤7)∧(0≤r.stamp.epoch∧r.stamp.epoch≤3)∧(0≤r.stamp.turn∧r.stamp.turn≤6)∧(0≤r.key∧r.key≤99)∧(0≤r.val∧r.val≤999):=decide_eq_true_iff
def Hr (s:E9):Bool:=decide ((0≤s.epoch∧s.epoch≤3)∧(0≤s.turn∧s.turn≤6))
theorem P8 (s:E9):Bp Try.prog 51 [.agg s.c] [.one (vb (Hr s))]:=by
 refine Bm A0 false Try.func51 rfl Cb fun W=>?_
 conv=>whnf
 repeat' (first|(refine L9 ?_;conv=>whnf)|(refine La ?_;conv=>whnf)|(refine ⟨fun h=>?_,fun h=>?_⟩<;>conv=>whnf)|(refine B7 (Er _ _ _) rfl (Af ?_))|(refine Hf ?_;conv=>whnf)|fail)
 all_goals (refine B1 A0 rfl rfl ⟨congrArg vb ?_,trivial⟩;(rw [Bool.eq_iff_iff];simp only [N6,Hr,beq_iff_eq,beq_eq_false_iff_ne,bne_iff_ne,bne_eq_false_iff_eq,Bool.not_eq_true',Bool.not_eq_false',Go.Sx.Al,Go.Sx.B3,decide_eq_true_eq,decide_eq_false_iff_not,Bool.false_eq_true,iff_false,false_iff,iff_true,true_iff,ne_eq] at * <;>omega))
theorem Ft (r:Ac):Bp Try.prog 26 [.agg r.c] [.one (vb (Gp r))]:=by
 refine Bm A0 false Try.func26 rfl Cb fun W=>?_
 conv=>whnf
 repeat' (first|(refine L9 ?_;conv=>whnf)|(refine La ?_;conv=>whnf)|(refine ⟨fun h=>?_,fun h=>?_⟩<;>conv=>whnf)|(refine B7 (Er _ _ _) rfl (Af ?_))|(refine B7 (P8 r.stamp) rfl (Af ?_))|(refine Hf ?_;conv=>whnf)|fail)
 all_goals (refine B1 A0 rfl rfl ⟨congrArg vb ?_,trivial⟩;(rw [Bool.eq_iff_iff];simp only [N6,Hr,beq_iff_eq,beq_eq_false_iff_ne,bne_iff_ne,bne_eq_false_iff_eq,Bool.not_eq_true',Bool.not_eq_false',Go.Sx.Al,Go.Sx.B3,decide_eq_true_eq,decide_eq_false_iff_not,Bool.false_eq_true,iff_false,false_iff,iff_true,true_iff,ne_eq] at * <;>omega))
def J6 (a b:Int):Int:=if a<b then-1 else if a>b then 1 else 0
def Tw:List Int→List Int→Int
 |a::x,b::y=>if J6 a b=0 then Tw x y else J6 a b
 |_,_=>0
theorem A02 (a b:Int):Bp Try.prog 94 [.one (vi a),.one (vi b)] [.one (vi (J6 a b))]:=by
 refine Bm A0 false Try.func94 rfl Cb fun W=>?_
 conv=>whnf
 refine G2 (fun h=>?_) fun h=>?_<;>conv=>whnf
 ·exact B1 A0 rfl rfl ⟨congrArg vi (by rw [J6,if_pos h]),trivial⟩
 ·refine G2 (fun h2=>?_) fun h2=>?_<;>conv=>whnf
  ·exact B1 A0 rfl rfl ⟨congrArg vi (by rw [J6,if_neg h,if_pos h2]),trivial⟩
  ·exact B1 A0 rfl rfl ⟨congrArg vi (by rw [J6,if_neg h,if_neg h2]),trivial⟩
def Mo (x:Ax):List Int:=[x.epoch,x.op,x.key,x.val]
def Hj (a b:Ax):Int:=Tw (Mo a) (Mo b)
def Zr (a b:Ax):List Int:=[J6 a.epoch b.epoch,J6 a.op b.op,J6 a.key b.key,J6 a.val b.val]
theorem Qj:∀(l m:List Int) (k:Nat),(∀i,i<k→J6 (l.getD i default) (m.getD i default)=0)→l.length=m.length→k<l.length→J6 (l.getD k default) (m.getD k default)≠0→Tw l m=J6 (l.getD k default) (m.getD k default)
 | [],_,_,_,_,h,_=>by simp at h
 |_::_,[],_,_,h,_,_=>by simp at h
 |a::x,b::y,0,_,_,_,h=>by rw [Tw,if_neg (show ¬ J6 a b=0 from h)];rfl
 |a::x,b::y,k+1,h0,hl,hk,h=>by
  have:=h0 0 Ag
  rw [Tw,if_pos (show J6 a b=0 from this)]
  exact Qj x y k (fun i hi=>h0 (i+1) Ag) (by simpa using hl) (by simpa using hk) h
theorem Sq:∀(l m:List Int),(∀i,i<l.length→J6 (l.getD i default) (m.getD i default)=0)→l.length=m.length→Tw l m=0
 | [],_,_,_=>by rw [Tw];simp
 |_::_,[],_,h=>by simp at h
 |a::x,b::y,h0,hl=>by
  have:=h0 0 Bq
  rw [Tw,if_pos (show J6 a b=0 from this)]
  exact Sq x y (fun i hi=>h0 (i+1) (by simpa using hi)) (by simpa using hl)
theorem Ll (a b:Ax):Bp Try.prog 88 [.agg a.c,.agg b.c] [.one (vi (Hj a b))]:=by
 refine Bm A0 false Try.func88 rfl Cb fun W=>?_
 conv=>whnf
 repeat' (first|(refine L9 ?_;conv=>whnf)|(refine La ?_;conv=>whnf)|(refine ⟨fun h=>?_,fun h=>?_⟩<;>conv=>whnf)|(refine B7 (A02 _ _) rfl (Af ?_))|(refine Hf ?_;conv=>whnf)|(refine At 1 rfl [0,1,2,3,5,6,7,8,10,11,12,13,15,16,17,18,4,9,14,19,20,21] A6 (Af ?_))|fail)
 refine Du 2 (Ds (Zr a b)) rfl (Cn rfl D8) ?_
 refine Cc A0 false [] (fun k:Nat=>[(6,.c (vi k))]) (fun k=>[]) (fun k=>[⟨2,Ds (Zr a b)⟩])
  (fun k=>k≤4∧∀i,i<k→(Zr a b).getD i default=0) (fun k=>4-k) 0 ⟨Nat.zero_le _,by first|rfl|assumption|simp⟩ ⟨by first|rfl|simp [Dc,ren2,ren1,ren0],trivial⟩ trivial ⟨by first|rfl|exact (congrArg (fun l=>Dz _ _ l) (List.append_nil _)).symm|(show (_:A7)=_;simp)|simp,trivial⟩ Dg A6 (fun k hk=>?_)
 obtain ⟨hk,he⟩:=hk
 conv=>whnf
 refine G2 (fun h=>?_) fun h=>?_<;>conv=>whnf
 ·have h:k<4:=by omega
  have hk:(Zr a b).length=4:=rfl
  have hq:∀i,i<4→(Zr a b).getD i default=J6 ((Mo a).getD i default) ((Mo b).getD i default):=fun i hi=>by
   match i,hi with
   | 0,_=>rfl
   | 1,_=>rfl
   | 2,_=>rfl
   | 3,_=>rfl
  (repeat refine Ak ?_)
  refine ⟨fun h3=>have h3:=bne_iff_ne.1 h3;?_,fun h3=>have h3:=bne_eq_false_iff_eq.1 h3;?_⟩<;>conv=>whnf
  ·(repeat refine Ak ?_)
   exact B1 A0 rfl rfl ⟨congrArg vi ((Qj _ _ k (fun i hi=>(hq i Ag).symm.trans (he i hi)) rfl h (by rw [←hq k h];exact h3)).trans (hq k h).symm),trivial⟩
  ·(repeat refine Ak ?_)
   refine B8 [] (k+1) ⟨by omega,fun i hi=>(Nat.lt_succ_iff_lt_or_eq.1 hi).elim (fun h4=>he i h4) (fun h4=>h4▸h3)⟩ Ag ⟨rfl,trivial⟩ ⟨rfl,trivial⟩ trivial A6 Dg A6
 ·have hq:∀i,i<4→(Zr a b).getD i default=J6 ((Mo a).getD i default) ((Mo b).getD i default):=fun i hi=>by
   match i,hi with
   | 0,_=>rfl
   | 1,_=>rfl
   | 2,_=>rfl
   | 3,_=>rfl
  exact B1 A0 rfl rfl ⟨congrArg vi (Sq (Mo a) (Mo b) (fun i hi=>(hq i hi).symm.trans (he i (by have:i<4:=hi;omega))) rfl),trivial⟩
def Hw (x:C3):Prop:=(1≤x.kind∧x.kind≤8)∧(x.kind=2→0≤x.a∧x.a≤999∧x.b=0)∧(x.kind=3→1≤x.a∧x.a≤10∧0≤x.b∧x.b≤x.a-1)∧(x.kind=4→0≤x.a∧x.a≤99∧x.b=0)∧
 (x.kind≠2→x.kind≠3→x.kind≠4→x.a=0∧x.b=0)∧x.outs.length≤2∧(x.kind=8→x.outs.length=0)∧(x.outs.length=2→x.outs.getD 0 default≠x.outs.getD 1 default)∧(∀n∈x.outs,0≤n∧n≤7)
instance (x:C3):Decidable (Hw x):=by unfold Hw;infer_instance
def O2 (x:C3):Bool:=decide (Hw x)
def Uu (l:List Int) (k:Nat):Prop:=∀i,i<k→0≤l.getD i default∧l.getD i default≤7
theorem Wz {l:List Int}{k:Nat}(h:Uu l k)(h1:0≤l.getD k default)(h2:l.getD k default≤7):Uu l (k+1):=fun i hi=>by
 by_cases e:i=k
 ·subst e;exact ⟨h1,h2⟩
 ·exact h i Ag
theorem A0r {l:List Int}(h:Uu l l.length):∀n∈l,0≤n∧n≤7:=fun n hn=>by
 obtain ⟨i,hi,e⟩:=List.getElem_of_mem hn
 have:=h i hi
 rw [List.getD,List.getElem?_eq_getElem hi] at this
 rw [←e];exact this
def Xw (x:C3):Prop:=(1≤x.kind∧x.kind≤8)∧(x.kind=2→0≤x.a∧x.a≤999∧x.b=0)∧(x.kind=3→1≤x.a∧x.a≤10∧0≤x.b∧x.b≤x.a-1)∧(x.kind=4→0≤x.a∧x.a≤99∧x.b=0)∧
 (x.kind≠2→x.kind≠3→x.kind≠4→x.a=0∧x.b=0)
theorem Hw.pars {x:C3}(h:Hw x):Xw x:=⟨h.1,h.2.1,h.2.2.1,h.2.2.2.1,h.2.2.2.2.1⟩
end Go.Proofs.Ytonodkjaoalfjaa
