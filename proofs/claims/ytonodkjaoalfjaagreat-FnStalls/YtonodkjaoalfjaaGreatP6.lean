/- Part 6 of the proof that each of the laws FnStalls returns true for every input. No conditions. -/
import Derived.Test.YtonodkjaoalfjaaGreatP3
import Derived.Test.YtonodkjaoalfjaaGreatProg
import Derived.KernelRfl
import Derived.Test.YtonodkjaoalfjaaGreatP4

set_option linter.unusedSimpArgs false
set_option linter.unusedVariables false
set_option maxRecDepth 100000
namespace Go.Proofs.YtonodkjaoalfjaaGreat
open Go.Sx
def tbl:List (TypeId×TI):=[
 (2,{agg:=false,size:=1,bytes:=8,zero:=[Value.int IntKind.i64 (0)],fields:=[],elem:=none,str:=false,flat:=some [CK.int IntKind.i64]}),
 (3,{agg:=false,size:=1,bytes:=8,zero:=[Value.int IntKind.i64 (0)],fields:=[],elem:=none,str:=false,flat:=some [CK.int IntKind.i64]}),
 (4,{agg:=false,size:=1,bytes:=1,zero:=[Value.bool false],fields:=[],elem:=none,str:=false,flat:=some [CK.bool]}),
 (5,{agg:=false,size:=1,bytes:=1,zero:=[Value.int IntKind.u8 (0)],fields:=[],elem:=none,str:=false,flat:=some [CK.int IntKind.u8]}),
 (9,{agg:=false,size:=1,bytes:=16,zero:=[Value.string ByteArray.empty],fields:=[],elem:=none,str:=true,flat:=none}),
 (12,{agg:=false,size:=1,bytes:=8,zero:=[Value.int IntKind.u64 (0)],fields:=[],elem:=none,str:=false,flat:=some [CK.int IntKind.u64]}),
 (21,{agg:=false,size:=1,bytes:=4,zero:=[Value.int IntKind.i32 (0)],fields:=[],elem:=none,str:=false,flat:=some [CK.int IntKind.i32]}),
 (22,{agg:=false,size:=1,bytes:=24,zero:=[Value.slice none 0 0],fields:=[],elem:=some 5,str:=false,flat:=none}),
 (24,{agg:=false,size:=1,bytes:=24,zero:=[Value.slice none 0 0],fields:=[],elem:=some 62,str:=false,flat:=none}),
 (25,{agg:=true,size:=3,bytes:=40,zero:=[Value.slice none 0 0,Value.int IntKind.i64 (0),Value.int IntKind.i64 (0)],fields:=[(0,24),(1,3),(2,3)],elem:=none,str:=false,flat:=none}),
 (26,{agg:=true,size:=3,bytes:=40,zero:=[Value.slice none 0 0,Value.int IntKind.i64 (0),Value.int IntKind.i64 (0)],fields:=[(0,24),(1,3),(2,3)],elem:=none,str:=false,flat:=none}),
 (27,{agg:=false,size:=1,bytes:=24,zero:=[Value.slice none 0 0],fields:=[],elem:=some 66,str:=false,flat:=none}),
 (28,{agg:=false,size:=1,bytes:=24,zero:=[Value.slice none 0 0],fields:=[],elem:=some 126,str:=false,flat:=none}),
 (31,{agg:=false,size:=1,bytes:=24,zero:=[Value.slice none 0 0],fields:=[],elem:=some 50,str:=false,flat:=none}),
 (32,{agg:=false,size:=1,bytes:=24,zero:=[Value.slice none 0 0],fields:=[],elem:=some 88,str:=false,flat:=none}),
 (33,{agg:=false,size:=1,bytes:=24,zero:=[Value.slice none 0 0],fields:=[],elem:=some 103,str:=false,flat:=none}),
 (34,{agg:=false,size:=1,bytes:=24,zero:=[Value.slice none 0 0],fields:=[],elem:=some 120,str:=false,flat:=none}),
 (35,{agg:=true,size:=7,bytes:=136,zero:=[Value.slice none 0 0,Value.int IntKind.i64 (0),Value.int IntKind.i64 (0),Value.slice none 0 0,Value.slice none 0 0,Value.slice none 0 0,Value.slice none 0 0],fields:=[(0,26),(3,31),(4,32),(5,33),(6,34)],elem:=none,str:=false,flat:=none}),
 (36,{agg:=true,size:=7,bytes:=136,zero:=[Value.slice none 0 0,Value.int IntKind.i64 (0),Value.int IntKind.i64 (0),Value.slice none 0 0,Value.slice none 0 0,Value.slice none 0 0,Value.slice none 0 0],fields:=[(0,26),(3,31),(4,32),(5,33),(6,34)],elem:=none,str:=false,flat:=none}),
 (41,{agg:=true,size:=2,bytes:=16,zero:=[Value.int IntKind.i64 (0),Value.bool false],fields:=[(0,3),(1,4)],elem:=none,str:=false,flat:=some [CK.int IntKind.i64,CK.bool]}),
 (42,{agg:=true,size:=2,bytes:=16,zero:=[Value.int IntKind.i64 (0),Value.bool false],fields:=[(0,3),(1,4)],elem:=none,str:=false,flat:=some [CK.int IntKind.i64,CK.bool]}),
 (45,{agg:=false,size:=1,bytes:=24,zero:=[Value.slice none 0 0],fields:=[],elem:=some 94,str:=false,flat:=none}),
 (46,{agg:=false,size:=1,bytes:=24,zero:=[Value.slice none 0 0],fields:=[],elem:=some 3,str:=false,flat:=none}),
 (47,{agg:=false,size:=1,bytes:=24,zero:=[Value.slice none 0 0],fields:=[],elem:=some 4,str:=false,flat:=none}),
 (48,{agg:=false,size:=1,bytes:=24,zero:=[Value.slice none 0 0],fields:=[],elem:=some 42,str:=false,flat:=none}),
 (49,{agg:=true,size:=8,bytes:=192,zero:=[Value.slice none 0 0,Value.slice none 0 0,Value.slice none 0 0,Value.slice none 0 0,Value.slice none 0 0,Value.slice none 0 0,Value.slice none 0 0,Value.slice none 0 0],fields:=[(0,27),(1,27),(2,27),(3,45),(4,46),(5,47),(6,47),(7,48)],elem:=none,str:=false,flat:=none}),
 (50,{agg:=true,size:=8,bytes:=192,zero:=[Value.slice none 0 0,Value.slice none 0 0,Value.slice none 0 0,Value.slice none 0 0,Value.slice none 0 0,Value.slice none 0 0,Value.slice none 0 0,Value.slice none 0 0],fields:=[(0,27),(1,27),(2,27),(3,45),(4,46),(5,47),(6,47),(7,48)],elem:=none,str:=false,flat:=none}),
 (61,{agg:=true,size:=4,bytes:=48,zero:=[Value.int IntKind.i64 (0),Value.int IntKind.i64 (0),Value.int IntKind.i64 (0),Value.slice none 0 0],fields:=[(0,3),(1,3),(2,3),(3,46)],elem:=none,str:=false,flat:=none}),
 (62,{agg:=true,size:=4,bytes:=48,zero:=[Value.int IntKind.i64 (0),Value.int IntKind.i64 (0),Value.int IntKind.i64 (0),Value.slice none 0 0],fields:=[(0,3),(1,3),(2,3),(3,46)],elem:=none,str:=false,flat:=none}),
 (63,{agg:=true,size:=2,bytes:=16,zero:=[Value.int IntKind.i64 (0),Value.int IntKind.i64 (0)],fields:=[(0,3),(1,3)],elem:=none,str:=false,flat:=some [CK.int IntKind.i64,CK.int IntKind.i64]}),
 (64,{agg:=true,size:=2,bytes:=16,zero:=[Value.int IntKind.i64 (0),Value.int IntKind.i64 (0)],fields:=[(0,3),(1,3)],elem:=none,str:=false,flat:=some [CK.int IntKind.i64,CK.int IntKind.i64]}),
 (65,{agg:=true,size:=5,bytes:=40,zero:=[Value.int IntKind.i64 (0),Value.int IntKind.i64 (0),Value.int IntKind.i64 (0),Value.int IntKind.i64 (0),Value.int IntKind.i64 (0)],fields:=[(0,3),(1,64),(3,3),(4,3)],elem:=none,str:=false,flat:=some [CK.int IntKind.i64,CK.int IntKind.i64,CK.int IntKind.i64,CK.int IntKind.i64,CK.int IntKind.i64]}),
 (66,{agg:=true,size:=5,bytes:=40,zero:=[Value.int IntKind.i64 (0),Value.int IntKind.i64 (0),Value.int IntKind.i64 (0),Value.int IntKind.i64 (0),Value.int IntKind.i64 (0)],fields:=[(0,3),(1,64),(3,3),(4,3)],elem:=none,str:=false,flat:=some [CK.int IntKind.i64,CK.int IntKind.i64,CK.int IntKind.i64,CK.int IntKind.i64,CK.int IntKind.i64]}),
 (69,{agg:=false,size:=1,bytes:=24,zero:=[Value.slice none 0 0],fields:=[],elem:=some 113,str:=false,flat:=none}),
 (76,{agg:=false,size:=1,bytes:=8,zero:=[Value.pointer none],fields:=[],elem:=none,str:=false,flat:=none}),
 (87,{agg:=true,size:=6,bytes:=64,zero:=[Value.int IntKind.i64 (0),Value.slice none 0 0,Value.int IntKind.i64 (0),Value.int IntKind.i64 (0),Value.int IntKind.i64 (0),Value.int IntKind.i64 (0)],fields:=[(0,3),(1,27),(2,3),(3,3),(4,3),(5,3)],elem:=none,str:=false,flat:=none}),
 (88,{agg:=true,size:=6,bytes:=64,zero:=[Value.int IntKind.i64 (0),Value.slice none 0 0,Value.int IntKind.i64 (0),Value.int IntKind.i64 (0),Value.int IntKind.i64 (0),Value.int IntKind.i64 (0)],fields:=[(0,3),(1,27),(2,3),(3,3),(4,3),(5,3)],elem:=none,str:=false,flat:=none}),
 (93,{agg:=true,size:=4,bytes:=32,zero:=[Value.int IntKind.i64 (0),Value.int IntKind.i64 (0),Value.int IntKind.i64 (0),Value.int IntKind.i64 (0)],fields:=[(0,3),(1,3),(2,3),(3,3)],elem:=none,str:=false,flat:=some [CK.int IntKind.i64,CK.int IntKind.i64,CK.int IntKind.i64,CK.int IntKind.i64]}),
 (94,{agg:=true,size:=4,bytes:=32,zero:=[Value.int IntKind.i64 (0),Value.int IntKind.i64 (0),Value.int IntKind.i64 (0),Value.int IntKind.i64 (0)],fields:=[(0,3),(1,3),(2,3),(3,3)],elem:=none,str:=false,flat:=some [CK.int IntKind.i64,CK.int IntKind.i64,CK.int IntKind.i64,CK.int IntKind.i64]}),
 (102,{agg:=true,size:=5,bytes:=32,zero:=[Value.bool false,Value.int IntKind.i64 (0),Value.int IntKind.i64 (0),Value.bool false,Value.bool false],fields:=[(0,4),(1,3),(2,3),(3,4),(4,4)],elem:=none,str:=false,flat:=some [CK.bool,CK.int IntKind.i64,CK.int IntKind.i64,CK.bool,CK.bool]}),
 (103,{agg:=true,size:=5,bytes:=32,zero:=[Value.bool false,Value.int IntKind.i64 (0),Value.int IntKind.i64 (0),Value.bool false,Value.bool false],fields:=[(0,4),(1,3),(2,3),(3,4),(4,4)],elem:=none,str:=false,flat:=some [CK.bool,CK.int IntKind.i64,CK.int IntKind.i64,CK.bool,CK.bool]}),
 (105,{agg:=false,size:=1,bytes:=8,zero:=[Value.pointer none],fields:=[],elem:=none,str:=false,flat:=none}),
 (108,{agg:=true,size:=8,bytes:=144,zero:=[Value.slice none 0 0,Value.int IntKind.i64 (0),Value.int IntKind.i64 (0),Value.slice none 0 0,Value.slice none 0 0,Value.slice none 0 0,Value.slice none 0 0,Value.bool false],fields:=[(0,36),(7,4)],elem:=none,str:=false,flat:=none}),
 (109,{agg:=true,size:=8,bytes:=144,zero:=[Value.slice none 0 0,Value.int IntKind.i64 (0),Value.int IntKind.i64 (0),Value.slice none 0 0,Value.slice none 0 0,Value.slice none 0 0,Value.slice none 0 0,Value.bool false],fields:=[(0,36),(7,4)],elem:=none,str:=false,flat:=none}),
 (112,{agg:=true,size:=3,bytes:=24,zero:=[Value.int IntKind.i64 (0),Value.int IntKind.i64 (0),Value.int IntKind.i64 (0)],fields:=[(0,64),(2,3)],elem:=none,str:=false,flat:=some [CK.int IntKind.i64,CK.int IntKind.i64,CK.int IntKind.i64]}),
 (113,{agg:=true,size:=3,bytes:=24,zero:=[Value.int IntKind.i64 (0),Value.int IntKind.i64 (0),Value.int IntKind.i64 (0)],fields:=[(0,64),(2,3)],elem:=none,str:=false,flat:=some [CK.int IntKind.i64,CK.int IntKind.i64,CK.int IntKind.i64]}),
 (119,{agg:=true,size:=3,bytes:=24,zero:=[Value.int IntKind.i64 (0),Value.int IntKind.i64 (0),Value.bool false],fields:=[(0,3),(1,3),(2,4)],elem:=none,str:=false,flat:=some [CK.int IntKind.i64,CK.int IntKind.i64,CK.bool]}),
 (120,{agg:=true,size:=3,bytes:=24,zero:=[Value.int IntKind.i64 (0),Value.int IntKind.i64 (0),Value.bool false],fields:=[(0,3),(1,3),(2,4)],elem:=none,str:=false,flat:=some [CK.int IntKind.i64,CK.int IntKind.i64,CK.bool]}),
 (121,{agg:=true,size:=3,bytes:=40,zero:=[Value.slice none 0 0,Value.int IntKind.i64 (0),Value.int IntKind.i64 (0)],fields:=[(0,22),(1,3),(2,3)],elem:=none,str:=false,flat:=none}),
 (122,{agg:=true,size:=3,bytes:=40,zero:=[Value.slice none 0 0,Value.int IntKind.i64 (0),Value.int IntKind.i64 (0)],fields:=[(0,22),(1,3),(2,3)],elem:=none,str:=false,flat:=none}),
 (125,{agg:=true,size:=3,bytes:=24,zero:=[Value.int IntKind.i64 (0),Value.int IntKind.i64 (0),Value.int IntKind.i64 (0)],fields:=[(0,3),(1,3),(2,3)],elem:=none,str:=false,flat:=some [CK.int IntKind.i64,CK.int IntKind.i64,CK.int IntKind.i64]}),
 (126,{agg:=true,size:=3,bytes:=24,zero:=[Value.int IntKind.i64 (0),Value.int IntKind.i64 (0),Value.int IntKind.i64 (0)],fields:=[(0,3),(1,3),(2,3)],elem:=none,str:=false,flat:=some [CK.int IntKind.i64,CK.int IntKind.i64,CK.int IntKind.i64]}),
 (171,{agg:=false,size:=1,bytes:=8,zero:=[Value.int IntKind.u64 (0)],fields:=[],elem:=none,str:=false,flat:=some [CK.int IntKind.u64]}),
 (194,{agg:=false,size:=1,bytes:=8,zero:=[Value.pointer none],fields:=[],elem:=none,str:=false,flat:=none}),
 (195,{agg:=false,size:=1,bytes:=8,zero:=[Value.pointer none],fields:=[],elem:=none,str:=false,flat:=none}),
 (205,{agg:=false,size:=1,bytes:=8,zero:=[Value.int IntKind.i64 (0)],fields:=[],elem:=none,str:=false,flat:=some [CK.int IntKind.i64]}),
 (212,{agg:=false,size:=1,bytes:=4,zero:=[Value.int IntKind.u32 (0)],fields:=[],elem:=none,str:=false,flat:=some [CK.int IntKind.u32]}),
 (214,{agg:=false,size:=1,bytes:=8,zero:=[Value.int IntKind.u64 (0)],fields:=[],elem:=none,str:=false,flat:=some [CK.int IntKind.u64]}),
 (218,{agg:=false,size:=1,bytes:=8,zero:=[Value.int IntKind.u64 (0)],fields:=[],elem:=none,str:=false,flat:=some [CK.int IntKind.u64]}),
 (222,{agg:=false,size:=1,bytes:=8,zero:=[Value.pointer none],fields:=[],elem:=none,str:=false,flat:=none}),
 (226,{agg:=false,size:=1,bytes:=8,zero:=[Value.pointer none],fields:=[],elem:=none,str:=false,flat:=none}),
 (248,{agg:=false,size:=1,bytes:=8,zero:=[Value.pointer none],fields:=[],elem:=none,str:=false,flat:=none})]
theorem A0:C1 Tryz.prog tbl:=
 (.cons Aa (.cons Aa (.cons Aa (.cons Aa (.cons Aa (.cons Aa (.cons Aa (.cons Aa (.cons Aa (.cons Aa (.cons Aa (.cons Aa (.cons Aa (.cons Aa (.cons Aa (.cons Aa (.cons Aa (.cons Aa (.cons Aa (.cons Aa (.cons Aa (.cons Aa (.cons Aa (.cons Aa (.cons Aa (.cons Aa (.cons Aa (.cons Aa (.cons Aa (.cons Aa (.cons Aa (.cons Aa (.cons Aa (.cons Aa (.cons Aa (.cons Aa (.cons Aa (.cons Aa (.cons Aa (.cons Aa (.cons Aa (.cons Aa (.cons Aa (.cons Aa (.cons Aa (.cons Aa (.cons Aa (.cons Aa (.cons Aa (.cons Aa (.cons Aa (.cons Aa (.cons Aa (.cons Aa (.cons Aa (.cons Aa (.cons Aa (.cons Aa (.cons Aa (.cons Aa (.cons Aa (.cons Aa .nil))))))))))))))))))))))))))))))))))))))))))))))))))))))))))))))
structure A2p (R:Prop):Prop where
 get:R
theorem B9p {p q:Prop}(hq:q)(hp:p:=by first|omega|(show _∧_;omega)|decide):p∧q:=⟨hp,hq⟩
theorem B9q {p q:Prop}(hq:q)(hp:p:=by first|omega|(show _∧_;omega)|(simp only [List.length_set];omega)|decide):p∧q:=⟨hp,hq⟩
theorem Bi {X Y R:Prop}(r:R)(h:A2p R→X∧Y:=by intro r;(first|refine skf ?_|refine skt ?_|refine Kf ?_);(conv=>whnf);exact r.get):X∧Y:=h ⟨r⟩
theorem Ar {X Y R:Prop}(r:R)(h:A2p R→X∧Y:=by intro r;refine Kf ?_;(conv=>whnf);exact r.get):X∧Y:=h ⟨r⟩
theorem ndV {X Y R:Prop}(r:R)(h:A2p R→X∧Y:=by intro r;refine B9p ?_;(conv=>whnf);exact r.get):X∧Y:=h ⟨r⟩
theorem ndU {X Y R:Prop}(r:R)(h:A2p R→X∧Y:=by intro r;refine B9q ?_;(conv=>whnf);exact r.get):X∧Y:=h ⟨r⟩
theorem Tt {B:Au}{Q:Exit→Act→World→Prop}{K:List KI}{s:AS}(h:Xv Tryz.prog B Q (Mp tbl false 100000 K s)):GW Tryz.prog B Q K s:=go A0 false h
theorem Al {B:Au}{Q:Exit→Act→World→Prop}{K:List KI}{s:AS}{R:Prop}(r:R)(h:A2p R→GW Tryz.prog B Q K s:=by intro r;refine go A0 false ?_;(conv=>whnf);exact r.get):GW Tryz.prog B Q K s:=h ⟨r⟩
theorem G5 {P p q:Prop} [Decidable P] (h:P→p)(g:¬P→q):(decide P=true→p)∧(decide P=false→q):=⟨fun e=>h (of_decide_eq_true e),fun e=>g (of_decide_eq_false e)⟩
theorem Jo (n lo hi:Int):B0 Tryz.prog 67 [.one (vi n),.one (vi lo),.one (vi hi)] [.one (vb (Eg n lo hi))]:=by
 refine Ay A0 false Tryz.func67 rfl Bu fun W=>?_
 conv=>whnf
 repeat' (first|(refine Ms ?_;conv=>whnf)|(refine Mt ?_;conv=>whnf)|(refine ⟨fun h=>?_,fun h=>?_⟩<;>conv=>whnf)|(refine Ao A0 rfl rfl ⟨?_,trivial⟩;conv=>whnf)|(refine Kf ?_;conv=>whnf)|fail)
 all_goals (refine congrArg vb ?_;simp_all [Eg]<;>omega)
theorem He (n lo hi:Int):B0 Tryz.prog 70 [.one (vi n),.one (vi lo),.one (vi hi)] [.one (vb (Eg n lo hi))]:=by
 refine Ay A0 false Tryz.func70 rfl Bu fun W=>?_
 conv=>whnf
 repeat' (first|(refine Ms ?_;conv=>whnf)|(refine Mt ?_;conv=>whnf)|(refine ⟨fun h=>?_,fun h=>?_⟩<;>conv=>whnf)|(refine Ao A0 rfl rfl ⟨?_,trivial⟩;conv=>whnf)|(refine Kf ?_;conv=>whnf)|fail)
 all_goals (refine congrArg vb ?_;simp_all [Eg]<;>omega)
def Iw (x:Cb):Prop:=(1≤x.kind∧x.kind≤8)∧(x.kind=2→0≤x.a∧x.a≤999∧x.b=0)∧(x.kind=3→1≤x.a∧x.a≤10∧0≤x.b∧x.b≤x.a-1)∧(x.kind=4→0≤x.a∧x.a≤99∧x.b=0)∧
 (x.kind≠2→x.kind≠3→x.kind≠4→x.a=0∧x.b=0)∧x.outs.length≤2∧(x.kind=8→x.outs.length=0)∧(x.outs.length=2→x.outs.getD 0 default≠x.outs.getD 1 default)∧(∀n∈x.outs,0≤n∧n≤7)
instance (x:Cb):Decidable (Iw x):=by unfold Iw;infer_instance
def Ka (x:Cb):Bool:=decide (Iw x)
def V0 (l:List Int) (k:Nat):Prop:=∀i,i<k→0≤l.getD i default∧l.getD i default≤7
theorem Wt {l:List Int}{k:Nat}(h:V0 l k)(h1:0≤l.getD k default)(h2:l.getD k default≤7):V0 l (k+1):=fun i hi=>by
 by_cases e:i=k
 ·subst e;exact ⟨h1,h2⟩
 ·exact h i Ac
theorem Zf {l:List Int}(h:V0 l l.length):∀n∈l,0≤n∧n≤7:=fun n hn=>by
 obtain ⟨i,hi,e⟩:=List.getElem_of_mem hn
 have:=h i hi
 rw [List.getD,List.getElem?_eq_getElem hi] at this
 rw [←e];exact this
def V1 (x:Cb):Prop:=(1≤x.kind∧x.kind≤8)∧(x.kind=2→0≤x.a∧x.a≤999∧x.b=0)∧(x.kind=3→1≤x.a∧x.a≤10∧0≤x.b∧x.b≤x.a-1)∧(x.kind=4→0≤x.a∧x.a≤99∧x.b=0)∧
 (x.kind≠2→x.kind≠3→x.kind≠4→x.a=0∧x.b=0)
theorem Iw.pars {x:Cb}(h:Iw x):V1 x:=⟨h.1,h.2.1,h.2.2.1,h.2.2.2.1,h.2.2.2.2.1⟩
theorem B21 {p:Prop}(d:Decidable p)(q:Prop) [Decidable q]:(Decidable.rec (motive:=fun _=>Bool) (fun _=>false) (fun _=>decide q) d=true)↔(p∧q):=by
 cases d<;>simp [*]
theorem Xj (x:Cb)(hx:x.w≤16777216):B0 Tryz.prog 129 [.agg x.c] [.one (vb (Ka x))]:=by
 have hl:x.outs.length≤16777216:=hx
 have hw1:1≤x.a→x.a≤10→IntKind.wrap .i64 (x.a-1)=x.a-1:=fun h1 h2=>Hz (by show _∧_;omega)
 refine B25 20 A0 true Tryz.func129 rfl Bu fun W=>?_
 conv=>whnf
 refine B77 A0 true (J:=Bool×Bool) [12,13,14,15,16,17,18,19,20,21,22,23,24,25,26,27,28,29,30,31,32,33,34] (fun j=>[(3,.c (vb j.1)),(4,.c (vb j.2))]) (fun _=>[⟨0,[.c (vi x.kind),.c (vi x.a),.c (vi x.b),.c (F1 x.outs)]⟩]) (fun _=>[]) (fun j=>((j.1=true∧j.2=true∧1≤x.kind∧x.kind≤8)↔V1 x)) ?_ ?_
 ·conv=>whnf
  repeat' (first|(refine Ms ?_;conv=>whnf)|(refine Mt ?_;conv=>whnf)|(refine ⟨fun h=>?_,fun h=>?_⟩<;>conv=>whnf)|(refine Aw (Jo _ _ _) rfl (go A0 true ?_);conv=>whnf)|(refine Gj ?_;conv=>whnf)|(refine B9 16 rfl [0,1,2,3,4,5,6,7,8,9,10,11,12,13,14,15,16,17,18,19,20,21] Aa (go A0 true ?_);conv=>whnf)|fail)
  all_goals
   refine B5 [] (_,_) ?_ Bu ⟨rfl,rfl,trivial⟩ trivial F3 Aa trivial Aa
   unfold V1
   try simp only [B21]
   simp only [beq_iff_eq,beq_eq_false_iff_ne,bne_iff_ne,bne_eq_false_iff_eq,Bool.not_eq_true',Bool.not_eq_false',Go.Sx.Am,Go.Sx.Az,decide_eq_true_eq,decide_eq_false_iff_not,ne_eq,Int.not_lt,Int.not_le,ge_iff_le,gt_iff_lt,Int.toNat_zero,Int.toNat_one,Int.toNat_natCast] at * <;>omega
 rintro ⟨a,b⟩ hp
 have hu:V0 x.outs 0∧(2≤0→x.outs.getD 0 default≠x.outs.getD 1 default):=⟨fun i h=>absurd h (Nat.not_lt_zero i),fun h=>by omega⟩
 conv=>whnf
 repeat' (first|(refine Ms ?_;conv=>whnf)|(refine Mt ?_;conv=>whnf)|(refine ⟨fun h=>?_,fun h=>?_⟩<;>conv=>whnf)|(refine Aw (Jo _ _ _) rfl (go A0 true ?_);conv=>whnf)|(refine Gj ?_;conv=>whnf)|(refine B9 16 rfl [0,1,2,3,4,5,6,7,8,9,10,11,12,13,14,15,16,17,18,19,20,21] Aa (go A0 true ?_);conv=>whnf)|fail)
 all_goals try (refine Ao A0 rfl rfl ⟨congrArg vb (decide_eq_false fun p=>?_),trivial⟩;have q:=hp.2 p.pars;obtain ⟨p1,p2,p3,p4,p5,p6,p7,p8,p9⟩:=p;clear hp hu p2 p3 p4 p5 p9;simp only [beq_iff_eq,beq_eq_false_iff_ne,bne_iff_ne,bne_eq_false_iff_eq,Bool.not_eq_true',Bool.not_eq_false',Go.Sx.Am,Go.Sx.Az,decide_eq_true_eq,decide_eq_false_iff_not,ne_eq,Int.not_lt,Int.not_le,ge_iff_le,gt_iff_lt,Int.toNat_zero,Int.toNat_one,Int.toNat_natCast] at * <;>first|omega|simp_all)
 all_goals
  refine Bw A0 true [] (fun k:Nat=>[(5,.c (vi k))]) (fun k=>[⟨0,[.c (vi x.kind),.c (vi x.a),.c (vi x.b),.c (F1 x.outs)]⟩]) (fun k=>[])
   (fun k=>k≤x.outs.length∧(V0 x.outs k∧(2≤k→x.outs.getD 0 default≠x.outs.getD 1 default))) (fun k=>x.outs.length-k) 0 ⟨Nat.zero_le _,by first|rfl|assumption|simp⟩ ⟨by first|rfl|simp [Dl,ren2,ren1,ren0],trivial⟩ F3 trivial Dh Aa (fun k hk=>?_)
  obtain ⟨hk,he⟩:=hk
  conv=>whnf
  refine G5 (fun h'=>?_) fun h'=>?_<;>conv=>whnf
  ·have h':k<x.outs.length:=by omega
   clear hp hu
   repeat' (first|(refine Ms ?_;conv=>whnf)|(refine Mt ?_;conv=>whnf)|(refine ⟨fun h=>?_,fun h=>?_⟩<;>conv=>whnf)|(refine Aw (Jo _ _ _) rfl (go A0 true ?_);conv=>whnf)|(refine Gj ?_;conv=>whnf)|(refine B9 16 rfl [0,1,2,3,4,5,6,7,8,9,10,11,12,13,14,15,16,17,18,19,20,21] Aa (go A0 true ?_);conv=>whnf)|fail)
   all_goals try (refine Ao A0 rfl rfl ⟨congrArg vb (decide_eq_false fun p=>?_),trivial⟩;have p9:=p.2.2.2.2.2.2.2.2 _ (Aq (d:=default) h');have p8:=p.2.2.2.2.2.2.2.1;have p6:=p.2.2.2.2.2.1;clear p he;simp only [beq_iff_eq,beq_eq_false_iff_ne,bne_iff_ne,bne_eq_false_iff_eq,Bool.not_eq_true',Bool.not_eq_false',Go.Sx.Am,Go.Sx.Az,decide_eq_true_eq,decide_eq_false_iff_not,ne_eq,Int.not_lt,Int.not_le,ge_iff_le,gt_iff_lt,Int.toNat_zero,Int.toNat_one,Int.toNat_natCast] at * <;>omega)
   all_goals
    refine B5 [] (k+1) ⟨by omega,⟨Wt he.1 (by clear he;simp only [beq_iff_eq,beq_eq_false_iff_ne,bne_iff_ne,bne_eq_false_iff_eq,Bool.not_eq_true',Bool.not_eq_false',Go.Sx.Am,Go.Sx.Az,decide_eq_true_eq,decide_eq_false_iff_not,ne_eq,Int.not_lt,Int.not_le,ge_iff_le,gt_iff_lt,Int.toNat_zero,Int.toNat_one,Int.toNat_natCast] at * <;>omega) (by clear he;simp only [beq_iff_eq,beq_eq_false_iff_ne,bne_iff_ne,bne_eq_false_iff_eq,Bool.not_eq_true',Bool.not_eq_false',Go.Sx.Am,Go.Sx.Az,decide_eq_true_eq,decide_eq_false_iff_not,ne_eq,Int.not_lt,Int.not_le,ge_iff_le,gt_iff_lt,Int.toNat_zero,Int.toNat_one,Int.toNat_natCast] at * <;>omega),by have q:=he.2;clear he;simp only [beq_iff_eq,beq_eq_false_iff_ne,bne_iff_ne,bne_eq_false_iff_eq,Bool.not_eq_true',Bool.not_eq_false',Go.Sx.Am,Go.Sx.Az,decide_eq_true_eq,decide_eq_false_iff_not,ne_eq,Int.not_lt,Int.not_le,ge_iff_le,gt_iff_lt,Int.toNat_zero,Int.toNat_one,Int.toNat_natCast] at * <;>omega⟩⟩ Ac ⟨congrArg (fun n=>AV.c (vi n)) (A0c k Ac),trivial⟩ trivial F3 Aa Dh Aa
  ·have e:k=x.outs.length:=by omega
   have hq:V1 x:=hp.1 (by clear hp hu he;simp only [beq_iff_eq,beq_eq_false_iff_ne,bne_iff_ne,bne_eq_false_iff_eq,Bool.not_eq_true',Bool.not_eq_false',Go.Sx.Am,Go.Sx.Az,decide_eq_true_eq,decide_eq_false_iff_not,ne_eq,Int.not_lt,Int.not_le,ge_iff_le,gt_iff_lt,Int.toNat_zero,Int.toNat_one,Int.toNat_natCast] at * <;>first|omega|(refine ⟨?_,?_,?_,?_⟩<;>first|assumption|omega))
   have q:=he.2
   refine Ao A0 rfl rfl ⟨congrArg vb (decide_eq_true ⟨hq.1,hq.2.1,hq.2.2.1,hq.2.2.2.1,hq.2.2.2.2,?_,?_,?_,Zf (e▸he.1)⟩),trivial⟩
   all_goals (clear he hp hu hq;intros;simp only [beq_iff_eq,beq_eq_false_iff_ne,bne_iff_ne,bne_eq_false_iff_eq,Bool.not_eq_true',Bool.not_eq_false',Go.Sx.Am,Go.Sx.Az,decide_eq_true_eq,decide_eq_false_iff_not,ne_eq,Int.not_lt,Int.not_le,ge_iff_le,gt_iff_lt,Int.toNat_zero,Int.toNat_one,Int.toNat_natCast] at * <;>omega)
def Ja (r:A5):Prop:=(0≤r.op∧r.op≤7)∧(0≤r.stamp.epoch∧r.stamp.epoch≤3)∧(0≤r.stamp.turn∧r.stamp.turn≤6)∧(0≤r.key∧r.key≤99)∧(0≤r.val∧r.val≤999)
instance (r:A5):Decidable (Ja r):=by unfold Ja;infer_instance
def F9 (r:A5):Bool:=decide (Ja r)
theorem J3 (r:A5):F9 r=true↔(0≤r.op∧r.op≤7)∧(0≤r.stamp.epoch∧r.stamp.epoch≤3)∧(0≤r.stamp.turn∧r.stamp.turn≤6)∧(0≤r.key∧r.key≤99)∧(0≤r.val∧r.val≤999):=decide_eq_true_iff
def Ho (s:F5):Bool:=decide ((0≤s.epoch∧s.epoch≤3)∧(0≤s.turn∧s.turn≤6))
theorem A5b (s:F5):B0 Tryz.prog 130 [.agg s.c] [.one (vb (Ho s))]:=by
 refine Ay A0 false Tryz.func130 rfl Bu fun W=>?_
 conv=>whnf
 repeat' (first|(refine Ms ?_;conv=>whnf)|(refine Mt ?_;conv=>whnf)|(refine ⟨fun h=>?_,fun h=>?_⟩<;>conv=>whnf)|(refine Aw (Jo _ _ _) rfl (Al ?_))|(refine Gj ?_;conv=>whnf)|fail)
 all_goals (refine Ao A0 rfl rfl ⟨congrArg vb ?_,trivial⟩;(rw [Bool.eq_iff_iff];simp only [J3,Ho,beq_iff_eq,beq_eq_false_iff_ne,bne_iff_ne,bne_eq_false_iff_eq,Bool.not_eq_true',Bool.not_eq_false',Go.Sx.Am,Go.Sx.Az,decide_eq_true_eq,decide_eq_false_iff_not,Bool.false_eq_true,iff_false,false_iff,iff_true,true_iff,ne_eq] at * <;>omega))
theorem A19 (r:A5):B0 Tryz.prog 87 [.agg r.c] [.one (vb (F9 r))]:=by
 refine Ay A0 false Tryz.func87 rfl Bu fun W=>?_
 conv=>whnf
 repeat' (first|(refine Ms ?_;conv=>whnf)|(refine Mt ?_;conv=>whnf)|(refine ⟨fun h=>?_,fun h=>?_⟩<;>conv=>whnf)|(refine Aw (Jo _ _ _) rfl (Al ?_))|(refine Aw (A5b r.stamp) rfl (Al ?_))|(refine Gj ?_;conv=>whnf)|fail)
 all_goals (refine Ao A0 rfl rfl ⟨congrArg vb ?_,trivial⟩;(rw [Bool.eq_iff_iff];simp only [J3,Ho,beq_iff_eq,beq_eq_false_iff_ne,bne_iff_ne,bne_eq_false_iff_eq,Bool.not_eq_true',Bool.not_eq_false',Go.Sx.Am,Go.Sx.Az,decide_eq_true_eq,decide_eq_false_iff_not,Bool.false_eq_true,iff_false,false_iff,iff_true,true_iff,ne_eq] at * <;>omega))
end Go.Proofs.YtonodkjaoalfjaaGreat
