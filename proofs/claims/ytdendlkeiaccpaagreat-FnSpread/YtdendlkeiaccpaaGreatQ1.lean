/- Part 1 of the proof that each of the laws FnSpread returns true for every input. No conditions. -/
import Derived.WalkKit

set_option linter.unusedSimpArgs false
set_option linter.unusedVariables false
namespace Go.Sx
theorem B0 {p:Prop}(h:p:=by repeat' (first|exact trivial|exact A1n _ _|exact rfl|exact .inr ⟨rfl,rfl,_,_,rfl⟩|refine ⟨?_,?_⟩)):p:=h
theorem E8 {p:Prop}(h:p:=by repeat' (first|exact trivial|exact ⟨_,rfl,rfl,by assumption⟩|exact ⟨_,rfl,rfl,rfl⟩|exact ⟨_,rfl,rfl,huo _ (by simp)⟩|exact ⟨_,rfl,rfl,fun v hv=>huo v (by simp only [List.mem_cons,List.not_mem_nil,or_false] at hv ⊢;rcases hv with h|h|h<;>simp [h])⟩|refine ⟨?_,?_⟩)):p:=h
theorem C1 {p:Prop}(h:p:=by first|exact trivial|exact ⟨rfl,trivial⟩|repeat' (first|exact trivial|exact rfl|refine ⟨?_,?_⟩)):p:=h
theorem Br {p:Prop}(h:p:=by repeat' (first|exact trivial|refine ⟨?_,?_⟩|(show _∧_;omega)|omega)):p:=h
theorem A6 {p:Prop}(h:p:=by kernel_rfl):p:=h
theorem Dm {p:Prop}(h:p:=by first|rfl|exact (congrArg (fun l=>Kv _ _ l) (List.append_nil _)).symm|(show (_:Ai)=_;simp)|simp):p:=h
theorem C2 {p:Prop}(h:p:=by repeat' (first|exact trivial|exact rfl|refine ⟨?_,?_⟩)):p:=h
theorem Ad {p:Prop}(h:p:=by omega):p:=h
theorem F0 {p:Prop}(h:p:=by first|rfl|simp [Hs,ren2,ren1,ren0]):p:=h
theorem B5 {p:Prop}(h:p:=by decide):p:=h
theorem H3 {p:Prop}(h:p:=by repeat' (first|exact trivial|exact ⟨_,rfl,rfl⟩|refine ⟨?_,?_⟩)):p:=h
theorem C6 {p:Prop}(h:p:=by intro h;cases h):p:=h
theorem A44 {p:Prop}(h:p:=by repeat' (first|exact trivial|exact .inl rfl|exact .inr ⟨rfl,_,_,rfl⟩|refine ⟨?_,?_⟩)):p:=h
theorem C8 {p:Prop}(h:p:=by simp):p:=h
theorem A2w {p:Prop}(h:p:=by repeat' (first|exact trivial|exact A1n _ _|exact rfl|refine ⟨?_,?_⟩)):p:=h
theorem Ng {p:Prop}(h:p:=by exact Nat.zero_lt_one):p:=h
theorem B6x {p:Prop}(h:p:=by first|with_reducible rfl|assumption|(simp only [decide_eq_false_iff_not];omega)|simp):p:=h
theorem B6y {p:Prop}(h:p:=by simp only [Ab.w,List.length_append,List.length_cons,List.length_nil];omega):p:=h
inductive Ai where
 |val (x:Value)
 |sl (n es:Nat) (row:Nat→List Ai)
inductive AV where
 |any
 |c (x:Ai)
 |own (k:Nat)
 |box (k off:Nat)
 |agg (xs:List AV)
 |el (n es:Nat) (row:Nat→List Ai) (i:Int) (off:Nat)
 |oel (k es:Nat) (i:Int) (off:Nat)
 |tup (xs:List AV)
 |fn (f:FuncId) (caps:List AV)
abbrev AV.v (x:Value):AV:= .c (.val x)
structure Bx where
 key:Nat
 cells:List AV
structure Ow where
 key:Nat
 cell:Ai
structure AS where
 next:Nat
 slots:List AV
 boxes:List Bx
 own:List Ow
 links:List (Nat×Value):=[]
def Ed (l:List (Nat×Value)) (k:Nat):Option Value:=
 match l with
 | []=>none
 |(a,v)::r=>match Nat.beq a k with
  |true=>some v
  |false=>Ed r k
inductive CK where
 |int (k:IntKind)
 |bool
structure TI where
 agg:Bool
 size:Nat
 bytes:Nat
 zero:List Value
 fields:List (Nat×TypeId)
 elem:Option TypeId
 str:Bool
 flat:Option (List CK)
inductive KI where
 |code (c:Code)
 |block (id:Nat)
 |loop (I:Act→World→Prop)
 |ops (q:Bool) (all:Array Oper) (todo:List Oper)
inductive Out where
 |at_ (K:List KI) (s:AS)
 |call (q:Bool) (f:FuncId) (xs:List AV) (dst:Option Tmp) (K:List KI) (s:AS)
 |ret (s:AS)
 |ite (b:Bool) (t e:Out)
 |need (p:Prop) (o:Out)
def A3z (fb:TypeId→Option (List CK)):List Field→Nat→Option (List CK)
 | [],_=>some []
 |f::r,off=>
  match f.name== "_",Nat.beq f.offset off with
  |false,true=>
   match fb f.type with
   |some ks=>match A3z fb r (off+ks.length) with
    |some js=>some (ks++js)
    |none=>none
   |none=>none
  |_,_=>none
def Ss (P:Program):Nat→TypeId→Option (List CK)
 | 0,_=>none
 |d+1,t=>
  match (match P.underlying t with
   |some (.int k)=>some [CK.int k]
   |some .bool=>some [CK.bool]
   |some (.struct fs)=>match P.stoodInHeld t with
    |true=>none
    |false=>A3z (Ss P d) fs.toList 0
   |_=>none) with
  |some ks=>match Nat.beq ks.length (P.cellsOf t),(P.info? t).isSome,Nat.ble 1 ks.length with
   |true,true,true=>some ks
   |_,_,_=>none
  |none=>none
def Ho (l:List Value):Bool:=
 match l with
 | []=>true
 | .agg _::_=>false
 | .tuple _::_=>false
 |_::r=>Ho r
def Is:TypeDesc→Bool
 | .struct _=>true
 | .array _ _=>true
 |_=>false
def TI.of (P:Program) (t:TypeId):Option TI:=
 match P.info? t,P.underlying t with
 |some f,some d=>
  match f.zero,Is d||Nat.beq f.size 1,Nat.beq ((f.zero.map (·.cells.size)).getD 0) f.size&&Ho ((f.zero.map (·.cells.toList)).getD []) with
  |none,_,_=>none
  |some _,false,_=>none
  |some _,_,false=>none
  |some z,true,true=>some
   {agg:=Is d
    size:=f.size,bytes:=f.bytes,zero:=z.cells.toList
    fields:=match d with| .struct fs=>fs.toList.map fun F=>(F.offset,F.type)|_=>[]
    elem:=match d with| .slice e=>some e|_=>none
    str:=match d with| .string=>true|_=>false
    flat:=match P.eqGuardType P.depth t with|true=>none|false=>Ss P 10 t}
 |_,_=>none
def find (T:List (TypeId×TI)) (t:TypeId):Option TI:=
 match T with
 | []=>none
 |(u,i)::r=>match Nat.beq u t with|true=>some i|false=>find r t
def Fl (l:List Bx) (k:Nat):Option Bx:=
 match l with
 | []=>none
 |b::r=>match Nat.beq b.key k with|true=>some b|false=>Fl r k
def F7 (l:List Bx) (k:Nat) (cells:List AV):List Bx:=
 match l with
 | []=>[]
 |b::r=>match Nat.beq b.key k with|true=> {b with cells}::r|false=>b::F7 r k cells
def Cb (l:List Ow) (k:Nat):Option Ai:=
 match l with
 | []=>none
 |o::r=>match Nat.beq o.key k with|true=>some o.cell|false=>Cb r k
def Hs (l:List AV) (i:Nat):AV:=
 match l,i with
 | [],_=> .any
 |x::_,0=>x
 |_::r,i+1=>Hs r i
def D6 (l:List AV) (i:Nat) (x:AV):List AV:=
 match l,i with
 | [],_=>[]
 |_::r,0=>x::r
 |y::r,i+1=>y::D6 r i x
def seg (l:List AV) (off n:Nat):List AV:=(l.drop off).take n
def Oe (l:List AV) (off:Nat) (xs:List AV):List AV:=
 match xs with
 | []=>l
 |x::r=>Oe (D6 l off x) (off+1) r
def C01 (v:Value):AV:=
 match v with
 | .agg _=> .any
 | .tuple _=> .any
 |v=> .v v
def AS.ev (s:AS):Operand→AV
 | .tmp t=>Hs s.slots t
 | .const v=>C01 v
 | .global _=> .any
 | .func f=> .fn f []
def AS.put (s:AS) (dst:Option Tmp) (x:AV):AS:=
 match dst with
 |some d=> {s with slots:=D6 s.slots d x}
 |none=>s
inductive Fu where
 |stop
 |ok (ps:List Prop) (x:AV)
 |new (cells:List AV)
 |mem (bx:List Bx)
 |own (ps:List Prop) (c:Ai)
def AV.cellLike:AV→Bool
 | .any=>false
 | .agg _=>false
 | .tup _=>false
 |_=>true
def Jm (l:List AV):Bool:=
 match l with
 | []=>true
 |x::r=>match x.cellLike with|true=>Jm r|false=>false
def Gk (k:IntKind) (n:Int):Prop:=
 match k with
 | .i8=> -128≤n∧n≤127
 | .i16=> -32768≤n∧n≤32767
 | .i32=> -2147483648≤n∧n≤2147483647
 | .i64=> -9223372036854775808≤n∧n≤9223372036854775807
 | .u8=>0≤n∧n≤255
 | .u16=>0≤n∧n≤65535
 | .u32=>0≤n∧n≤4294967295
 | .u64=>0≤n∧n≤18446744073709551615
def AV.ofCell (x:Ai):AV:= .c x
def I6 (i:TI):List AV:=i.zero.map AV.v
def Le (i:TI) (cells:List AV) (off:Nat):AV:=
 match i.agg with
 |true=> .agg (seg cells off i.size)
 |false=>Hs cells off
def AV.cellsOf (x:AV):List AV:=
 match x with
 | .agg xs=>xs
 |x=>[x]
def La (a b:IntKind):Bool:=decide (a=b)
def A7l (a:Bool) (r:Option Bool):Option Bool:=
 match r with
 |some b=>some (a&&b)
 |none=>none
def A2y (ks:List CK) (xs ys:List AV):Option Bool:=
 match ks,xs,ys with
 | [],[],[]=>some true
 | .int k::ks,.c (.val (.int i a))::xs,.c (.val (.int j b))::ys=>
  match La i k,La j k with
  |true,true=>A7l (a==b) (A2y ks xs ys)
  |_,_=>none
 | .bool::ks,.c (.val (.bool a))::xs,.c (.val (.bool b))::ys=>A7l (a==b) (A2y ks xs ys)
 |_,_,_=>none
def B7a (T:List (TypeId×TI)) (t:TypeId):Bool:=
 match find T t with
 |some i=>match i.agg,i.flat with
  |false,some [.bool]=>true
  |_,_=>false
 |none=>false
def C4g (T:List (TypeId×TI)) (t:TypeId):Bool:=
 match find T t with
 |some i=>i.str
 |none=>false
def C24 (T:List (TypeId×TI)) (t:TypeId):Option (List CK):=
 match find T t with
 |some i=>match i.agg with
  |true=>i.flat
  |false=>none
 |none=>none
def Zp (wr:Bool) (T:List (TypeId×TI)) (op:BinOp) (t:TypeId) (x y:AV):Fu:=
 match x,y with
 | .c (.val (.int k a)),.c (.val (.int j b))=>
  match La k j with
  |false=> .stop
  |true=>
  match op with
  | .add=>match wr with|true=> .ok [] (.v (.int k (k.wrap (a+b))))|false=> .ok [Gk k (a+b)] (.v (.int k (a+b)))
  | .sub=>match wr with|true=> .ok [] (.v (.int k (k.wrap (a-b))))|false=> .ok [Gk k (a-b)] (.v (.int k (a-b)))
  | .mul=>match wr with|true=> .ok [] (.v (.int k (k.wrap (a * b))))|false=> .ok [Gk k (a * b)] (.v (.int k (a * b)))
  | .quo=> .ok [b≠0,Gk k (a.tdiv b)] (.v (.int k (a.tdiv b)))
  | .rem=> .ok [b≠0] (.v (.int k (a.tmod b)))
  | .eql=> .ok [] (.v (.bool (a==b)))
  | .neq=> .ok [] (.v (.bool (a !=b)))
  | .lss=> .ok [] (.v (.bool (decide (a<b))))
  | .leq=> .ok [] (.v (.bool (decide (a≤b))))
  | .gtr=> .ok [] (.v (.bool (decide (a>b))))
  | .geq=> .ok [] (.v (.bool (decide (a≥b))))
  |_=> .stop
 | .c (.val (.string a)),.c (.val (.string b))=>
  match op with
  | .add=> .ok [a.size+b.size≤9223372036854775807] (.v (.string (a++b)))
  | .eql=> .ok [] (.v (.bool (a==b)))
  | .neq=> .ok [] (.v (.bool !(a==b)))
  |_=> .stop
 | .c (.val (.bool a)),.c (.val (.bool b))=>
  match op,B7a T t with
  | .eql,true=> .ok [] (.v (.bool (a==b)))
  | .neq,true=> .ok [] (.v (.bool !(a==b)))
  |_,_=> .stop
 | .agg xs,.agg ys=>
  match C24 T t with
  |some ks=>match op,A2y ks xs ys with
   | .eql,some r=> .ok [] (.v (.bool r))
   | .neq,some r=> .ok [] (.v (.bool !r))
   |_,_=> .stop
  |none=> .stop
 |_,_=> .stop
def Uv (T:List (TypeId×TI)) (t:TypeId) (f:Nat):Option (Nat×TypeId):=
 match find T t with
 |some i=>i.fields[f]?
 |none=>none
def Pl (T:List (TypeId×TI)) (fields:List (Nat×TypeId)) (s:AS):List (Nat×Operand)→List AV→Option (List AV)
 | [],acc=>some acc
 |(f,x)::r,acc=>
  match fields[f]? with
  |none=>none
  |some (off,u)=>
   match find T u with
   |none=>none
   |some j=>
    match Nat.beq (s.ev x).cellsOf.length j.size&&Nat.ble (off+j.size) acc.length&&Jm (s.ev x).cellsOf with
    |true=>Pl T fields s r (Oe acc off (s.ev x).cellsOf)
    |false=>none
def B2r (T:List (TypeId×TI)) (l:List (Nat×TypeId)):Bool:=
 match l with
 | []=>true
 |(_,u)::r=>match find T u with
  |some _=>B2r T r
  |none=>false
def A61 (l:List AV):Option (List Ai):=
 match l with
 | []=>some []
 | .c (.val v)::r=>match A61 r with
  |some cs=>some (.val v::cs)
  |none=>none
 |_=>none
def M9 (l:List Ai):Option (List AV):=
 match l with
 | []=>some []
 | .val v::r=>match M9 r with
  |some cs=>some (.c (.val v)::cs)
  |none=>none
 |_=>none
def Ih (n i size:Nat) (e:TypeId):List (Nat×TypeId):=
 match n with
 | 0=>[]
 |n+1=>(i * size,e)::Ih n (i+1) size e
def repL {α:Type} (n:Nat) (l:List α):List α:=
 match n with
 | 0=>[]
 |n+1=>l++repL n l
def step (T:List (TypeId×TI)) (wr:Bool) (s:AS) (op:Op):Fu:=
 match op with
 | .move x=> .ok [] (s.ev x)
 | .assign x=> .ok [] (s.ev x)
 | .binOp b t x y _=>Zp wr T b t (s.ev x) (s.ev y)
 | .unOp u _ x=>
  match u,s.ev x with
  | .not,.c (.val (.bool b))=> .ok [] (.v (.bool !b))
  | .neg,.c (.val (.int k n))=>match wr with|true=> .ok [] (.v (.int k (k.wrap (0-n))))|false=> .ok [Gk k (0-n)] (.v (.int k (0-n)))
  |_,_=> .stop
 | .alloc t=>
  match find T t with
  |some i=> .new (I6 i)
  |none=> .stop
 | .box _t x=>
  match Jm (s.ev x).cellsOf with
  |true=> .new (s.ev x).cellsOf
  |false=> .stop
 | .build t ps=>
  match find T t with
  |some i=>match i.fields,B2r T i.fields,Pl T i.fields s ps.toList (I6 i) with
   |_::_,true,some cs=> .ok [] (.agg cs)
   |_,_,_=> .stop
  |none=> .stop
 | .load t x=>
  match find T t,s.ev x with
  |some i,.box k off=>match Fl s.boxes k with
   |some b=>match Nat.ble (off+i.size) b.cells.length with
    |true=> .ok [] (Le i b.cells off)
    |false=> .stop
   |none=> .stop
  |some i,.oel k es j off=>match Cb s.own k with
   |some (.sl _ es' row)=>match i.flat.isSome||i.str with
    |false=> .stop
    |true=>match Nat.beq es es'&&Nat.ble (off+i.size) es,M9 (row j.toNat) with
     |true,some cs=> .ok [] (Le i cs off)
     |_,_=> .stop
   |_=> .stop
  |some i,.el _n es row j off=>match Nat.ble (off+i.size) es with
   |true=> .ok [] (Le i ((row j.toNat).map AV.ofCell) off)
   |false=> .stop
  |_,_=> .stop
 | .store t x y=>
  match find T t,s.ev x with
  |some i,.box k off=>match Fl s.boxes k with
   |some b=>match Nat.ble (off+i.size) b.cells.length,Nat.beq (s.ev y).cellsOf.length i.size,Jm (s.ev y).cellsOf with
    |true,true,true=> .mem (F7 s.boxes k (Oe b.cells off (s.ev y).cellsOf))
    |_,_,_=> .stop
   |none=> .stop
  |_,_=> .stop
 | .fieldAddr t x f=>
  match Uv T t f with
  |some (o,u)=>
   match (find T u).map (fun j=>Nat.ble 1 j.size),s.ev x with
   |some true,.box k off=> .ok [] (.box k (off+o))
   |some true,.el n es row j off=> .ok [] (.el n es row j (off+o))
   |some true,.oel k es j off=> .ok [] (.oel k es j (off+o))
   |_,_=> .stop
  |none=> .stop
 | .field t x f=>
  match Uv T t f,s.ev x with
  |some (o,u),.agg cs=>match find T u with
   |some j=>match Nat.ble (o+j.size) cs.length&&Nat.ble 1 j.size with
    |true=> .ok [] (Le j cs o)
    |false=> .stop
   |none=> .stop
  |_,_=> .stop
 | .indexAddr t x y=>
  match (find T t).bind (·.elem),s.ev x,s.ev y with
  |some e,.c (.sl n es row),.c (.val (.int _ j))=>
   match (find T e).map (fun i=>Nat.beq i.size es) with
   |some true=> .ok [0≤j∧j<(n:Int)] (.el n es row j 0)
   |_=> .stop
  |some e,.own k,.c (.val (.int _ j))=>
   match Cb s.own k with
   |some (.sl n es _)=>match (find T e).map (fun i=>Nat.beq i.size es) with
    |some true=> .ok [0≤j∧j<(n:Int)] (.oel k es j 0)
    |_=> .stop
   |_=> .stop
  |_,_,_=> .stop
 | .index t x y=>
  match C4g T t,s.ev x,s.ev y with
  |true,.c (.val (.string b)),.c (.val (.int _ j))=> .ok [0≤j∧j<(b.size:Int)] (.v (.int .u8 (b.data.getD j.toNat 0).toNat))
  |_,_,_=> .stop
 | .extract x i=>
  match s.ev x with
  | .tup xs=>match Nat.blt i xs.length with
   |true=> .ok [] (Hs xs i)
   |false=> .stop
  |_=> .stop
 | .nilCheck x=>
  match s.ev x with
  | .box k off=> .ok [] (.box k off)
  | .el n es row j off=> .ok [] (.el n es row j off)
  | .oel k es j off=> .ok [] (.oel k es j off)
  |_=> .stop
 | .call {callee:= .builtin .len,args,argTypes}=>
  match args.toList,argTypes.toList with
  | [x],[t]=>match find T t with
   |some i=>match i.str,i.elem,s.ev x with
    |true,_,.c (.val (.string b))=> .ok [] (.v (.int .i64 (b.size:Int)))
    |false,some _,.c (.val (.slice _ n _))=> .ok [] (.v (.int .i64 (n:Int)))
    |false,some _,.c (.sl n _ _)=> .ok [] (.v (.int .i64 (n:Int)))
    |false,some _,.own k=>match Cb s.own k with
     |some (.sl n _ _)=> .ok [] (.v (.int .i64 (n:Int)))
     |_=> .stop
    |_,_,_=> .stop
   |none=> .stop
  |_,_=> .stop
 | .call {callee:= .builtin .max,args,..}=>
  match args.toList with
  | [x,y]=>match s.ev x,s.ev y with
   | .c (.val (.int k a)),.c (.val (.int j b))=>match La k j with|true=> .ok [] (.v (.int k (if b>a then b else a)))|false=> .stop
   |_,_=> .stop
  |_=> .stop
 | .call {callee:= .builtin .min,args,..}=>
  match args.toList with
  | [x,y]=>match s.ev x,s.ev y with
   | .c (.val (.int k a)),.c (.val (.int j b))=>match La k j with|true=> .ok [] (.v (.int k (if b<a then b else a)))|false=> .stop
   |_,_=> .stop
  |_=> .stop
 | .convert t u x=>
  match find T t,find T u with
  |some _,some j=>
   match s.ev x with
   | .c (.val (.string b))=>match j.str with|true=> .ok [] (.v (.string b))|false=> .stop
   | .c (.val (.int _ n))=>match j.agg,j.flat with
    |false,some [.int k]=>match wr with|true=> .ok [] (.v (.int k (k.wrap n)))|false=> .ok [Gk k n] (.v (.int k n))
    |_,_=> .stop
   |_=> .stop
  |_,_=> .stop
 | .makeSlice t x y=>
  match (find T t).bind (·.elem),s.ev x,s.ev y with
  |some e,.c (.val (.int _ a)),.c (.val (.int _ b))=>
   match find T e with
   |some j=>match Nat.ble j.bytes 256 with
    |true=> .own [0≤a∧a≤b∧b≤1099511627776] (.sl a.toNat j.size fun _=>j.zero.map Ai.val)
    |false=> .stop
   |none=> .stop
  |_,_,_=> .stop
 | .buildSlice t len ps=>
  match (find T t).bind (·.elem) with
  |some e=>match find T e with
   |some j=>match Nat.ble (len * j.size) 10000&&Nat.blt 0 j.size,Pl T (Ih len 0 j.size e) s ps.toList (repL len (I6 j)) with
    |true,some cs=>match A61 cs with
     |some vals=> .own [] (.sl len j.size fun i=>(vals.drop (i * j.size)).take j.size)
     |none=> .stop
    |_,_=> .stop
   |none=> .stop
  |none=> .stop
 | .makeFunc (.func f) first caps=>
  match first.toList with
  | []=> .ok [] (.fn f (caps.toList.map s.ev))
  |_=> .stop
 |_=> .stop
def T9 (id:Nat):List KI→Option (List KI)
 | []=>none
 | .block j::K=>match Nat.beq j id with|true=>some K|false=>T9 id K
 |_::K=>T9 id K
def A1i (ps:List Prop) (o:Out):Out:=
 match ps with
 | []=>o
 |p::r=> .need p (A1i r o)
def Iz (all:Array Oper) (j:Nat):Option Tmp:=(all[j]?).bind (·.dst)
def Yv (all:List Oper) (arr:Array Oper) (d:Tmp):Bool:=
 match all with
 | []=>false
 |p::r=>match p.guard with
  |some (j,_)=>match Iz arr j with
   |some e=>match Nat.beq e d with
    |true=>true
    |false=>Yv r arr d
   |none=>Yv r arr d
  |none=>Yv r arr d
def Oc (all:Array Oper) (d:Option Tmp):AV:=
 match d with
 |none=> .any
 |some d=>match Yv all.toList all d with
  |true=> .tup []
  |false=> .any
def Jr {α:Type} (n:Nat) (k:Nat→α):α:=
 match n with
 | 0=>k 0
 |m+1=>Jr m fun r=>k (r+1)
def A0p {α:Type} (x:AV) (k:AV→α):α:=
 match x with
 | .any=>k .any
 | .c c=>k (.c c)
 | .own j=>Jr j fun j=>k (.own j)
 | .box j off=>Jr j fun j=>Jr off fun off=>k (.box j off)
 | .agg xs=>k (.agg xs)
 | .el n es row i off=>k (.el n es row i off)
 | .oel j es i off=>k (.oel j es i off)
 | .tup xs=>k (.tup xs)
 | .fn f caps=>k (.fn f caps)
def Nt {α:Type} (l:List AV) (k:List AV→α):α:=
 match l with
 | []=>k []
 |x::r=>A0p x fun x'=>Nt r fun r'=>k (x'::r')
def A5o {α:Type} (x:AV) (k:AV→α):α:=
 match x with
 | .agg xs=>Nt xs fun xs'=>k (.agg xs')
 | .tup xs=>Nt xs fun xs'=>k (.tup xs')
 | .fn f caps=>Nt caps fun xs'=>k (.fn f xs')
 |x=>A0p x k
def Ps {α:Type} (l:List AV) (k:List AV→α):α:=
 match l with
 | []=>k []
 |x::r=>A5o x fun x'=>Ps r fun r'=>k (x'::r')
def A0q {α:Type} (l:List Bx) (k:List Bx→α):α:=
 match l with
 | []=>k []
 |x::r=>match x with|⟨key,cells⟩=>Jr key fun key=>Nt cells fun cs=>A0q r fun r'=>k (⟨key,cs⟩::r')
def A0s {α:Type} (l:List Ow) (k:List Ow→α):α:=
 match l with
 | []=>k []
 |x::r=>match x with|⟨key,cell⟩=>Jr key fun key=>A0s r fun r'=>k (⟨key,cell⟩::r')
def A0r {α:Type} (l:List (Nat×Value)) (k:List (Nat×Value)→α):α:=
 match l with
 | []=>k []
 |(a,v)::r=>Jr a fun a=>A0r r fun r=>k ((a,v)::r)
def Kj {α:Type} (s:AS) (k:AS→α):α:=
 match s with
 |⟨next,slots,boxes,own,links⟩=>Jr next fun next=>Ps slots fun slots=>A0q boxes fun boxes=>A0s own fun own=>A0r links fun links=>k ⟨next,slots,boxes,own,links⟩
def B93 {α:Type} (l:List AV) (i:Nat) (x:AV) (k:List AV→α):α:=
 match l,i with
 | [],_=>k []
 |_::r,0=>k (x::r)
 |y::r,i+1=>B93 r i x fun r'=>k (y::r')
def K8 {α:Type} (s:AS) (dst:Option Tmp) (x:AV) (k:AS→α):α:=
 match dst with
 |none=>k s
 |some d=>A5o x fun x=>match s with
  |⟨next,slots,boxes,own,links⟩=>B93 slots d x fun slots=>k ⟨next,slots,boxes,own,links⟩
def B3h {α:Type} (s:AS) (cells:List AV) (k:AS→α):α:=
 Nt cells fun cells=>match s with
  |⟨next,slots,boxes,own,links⟩=>Jr (next+1) fun n=>k ⟨n,slots,{key:=next,cells}::boxes,own,links⟩
def N8 {α:Type} (s:AS) (c:Ai) (k:AS→α):α:=
 match s with
 |⟨next,slots,boxes,own,links⟩=>Jr (next+1) fun n=>k ⟨n,slots,boxes,⟨next,c⟩::own,links⟩
def B3f {α:Type} (s:AS) (bx:List Bx) (k:AS→α):α:=
 A0q bx fun bx=>match s with
  |⟨next,slots,_,own,links⟩=>k ⟨next,slots,bx,own,links⟩
def run (T:List (TypeId×TI)) (wr:Bool):Nat→List KI→AS→Out
 | 0,K,s=>Kj s (.at_ K)
 |n+1,K,s=>
  match K with
  | []=>Kj s (.at_ [])
  | .block _::K=>run T wr n K s
  | .loop I::K=>Kj s (.at_ (.loop I::K))
  | .code c::K=>
   match c with
   | .skip=>run T wr n K s
   | .seq a b=>run T wr n (.code a:: .code b::K) s
   | .block id c=>run T wr n (.code c:: .block id::K) s
   | .cond o t e=>
    match s.ev o with
    | .c (.val (.bool b))=> .ite b (run T wr n (.code t::K) s) (run T wr n (.code e::K) s)
    |_=>Kj s (.at_ (.code (.cond o t e)::K))
   | .exit id=>match T9 id K with
    |some K'=>run T wr n K' s
    |none=>Kj s (.at_ (.code (.exit id)::K))
   | .ret=>Kj s .ret
   | .region _id ops false=>run T wr n (.ops false ops ops.toList::K) s
   |c=>Kj s (.at_ (.code c::K))
  | .ops q all l::K=>
   match l with
   | []=>run T wr n K s
   |o::rest=>
    match o.guard with
    |none=>
     match o.op with
     | .pick c x y=>
      match s.ev c with
      | .c (.val (.bool b))=> .ite b (K8 s o.dst (s.ev x) (run T wr n (.ops q all rest::K))) (K8 s o.dst (s.ev y) (run T wr n (.ops q all rest::K)))
      |_=>Kj s (.at_ (.ops q all (o::rest)::K))
     | .call {callee:= .value (.func f),args,..}=>Ps (args.toList.map s.ev) fun xs=>Kj s fun s=> .call q f xs o.dst (.ops q all rest::K) s
     | .call {callee:= .value (.tmp t),args,..}=>
      match Hs s.slots t with
      | .fn f caps=>Ps (args.toList.map s.ev++caps) fun xs=>Kj s fun s=> .call q f xs o.dst (.ops q all rest::K) s
      |_=>Kj s (.at_ (.ops q all (o::rest)::K))
     |op=>
      match step T wr s op with
      | .stop=>Kj s (.at_ (.ops q all (o::rest)::K))
      | .ok ps x=>A1i ps (K8 s o.dst x (run T wr n (.ops q all rest::K)))
      | .new cells=>B3h s cells fun s'=>K8 s' o.dst (.box s.next 0) (run T wr n (.ops q all rest::K))
      | .own ps c=>A1i ps (N8 s c fun s'=>K8 s' o.dst (.own s.next) (run T wr n (.ops q all rest::K)))
      | .mem bx=>B3f s bx fun s=>K8 s o.dst .any (run T wr n (.ops q all rest::K))
    |some (j,true)=>
     match Iz all j with
     |some d=>match Hs s.slots d with
      | .c (.val (.bool b))=> .ite b
        (K8 s (some d) (.v (.bool true)) (run T wr n (.ops q all ({o with guard:=none}::rest)::K)))
        (K8 s (some d) (.v (.bool false)) fun s=>K8 s o.dst (Oc all o.dst) (run T wr n (.ops q all rest::K)))
      | .tup []=>K8 s o.dst (Oc all o.dst) (run T wr n (.ops q all rest::K))
      |_=>Kj s (.at_ (.ops q all (o::rest)::K))
     |none=>Kj s (.at_ (.ops q all (o::rest)::K))
    |some (j,false)=>
     match Iz all j with
     |some d=>match Hs s.slots d with
      | .c (.val (.bool b))=> .ite b
        (K8 s (some d) (.v (.bool true)) fun s=>K8 s o.dst (Oc all o.dst) (run T wr n (.ops q all rest::K)))
        (K8 s (some d) (.v (.bool false)) (run T wr n (.ops q all ({o with guard:=none}::rest)::K)))
      | .tup []=>K8 s o.dst (Oc all o.dst) (run T wr n (.ops q all rest::K))
      |_=>Kj s (.at_ (.ops q all (o::rest)::K))
     |none=>Kj s (.at_ (.ops q all (o::rest)::K))
def Oz (T:List (TypeId×TI)) (wr:Bool) (n:Nat) (K:List KI) (s:AS):Out:=Kj s (run T wr n K)
end Go.Sx
namespace Go.Sx
inductive Qi (w:World) (A:Nat→Prop):Ai→Value→Prop
 |val (x:Value) (h:x.oneCell'=true):Qi w A (.val x) x
 |nil (es:Nat) (row:Nat→List Ai):Qi w A (.sl 0 es row) (.slice none 0 0)
 |emp (es:Nat) (row:Nat→List Ai) (a:Addr):Qi w A (.sl 0 es row) (.slice (some a) 0 0)
 |sl (n es:Nat) (row:Nat→List Ai) (b off cap:Nat) (u:Nat→Nat→Value) (hA:0<n * es→¬ A b) (hn:n≤cap) (hc:cap≤maxLen)
   (hl:∀i,i<n→(row i).length=es) (hu:∀i j,i<n→j<es→w.cell? ⟨b,off+i * es+j,none⟩=some (u i j))
   (hr:∀i j c,i<n→(row i)[j]? =some c→Qi w A c (u i j)):Qi w A (.sl n es row) (.slice (some ⟨b,off,none⟩) n cap)
def Ez (w w':World):Prop:=w.heap.size≤w'.heap.size∧∀k,k<w.heap.size→w'.heap[k]? =w.heap[k]?
theorem Ez.refl (w:World):Ez w w:=⟨Nat.le_refl _,fun _ _=>rfl⟩
theorem Ez.trans {w w' w'':World}(h:Ez w w')(h':Ez w' w''):Ez w w'':=
 ⟨Nat.le_trans h.1 h'.1,fun k hk=>(h'.2 k (Nat.lt_of_lt_of_le hk h.1)).trans (h.2 k hk)⟩
theorem Ez.cell {w w':World}(h:Ez w w'){a:Addr}{v:Value}(hc:w.cell? a=some v):w'.cell? a=some v:=
 (World.cell?_of_block (h.2 a.block (World.block_lt_of_cell? w a hc))).trans hc
theorem C0z {w:World}{b o:Nat}{v:Value}(h:w.cell? ⟨b,o,none⟩=some v):b<w.heap.size:=World.block_lt_of_cell? w ⟨b,o,none⟩ h
theorem Qi.move {w w':World}{A A':Nat→Prop}{c:Ai}{v:Value}(h:Qi w A c v)(hk:∀b,¬ A b→b<w.heap.size→w'.heap[b]? =w.heap[b]?)
  (hA:∀b,b<w.heap.size→A' b→A b):Qi w' A' c v:=by
 induction h with
 |val x h=>exact .val x h
 |nil es row=>exact .nil es row
 |emp es row a=>exact .emp es row a
 |sl n es row b off cap u hAb hn hc hl hu hr ih=>
  by_cases h0:0<n * es
  ·have hn0:0<n:=Nat.pos_of_mul_pos_right h0
   have he0:0<es:=Nat.pos_of_mul_pos_left h0;have hb:b<w.heap.size:=C0z (hu 0 0 hn0 he0);have hnA:=hAb h0;refine .sl n es row b off cap u (fun _ h=>hnA (hA b hb h)) hn hc hl (fun i j hi hj=>?_) (fun i j c hi hj=>ih i j c hi hj);rw [←hu i j hi hj];exact World.cell?_of_block (hk b hnA hb)
  refine .sl n es row b off cap u (fun h=>absurd h h0) hn hc hl (fun i j hi hj=>?_) (fun i j c hi hj=>ih i j c hi hj);exact absurd (Nat.mul_pos (Nat.lt_of_le_of_lt (Nat.zero_le _) hi) (Nat.lt_of_le_of_lt (Nat.zero_le _) hj)) h0
theorem Qi.one {w:World}{A:Nat→Prop}{c:Ai}{v:Value}(h:Qi w A c v):v.oneCell'=true:=by
 cases h<;>first|assumption|rfl
inductive D3 (w:World):Ai→Value→List Nat→Prop
 |val (x:Value) (h:x.oneCell'=true):D3 w (.val x) x []
 |nil (es:Nat) (row:Nat→List Ai):D3 w (.sl 0 es row) (.slice none 0 0) []
 |emp (es:Nat) (row:Nat→List Ai) (b o:Nat):D3 w (.sl 0 es row) (.slice (some ⟨b,o,none⟩) 0 0) []
 |sl (n es:Nat) (row:Nat→List Ai) (b off cap:Nat) (ty:TypeId) (cells:Array Value) (fps:Nat→List Nat) (hn:n≤cap) (hc:cap≤maxLen)
   (hb:w.heap[b]? =some (.cells cells ty (0,0))) (hs:(off+cap) * es≤cells.size)
   (hl:∀i,i<n→(row i).length=es)
   (hr:∀i j c,i<n→(row i)[j]? =some c→D3 w c (cells.getD ((off+i) * es+j) undef) (fps (i * es+j))):
   D3 w (.sl n es row) (.slice (some ⟨b,off * es,none⟩) n cap) (b::(List.range (n * es)).flatMap fps)
theorem D3.one {w:World}{c:Ai}{v:Value}{fp:List Nat}(h:D3 w c v fp):v.oneCell'=true:=by
 cases h<;>first|assumption|rfl
theorem Ek {fps:Nat→List Nat}{n k b:Nat}(h:k<n)(hb:b∈fps k):b∈(List.range n).flatMap fps:=
 List.mem_flatMap.2 ⟨k,List.mem_range.2 h,hb⟩
theorem Fz {i j n es:Nat}(hi:i<n)(hj:j<es):i * es+j<n * es:=by
 have:i * es+es≤n * es:=by rw [←Nat.succ_mul];exact Nat.mul_le_mul_right es hi
 omega
theorem D3.move {w w':World}{c:Ai}{v:Value}{fp:List Nat}(h:D3 w c v fp)(hk:∀b∈fp,w'.heap[b]? =w.heap[b]?):D3 w' c v fp:=by
 induction h with
 |val x h=>exact .val x h
 |nil es row=>exact .nil es row
 |emp es row b o=>exact .emp es row b o
 |sl n es row b off cap ty cells fps hn hc hb hs hl hr ih=>
  refine .sl n es row b off cap ty cells fps hn hc (by rw [hk b C8];exact hb) hs hl (fun i j c hi hj=>ih i j c hi hj ?_);intro b' hb';have hj':j<es:=by have:=(List.getElem?_eq_some_iff.1 hj).1;rw [hl i hi] at this;exact this
  exact hk b' (List.mem_cons_of_mem _ (Ek (Fz hi hj') hb'))
theorem D3.lt {w:World}{c:Ai}{v:Value}{fp:List Nat}(h:D3 w c v fp):∀b∈fp,b<w.heap.size:=by
 induction h with
 |val x h=>simp
 |nil es row=>simp
 |emp es row b o=>simp
 |sl n es row b off cap ty cells fps hn hc hb hs hl hr ih=>
  intro b' hb'
  rcases List.mem_cons.1 hb' with rfl|hb'
  ·exact (Array.getElem?_eq_some_iff.1 hb).1
  obtain ⟨k,hk,hk'⟩:=List.mem_flatMap.1 hb';have hk:=List.mem_range.1 hk;have he:0<es:=Nat.pos_of_ne_zero (fun h=>by subst h;simp at hk);have hi:k / es<n:=Nat.div_lt_of_lt_mul (by rw [Nat.mul_comm];exact hk);have hj:k % es<(row (k / es)).length:=by rw [hl _ hi];exact Nat.mod_lt _ he
  refine ih (k / es) (k % es) _ hi (List.getElem?_eq_getElem hj) b' ?_;rw [Nat.mul_comm,Nat.div_add_mod];exact hk'
theorem D3.rep {w:World}{A:Nat→Prop}{c:Ai}{v:Value}{fp:List Nat}(h:D3 w c v fp)(hA:∀b∈fp,¬ A b):Qi w A c v:=by
 induction h with
 |val x h=>exact .val x h
 |nil es row=>exact .nil es row
 |emp es row b o=>exact .emp es row ⟨b,o,none⟩
 |sl n es row b off cap ty cells fps hn hc hb hs hl hr ih=>
  refine .sl n es row b (off * es) cap (fun i j=>cells.getD ((off+i) * es+j) undef) (fun _=>hA b C8) hn hc hl (fun i j hi hj=>?_) (fun i j c hi hj=>ih i j c hi hj ?_)
  ·have h1:off * es+i * es+j=(off+i) * es+j:=by rw [Nat.add_mul]
   have h2:(off+i) * es+j<cells.size:=by
    have:=Fz (show off+i<off+cap by omega) hj
    omega
   rw [h1,cell_of_row w b _ cells ty (0,0) hb]
   simp [Array.getD,h2]
  intro b' hb';have hj':j<es:=by have:=(List.getElem?_eq_some_iff.1 hj).1;rw [hl i hi] at this;exact this
  exact hA b' (List.mem_cons_of_mem _ (Ek (Fz hi hj') hb'))
structure E7 where
 ov:Nat→Value
 fp:Nat→List Nat
def C5k (v:Value):Nat:=
 match v with
 | .pointer (some a)=>a.block
 |_=>0
def E7.β (E:E7) (k:Nat):Nat:=C5k (E.ov k)
theorem E7.β_of {E E':E7}{k j:Nat}(h:E'.ov k=E.ov j):E'.β k=E.β j:=by unfold E7.β;rw [h]
inductive Dr (E:E7) (w:World) (A:Nat→Prop) (N:Nat):AV→Value→Prop
 |any (v:Value):Dr E w A N .any v
 |c {x:Ai} {v:Value} (h:Qi w A x v):Dr E w A N (.c x) v
 |own {k:Nat} (hk:k<N):Dr E w A N (.own k) (E.ov k)
 |box {k:Nat} (off:Nat) (hk:k<N):Dr E w A N (.box k off) (.pointer (some ⟨E.β k,off,none⟩))
 |agg {xs:List AV} (vs:List Value) (hl:vs.length=xs.length) (h:∀i x,xs[i]? =some x→Dr E w A N x (vs.getD i undef)):Dr E w A N (.agg xs) (.agg vs.toArray)
 |el {n es:Nat} {row:Nat→List Ai} {i:Int} (off b o cap:Nat) (hs:Qi w A (.sl n es row) (.slice (some ⟨b,o,none⟩) n cap)) (h0:0≤i) (hi:i<(n:Int)):
   Dr E w A N (.el n es row i off) (.pointer (some ⟨b,o+i.toNat * es+off,none⟩))
 |oel {k es:Nat} {i:Int} (off b o n cap:Nat) (hk:k<N) (hv:E.ov k= .slice (some ⟨b,o,none⟩) n cap) (h0:0≤i) (hi:i<(n:Int)):
   Dr E w A N (.oel k es i off) (.pointer (some ⟨b,o+i.toNat * es+off,none⟩))
 |tup {xs:List AV} (vs:List Value) (hl:vs.length=xs.length) (h:∀i x,xs[i]? =some x→Dr E w A N x (vs.getD i undef)):Dr E w A N (.tup xs) (.tuple vs.toArray)
 |fn {f:FuncId} {xs:List AV} (vs:List Value) (hl:vs.length=xs.length) (h:∀i x,xs[i]? =some x→Dr E w A N x (vs.getD i undef)):Dr E w A N (.fn f xs) (.func (.func f) #[] vs.toArray)
theorem Dr.move {E E':E7}{w w':World}{A A':Nat→Prop}{N N':Nat}{x:AV}{v:Value}(h:Dr E w A N x v)(hN:N≤N')
  (hE:∀k,k<N→E'.β k=E.β k∧E'.ov k=E.ov k)
  (hk:∀b,¬ A b→b<w.heap.size→w'.heap[b]? =w.heap[b]?)(hA:∀b,b<w.heap.size→A' b→A b):Dr E' w' A' N' x v:=by
 induction h with
 |any v=>exact .any v
 |c h=>exact .c (h.move hk hA)
 |own hk=>rw [←(hE _ hk).2];exact .own (Nat.lt_of_lt_of_le hk hN)
 |box off hk=>rw [←(hE _ hk).1];exact .box off (Nat.lt_of_lt_of_le hk hN)
 |agg vs hl h ih=>exact .agg vs hl ih
 |el off b o cap hs h0 hi=>exact .el off b o cap (hs.move hk hA) h0 hi
 |oel off b o n cap hk hv h0 hi=>exact .oel off b o n cap (Nat.lt_of_lt_of_le hk hN) (by rw [(hE _ hk).2];exact hv) h0 hi
 |tup vs hl h ih=>exact .tup vs hl ih
 |fn vs hl h ih=>exact .fn vs hl ih
theorem Dr.cell1 {E:E7}{w:World}{A:Nat→Prop}{N:Nat}{x:AV}{v:Value}(h:Dr E w A N x v)(hc:x.cellLike=true)(hO:∀k,k<N→(E.ov k).oneCell'=true):v.oneCell'=true:=by
 cases h<;>first|rfl|(simp [AV.cellLike] at hc;done)|(rename_i h;exact h.one)|(rename_i h;exact hO _ h)
def AS.avoid (s:AS) (E:E7) (b:Nat):Prop:=(∃x∈s.boxes,E.β x.key=b)∨∃y∈s.own,b∈E.fp y.key
structure Be where
 w0:World
 may:Nat→Prop
structure Be.rel (B:Be) (w:World):Prop where
 os:w.os=B.w0.os
 tape:w.tape=B.w0.tape
 output:w.output=B.w0.output
 size:B.w0.heap.size≤w.heap.size
 block:∀k,k<B.w0.heap.size→¬ B.may k→w.heap[k]? =B.w0.heap[k]?
 drawn:B.w0.drawn≤w.drawn
structure Ju (B:Nat) (w w':World):Prop where
 os:w'.os=w.os
 tape:w'.tape=w.tape
 output:w'.output=w.output
 size:w.heap.size≤w'.heap.size
 block:∀k,k<B→w'.heap[k]? =w.heap[k]?
 drawn:w.drawn≤w'.drawn
theorem Ju.refl (B:Nat)(w:World):Ju B w w:=⟨rfl,rfl,rfl,Nat.le_refl _,fun _ _=>rfl,Nat.le_refl _⟩
theorem Ju.kit {B:Nat}{w w':World}(h:Ju B w w'):Go.RowKit.Below B w w':=⟨h.os,h.tape,h.output,h.size,h.block⟩
def Be.fresh (B:Be) (b:Nat):Prop:=B.w0.heap.size≤b∨B.may b
structure AS.is (s:AS) (B:Be) (E:E7) (a:Act) (w:World):Prop where
 defers:a.defers=[]
 links:∀p∈s.links,p.1<s.next∧E.ov p.1=p.2
 size:a.tmps.size=s.slots.length
 slots:∀i x,s.slots[i]? =some x→Dr E w (s.avoid E) s.next x (a.tmps.getD i undef)
 boxes:∀x∈s.boxes,x.key<s.next∧∃vs ty,w.heap[E.β x.key]? =some (.cells vs ty (0,0))∧vs.size=x.cells.length∧
  ∀i y,x.cells[i]? =some y→Dr E w (s.avoid E) s.next y (vs.getD i undef)
 boxes2:∀x∈s.boxes,∀y∈s.boxes,E.β x.key=E.β y.key→x.key=y.key
 keys:(s.boxes.map (·.key)).Nodup
 own:∀y∈s.own,y.key<s.next∧D3 w y.cell (E.ov y.key) (E.fp y.key)∧(E.fp y.key).Nodup
 ownkeys:(s.own.map (·.key)).Nodup
 sep:∀y∈s.own,∀z∈s.own,y.key≠z.key→∀b∈E.fp y.key,b∉E.fp z.key
 sepB:∀x∈s.boxes,∀y∈s.own,E.β x.key∉E.fp y.key
 one:∀k,k<s.next→(E.ov k).oneCell'=true
 base:B.rel w
 fresh:∀b,s.avoid E b→B.fresh b
theorem AS.is.avoid_lt {s:AS}{B:Be}{E:E7}{a:Act}{w:World}(h:s.is B E a w){b:Nat}(hb:s.avoid E b):b<w.heap.size:=by
 rcases hb with ⟨x,hx,rfl⟩|⟨y,hy,hb⟩
 ·obtain ⟨_,vs,ty,h1,_⟩:=h.boxes x hx
  exact (Array.getElem?_eq_some_iff.1 h1).1
 exact (h.own y hy).2.1.lt b hb
theorem Cn (l:List AV)(i:Nat)(x:AV):(D6 l i x).length=l.length:=by
 induction l generalizing i with
 |nil=>rfl
 |cons y r ih=>cases i<;>simp [D6,ih]
theorem Dv (l:List AV)(i:Nat)(x:AV)(j:Nat):(D6 l i x)[j]? =if i=j∧j<l.length then some x else l[j]? :=by
 induction l generalizing i j with
 |nil=>simp [D6]
 |cons y r ih=>
  cases i with
  |zero=>cases j<;>simp [D6]
  |succ i=>cases j with
   |zero=>simp [D6]
   |succ j=>simp [D6,ih]
theorem Dc (l:List AV)(i:Nat):Hs l i=(l[i]?).getD .any:=by
 induction l generalizing i with
 |nil=>simp [Hs]
 |cons y r ih=>cases i<;>simp [Hs,ih]
theorem AS.is.put {s:AS}{B:Be}{E:E7}{a:Act}{w:World}(h:s.is B E a w)(d:Option Tmp){x:AV}{v:Value}(hx:Dr E w (s.avoid E) s.next x v):
  (s.put d x).is B E (a.put d v) w:=by
 cases d with
 |none=>exact h
 |some d=>
  refine ⟨h.defers,h.links,?_,?_,h.boxes,h.boxes2,h.keys,h.own,h.ownkeys,h.sep,h.sepB,h.one,h.base,h.fresh⟩
  ·simp [Act.put,AS.put,Cn,h.size]
  intro i y hy;simp only [AS.put,Dv] at hy;simp only [Act.put]
  by_cases hi:d=i∧i<s.slots.length
  ·rw [if_pos hi] at hy
   obtain ⟨rfl,hl⟩:=hi;obtain rfl:x=y:=by simpa using hy
   have:d<a.tmps.size:=by rw [h.size];exact hl
   change Dr E w (s.avoid E) s.next x _
   simpa [Array.getD,Array.size_setIfInBounds,this] using hx
  rw [if_neg hi] at hy;have hl:i<s.slots.length:=(List.getElem?_eq_some_iff.1 hy).1;have hne:d≠i:=fun e=>hi ⟨e,hl⟩
  have hsz:i<a.tmps.size:=by rw [h.size];exact hl
  have:=h.slots i y hy
  change Dr E w (s.avoid E) s.next y _
  simpa [Array.getD,Array.size_setIfInBounds,hsz,Array.getElem_setIfInBounds,hne] using this
theorem AS.is.ev {s:AS}{B:Be}{E:E7}{a:Act}{w:World}(h:s.is B E a w)(o:Operand):Dr E w (s.avoid E) s.next (s.ev o) (a.eval o):=by
 cases o with
 |tmp t=>
  simp only [AS.ev,Act.eval,Dc]
  by_cases hl:t<s.slots.length
  ·rw [List.getElem?_eq_getElem hl]
   exact h.slots t _ (List.getElem?_eq_getElem hl)
  rw [List.getElem?_eq_none (Nat.le_of_not_lt hl)];exact .any _
 |const v=>
  simp only [AS.ev,Act.eval]
  cases v<;>first|exact .any _|exact .c (.val _ rfl)
 |global g=>exact .any _
 |func f=>exact .fn [] rfl C8
end Go.Sx
namespace Go.Sx
def Cs (P:Program) (T:List (TypeId×TI)):Prop:=∀t i,find T t=some i→TI.of P t=some i
structure TI.Spec (P:Program) (t:TypeId) (i:TI) (f:TypeInfo) (d:TypeDesc) (z:Value):Prop where
 hf:P.info? t=some f
 hd:P.underlying t=some d
 hz:f.zero=some z
 size:f.size=i.size
 bytes:f.bytes=i.bytes
 cells:z.cells.toList=i.zero
 agg:i.agg=Is d
 fields:i.fields=(match d with| .struct fs=>fs.toList.map fun F=>(F.offset,F.type)|_=>[])
 elem:i.elem=(match d with| .slice e=>some e|_=>none)
 str:i.str=(match d with| .string=>true|_=>false)
 flat:i.flat=(match P.eqGuardType P.depth t with|true=>none|false=>Ss P 10 t)
 one:Is d=false→i.size=1
 zlen:i.zero.length=i.size
 zone:Ho i.zero=true
theorem TI.of_spec {P:Program}{t:TypeId}{i:TI}(h:TI.of P t=some i):∃f d z,TI.Spec P t i f d z:=by
 unfold TI.of at h
 split at h
 ·rename_i f d hf hd
  split at h
  ·simp at h
  ·simp at h
  ·simp at h
  rename_i z hz h1 h2
  simp only [Option.some.injEq] at h;subst h;simp only [hz,Option.map_some,Option.getD_some,Bool.and_eq_true] at h2;refine ⟨f,d,z,hf,hd,hz,rfl,rfl,rfl,rfl,by cases d<;>rfl,by cases d<;>rfl,by cases d<;>rfl,rfl,fun ha=>?_,by simpa using h2.1,h2.2⟩
  rw [ha] at h1
  simpa using h1
 simp at h
variable {P : Program} {T : List (TypeId × TI)}
theorem C0 {t:TypeId}{i:TI}(h:TI.of P t=some i)(w:World):(sizeOf t).run P w= .ok i.size w:=by
 obtain ⟨f,d,z,S⟩:=TI.of_spec h
 simp [sizeOf,typeInfo,S.hf,S.size]
theorem Rs {t:TypeId}{i:TI}(h:TI.of P t=some i):∃z,z.cells.toList=i.zero∧∀w,(zeroValue t).run P w= .ok z w:=by
 obtain ⟨f,d,z,S⟩:=TI.of_spec h;exact ⟨z,S.cells,fun w=>by simp [zeroValue,typeInfo,S.hf,S.hz]⟩
theorem A6o {t:TypeId}{i:TI}(h:TI.of P t=some i)(w:World):(isAgg t).run P w= .ok i.agg w:=by
 obtain ⟨f,d,z,S⟩:=TI.of_spec h;have hd:=S.hd;rw [S.agg]
 cases d<;>simp [isAgg,run_underlying hd,Is]
theorem Cm {t e:TypeId}{i:TI}(h:TI.of P t=some i)(he:i.elem=some e):P.underlying t=some (.slice e):=by
 obtain ⟨f,d,z,S⟩:=TI.of_spec h;have hd:=S.hd;rw [S.elem] at he
 cases d<;>simp at he
 subst he;exact hd
theorem U5 {t:TypeId}{i:TI}(h:TI.of P t=some i)(hs:i.str=true):P.underlying t=some .string:=by
 obtain ⟨f,d,z,S⟩:=TI.of_spec h;have hd:=S.hd;rw [S.str] at hs
 cases d<;>simp at hs
 exact hd
theorem Hh (b o n:Nat):(⟨b,o,none⟩:Addr).add n=⟨b,o+n,none⟩:=by
 unfold Addr.add
 split<;>simp_all
theorem Hp {t:TypeId}{i:TI}(h:TI.of P t=some i)(w:World)(b o:Nat)(vs:List Value)(hl:vs.length=i.size)
  (hc:∀j,j<i.size→w.cell? ⟨b,o+j,none⟩=some (vs.getD j undef)):
  (loadVar t ⟨b,o,none⟩).run P w= .ok (match i.agg with|true=> .agg vs.toArray|false=>vs.getD 0 undef) w:=by
 simp only [loadVar,Sem.run_bind,A6o h,Result.andThen_ok]
 cases hag:i.agg with
 |true=>
  have:(loadCells ⟨b,o,none⟩ vs.length).run P w= .ok vs.toArray w:=by
   refine run_loadCells_list (P:=P) w _ vs (fun j v hv=>?_);have hj:j<vs.length:=(List.getElem?_eq_some_iff.1 hv).1;rw [Hh,hc j Ad]
   simp [List.getD,hv]
  simp [C0 h,←hl,this]
 |false=>
  obtain ⟨f,d,z,S⟩:=TI.of_spec h;have h1:=S.one (by rw [←S.agg];exact hag)
  have:=hc 0 Ad
  simp only [Nat.add_zero] at this
  simp [this]
theorem A19 (l:List AV)(off n:Nat)(h:off+n≤l.length):(seg l off n).length=n:=by
 simp [seg];omega
theorem C2p (l:List AV)(off n j:Nat)(h:j<n):(seg l off n)[j]? =l[off+j]? :=by
 simp [seg,h]
theorem Qz {E:E7}{w:World}{A:Nat→Prop}{N:Nat}(cells:List AV)(vs:List Value)(off:Nat)(i:TI)(hl:off+i.size≤cells.length)
  (h:∀j x,cells[j]? =some x→Dr E w A N x (vs.getD j undef)):
  Dr E w A N (Le i cells off) (match i.agg with|true=> .agg ((List.range i.size).map fun j=>vs.getD (off+j) undef).toArray|false=>vs.getD off undef):=by
 unfold Le
 cases hag:i.agg with
 |true=>
  refine .agg _ (by simp [A19 _ _ _ hl]) (fun j x hj=>?_)
  have hj':j<i.size:=by
   have:=(List.getElem?_eq_some_iff.1 hj).1
   rwa [A19 _ _ _ hl] at this
  rw [C2p _ _ _ _ hj'] at hj
  have:=h _ _ hj
  simpa [List.getD,hj'] using this
 |false=>
  simp only [Dc]
  by_cases ho:off<cells.length
  ·rw [List.getElem?_eq_getElem ho]
   exact h off _ (List.getElem?_eq_getElem ho)
  rw [List.getElem?_eq_none (Nat.le_of_not_lt ho)];exact .any _
theorem F3 {l:List Bx}{k:Nat}{b:Bx}(h:Fl l k=some b):b∈l∧b.key=k:=by
 induction l with
 |nil=>simp [Fl] at h
 |cons x r ih=>
  unfold Fl at h
  split at h
  ·rename_i hk
   obtain rfl:=Option.some.inj h;exact ⟨by simp,Nat.eq_of_beq_eq_true hk⟩
  exact ⟨List.mem_cons_of_mem _ (ih h).1,(ih h).2⟩
theorem Cp {l:List Ow}{k:Nat}{c:Ai}(h:Cb l k=some c):⟨k,c⟩∈l:=by
 induction l with
 |nil=>simp [Cb] at h
 |cons x r ih=>
  unfold Cb at h
  split at h
  ·rename_i hk
   obtain rfl:=Option.some.inj h;obtain rfl:=Nat.eq_of_beq_eq_true hk
   simp
  exact List.mem_cons_of_mem _ (ih h)
theorem Cg (vs:Array Value)(j:Nat)(d:Value):vs.toList.getD j d=vs.getD j d:=by
 simp only [Array.getD,List.getD]
 split<;>simp_all
theorem AS.is.load {s:AS}{B:Be}{E:E7}{a:Act}{w:World}(h:s.is B E a w){t:TypeId}{i:TI}(ht:TI.of P t=some i){k off:Nat}{b:Bx}(hb:Fl s.boxes k=some b)
  (hl:off+i.size≤b.cells.length):∃v,(∀w',Ez w w'→(Instr.loadAt t (.pointer (some ⟨E.β k,off,none⟩))).run P w'= .ok v w')∧Dr E w (s.avoid E) s.next (Le i b.cells off) v:=by
 obtain ⟨hm,rfl⟩:=F3 hb;obtain ⟨_,vs,ty,hh,hs,hd⟩:=h.boxes b hm;refine ⟨_,fun w' hw'=>?_,Qz b.cells vs.toList off i hl (fun j x hj=>by rw [Cg];exact hd j x hj)⟩
 have:=Hp ht w' (E.β b.key) off ((List.range i.size).map fun j=>vs.toList.getD (off+j) undef) C8 (fun j hj=>by
  refine hw'.cell ?_;rw [cell_of_row w _ _ vs ty (0,0) hh]
  have:off+j<vs.size:=by omega
  simp [List.getD,this,hj])
 simp only [Instr.loadAt,Instr.sureAddr,Sem.run_bind,Sem.run_pure,Result.andThen_ok,this]
 cases hag:i.agg with
 |true=>rfl
 |false=>
  obtain ⟨f,d,z,S⟩:=TI.of_spec ht;have h1:=S.one (by rw [←S.agg];exact hag)
  simp [h1,List.getD]
theorem C1s {E:E7}{w:World}{A:Nat→Prop}{N:Nat}{t:TypeId}{i:TI}(ht:TI.of P t=some i){n es:Nat}{row:Nat→List Ai}{j:Int}{off b o cap:Nat}
  (hs:Qi w A (.sl n es row) (.slice (some ⟨b,o,none⟩) n cap))(h0:0≤j)(hj:j<(n:Int))(hl:off+i.size≤(row j.toNat).length):
  ∃v,(∀w',Ez w w'→(Instr.loadAt t (.pointer (some ⟨b,o+j.toNat * es+off,none⟩))).run P w'= .ok v w')∧Dr E w A N (Le i ((row j.toNat).map AV.ofCell) off) v:=by
 obtain ⟨m,rfl⟩:=Int.eq_ofNat_of_zero_le h0;simp only [Int.toNat_natCast,Int.ofNat_lt] at *
 cases hs with
 |emp=>omega
 |sl _ _ _ _ _ _ u hA hn hc hll hu hr=>
  have hes:=hll m hj;refine ⟨_,fun w' hw'=>?_,Qz ((row m).map AV.ofCell) ((List.range es).map (u m)) off i (by simpa using hl) (fun k x hk=>?_)⟩
  ·have:=Hp ht w' b (o+m * es+off) ((List.range i.size).map fun k=>((List.range es).map (u m)).getD (off+k) undef) C8 (fun k hk=>by
    have h1:off+k<es:=by omega
    have:=hw'.cell (hu m (off+k) hj h1)
    rw [show o+m * es+off+k=o+m * es+(off+k) by omega,this]
    simp [List.getD,hk,h1])
   simp only [Instr.loadAt,Instr.sureAddr,Sem.run_bind,Sem.run_pure,Result.andThen_ok,this]
   cases hag:i.agg with
   |true=>rfl
   |false=>
    obtain ⟨f,d,z,S⟩:=TI.of_spec ht;have h1:=S.one (by rw [←S.agg];exact hag)
    simp [h1,List.getD]
  simp only [List.getElem?_map,Option.map_eq_some_iff] at hk;obtain ⟨c,hc',rfl⟩:=hk;have hk':k<es:=by have:=(List.getElem?_eq_some_iff.1 hc').1;omega
  have:=hr m k c hj hc'
  simpa [List.getD,hk',AV.ofCell] using Dr.c (E:=E) (N:=N) this
theorem Np {E:E7}{w:World}{A:Nat→Prop}{N:Nat}{x:AV}{v:Value}(h:Dr E w A N x v)(hc:Jm x.cellsOf=true)(hO:∀k,k<N→(E.ov k).oneCell'=true):
  v.cells.size=x.cellsOf.length∧(∀j y,x.cellsOf[j]? =some y→Dr E w A N y (v.cells.getD j undef))∧∀y∈v.cells.toList,y.oneCell'=true:=by
 have all:∀(l:List AV),Jm l=true→∀y∈l,y.cellLike=true:=by
  intro l
  induction l with
  |nil=>simp
  |cons x r ih=>
   intro h;unfold Jm at h
   split at h
   ·rename_i hx
    intro y hy
    rcases List.mem_cons.1 hy with rfl|hy
    ·exact hx
    exact ih h y hy
   simp at h
 have hall:=all _ hc
 have single:x.cellsOf=[x]→v.cells= #[v]→v.cells.size=x.cellsOf.length∧(∀j y,x.cellsOf[j]? =some y→Dr E w A N y (v.cells.getD j undef))∧∀y∈v.cells.toList,y.oneCell'=true:=by
  intro e1 e2;rw [e1] at hall;have h1:=h.cell1 (hall x C8) hO;rw [e1,e2];refine ⟨rfl,fun j y hj=>?_,by simpa using h1⟩
  cases j with
  |zero=>obtain rfl:=Option.some.inj hj;simpa [Array.getD] using h
  |succ j=>simp at hj
 cases h with
 |any v=>simp [AV.cellsOf,Jm,AV.cellLike] at hc
 | @agg xs vs hl h=>
  simp only [AV.cellsOf] at *;refine ⟨by simp [Value.cells,hl],fun j y hj=>?_,?_⟩
  ·have e:(Value.agg vs.toArray).cells.getD j undef=vs.getD j undef:=by rw [←Cg];rfl
   rw [e];exact h j y hj
  intro y hy;simp only [Value.cells] at hy;obtain ⟨j,hj⟩:=List.mem_iff_getElem?.1 hy;have hj':j<xs.length:=by rw [←hl];exact (List.getElem?_eq_some_iff.1 (by simpa using hj)).1
  have:=h j _ (List.getElem?_eq_getElem hj')
  have h1:=this.cell1 (hall _ (List.getElem_mem hj')) hO
  simpa [List.getD,(show vs[j]? =some y by simpa using hj)] using h1
 |tup vs hl h=>simp [AV.cellsOf,Jm,AV.cellLike] at hc
 |c h=>exact single rfl (by have:=h.one;cases v<;>first|rfl|simp [Value.oneCell'] at this)
 |own hk=>exact single rfl (by have:=hO _ hk;revert this;generalize E.ov _=v;intro this;cases v<;>first|rfl|simp [Value.oneCell'] at this)
 |box off hk=>exact single rfl rfl
 |el off b o cap hs h0 hi=>exact single rfl rfl
 |oel off b o n cap hk hv h0 hi=>exact single rfl rfl
 |fn vs hl h=>exact single rfl rfl
end Go.Sx
namespace Go.Sx
variable {P : Program} {T : List (TypeId × TI)}
def E7.with (E:E7) (n b:Nat):E7:= {E with ov:=fun k=>if k=n then .pointer (some ⟨b,0,none⟩) else E.ov k}
theorem E7.with_self (E:E7)(n b:Nat):(E.with n b).β n=b:=by simp [E7.with,E7.β,C5k]
theorem E7.with_keep (E:E7)(n b:Nat):∀k,k<n→(E.with n b).β k=E.β k∧(E.with n b).ov k=E.ov k:=by
 intro k hk
 have:k≠n:=by omega
 have h:(E.with n b).ov k=E.ov k:=by simp [E7.with,this]
 exact ⟨E7.β_of h,h⟩
theorem Fv (w:World)(o:Obj)(b:Nat)(h:b<w.heap.size):(w.alloc o).heap[b]? =w.heap[b]? :=by
 show (w.heap.push o)[b]? =_
 rw [Array.getElem?_push,if_neg Ad]
def AS.newBox (s:AS) (cells:List AV):AS:= {s with boxes:= {key:=s.next,cells}::s.boxes,next:=s.next+1}
theorem AS.is.newBox {s:AS}{B:Be}{E:E7}{a:Act}{w:World}(h:s.is B E a w)(cells:List AV)(vs:Array Value)(ty:TypeId)
  (hs:vs.size=cells.length)(hd:∀j y,cells[j]? =some y→Dr E w (s.avoid E) s.next y (vs.getD j undef)):
  (s.newBox cells).is B (E.with s.next w.heap.size) a (w.alloc (.cells vs ty))∧
   Dr (E.with s.next w.heap.size) (w.alloc (.cells vs ty)) ((s.newBox cells).avoid (E.with s.next w.heap.size)) (s.newBox cells).next (.box s.next 0) (.pointer (some ⟨w.heap.size,0,none⟩)):=by
 have kb:∀x∈s.boxes,(E.with s.next w.heap.size).β x.key=E.β x.key:=fun x hx=>(E7.with_keep E _ _ _ (h.boxes x hx).1).1
 have av:∀b,(s.newBox cells).avoid (E.with s.next w.heap.size) b↔b=w.heap.size∨s.avoid E b:=by
  intro b
  constructor
  ·rintro (⟨x,hx,rfl⟩|⟨y,hy,hb⟩)
   ·rcases List.mem_cons.1 hx with rfl|hx
    ·left;exact E7.with_self _ _ _
    right;left;exact ⟨x,hx,(kb x hx).symm⟩
   right;right;exact ⟨y,hy,hb⟩
  rintro (rfl|⟨x,hx,rfl⟩|⟨y,hy,hb⟩)
  ·left;exact ⟨_,List.mem_cons_self,E7.with_self _ _ _⟩
  ·left;exact ⟨x,List.mem_cons_of_mem _ hx,kb x hx⟩
  right;exact ⟨y,hy,hb⟩
 have mv:∀x v,Dr E w (s.avoid E) s.next x v→Dr (E.with s.next w.heap.size) (w.alloc (.cells vs ty)) ((s.newBox cells).avoid (E.with s.next w.heap.size)) (s.newBox cells).next x v:=
  fun x v hx=>hx.move (Nat.le_succ _) (E7.with_keep E _ _) (fun b _ hb=>Fv w _ b hb) (fun b hb hav=>by
   rcases (av b).1 hav with rfl|h
   ·omega
   exact h)
 refine ⟨⟨h.defers,fun p hp=>⟨Nat.lt_succ_of_lt (h.links p hp).1,(E7.with_keep E _ _ _ (h.links p hp).1).2.trans (h.links p hp).2⟩,h.size,fun i x hx=>mv _ _ (h.slots i x hx),?_,?_,?_,?_,h.ownkeys,?_,?_,?_,?_,?_⟩,?_⟩
 ·intro x hx
  rcases List.mem_cons.1 hx with rfl|hx
  ·refine ⟨Nat.lt_succ_self _,vs,ty,?_,hs,fun j y hj=>mv _ _ (hd j y hj)⟩
   have:(E.with s.next w.heap.size).β s.next=w.heap.size:=E7.with_self _ _ _
   rw [this];exact heap_alloc_new w _
  obtain ⟨h1,vs',ty',h2,h3,h4⟩:=h.boxes x hx;refine ⟨Nat.lt_succ_of_lt h1,vs',ty',?_,h3,fun j y hj=>mv _ _ (h4 j y hj)⟩;rw [kb x hx,Fv w _ _ (Array.getElem?_eq_some_iff.1 h2).1];exact h2
 ·intro x hx y hy he
  rcases List.mem_cons.1 hx with rfl|hx<;>rcases List.mem_cons.1 hy with rfl|hy
  ·rfl
  ·exfalso
   rw [kb y hy] at he;simp only [E7.with_self] at he
   have:=h.avoid_lt (.inl ⟨y,hy,rfl⟩)
   omega
  ·exfalso
   rw [kb x hx] at he;simp only [E7.with_self] at he
   have:=h.avoid_lt (.inl ⟨x,hx,rfl⟩)
   omega
  rw [kb x hx,kb y hy] at he;exact h.boxes2 x hx y hy he
 ·simp only [AS.newBox,List.map_cons,List.nodup_cons]
  refine ⟨fun hm=>?_,h.keys⟩;obtain ⟨x,hx,e⟩:=List.mem_map.1 hm
  have:=(h.boxes x hx).1
  omega
 ·intro y hy
  obtain ⟨h1,h2,h3⟩:=h.own y hy;refine ⟨Nat.lt_succ_of_lt h1,?_,h3⟩;rw [(E7.with_keep E _ _ _ h1).2];exact h2.move (fun b hb=>Fv w _ b (h2.lt b hb))
 ·exact h.sep
 ·intro x hx y hy hb
  rcases List.mem_cons.1 hx with rfl|hx
  ·simp only [E7.with_self] at hb
   have:=(h.own y hy).2.1.lt _ hb
   omega
  rw [kb x hx] at hb;exact h.sepB x hx y hy hb
 ·intro k hk
  by_cases e:k=s.next
  ·subst e;simp [E7.with,Value.oneCell']
  have hk':k<s.next:=by have:k<s.next+1:=hk;omega
  rw [(E7.with_keep E _ _ _ hk').2];exact h.one k hk'
 ·refine ⟨h.base.os,h.base.tape,h.base.output,by simp;have:=h.base.size;omega,fun k hk hm=>?_,h.base.drawn⟩
  rw [Fv w _ _ (Nat.lt_of_lt_of_le hk h.base.size)];exact h.base.block k hk hm
 ·intro b hb
  rcases (av b).1 hb with rfl|hb
  ·exact .inl h.base.size
  exact h.fresh b hb
 have e:(E.with s.next w.heap.size).β s.next=w.heap.size:=E7.with_self _ _ _
 have:=Dr.box (E:=E.with s.next w.heap.size) (w:=w.alloc (.cells vs ty)) (A:=(s.newBox cells).avoid (E.with s.next w.heap.size)) (N:=s.next+1) (k:=s.next) 0 (Nat.lt_succ_self _)
 rw [e] at this;exact this
theorem F4 {l:List Bx}{k:Nat}{cs:List AV}{x:Bx}(hx:x∈F7 l k cs)(hn:(l.map (·.key)).Nodup):(x.key=k∧x.cells=cs∧∃y∈l,y.key=k)∨(x∈l∧x.key≠k):=by
 induction l with
 |nil=>simp [F7] at hx
 |cons y r ih=>
  simp only [List.map_cons,List.nodup_cons] at hn;unfold F7 at hx
  split at hx
  ·rename_i hk
   have hk:=Nat.eq_of_beq_eq_true hk
   rcases List.mem_cons.1 hx with rfl|hx
   ·exact .inl ⟨hk,rfl,y,by simp,hk⟩
   refine .inr ⟨List.mem_cons_of_mem _ hx,fun e=>hn.1 ?_⟩
   exact List.mem_map.2 ⟨x,hx,by rw [e,hk]⟩
  rename_i hk
  rcases List.mem_cons.1 hx with rfl|hx
  ·exact .inr ⟨by simp,fun e=>by rw [e] at hk;simp at hk⟩
  rcases ih hx hn.2 with ⟨h1,h2,z,hz,h3⟩|⟨h1,h2⟩
  ·exact .inl ⟨h1,h2,z,List.mem_cons_of_mem _ hz,h3⟩
  exact .inr ⟨List.mem_cons_of_mem _ h1,h2⟩
theorem Nb (l:List Bx)(k:Nat)(cs:List AV):(F7 l k cs).map (·.key)=l.map (·.key):=by
 induction l with
 |nil=>rfl
 |cons y r ih=>
  unfold F7
  split
  ·rfl
  simp [ih]
theorem A4m {l:List Bx}{k:Nat}{cs:List AV}{x:Bx}(hx:x∈l):∃y∈F7 l k cs,y.key=x.key:=by
 have:x.key∈(F7 l k cs).map (·.key):=by rw [Nb];exact List.mem_map.2 ⟨x,hx,rfl⟩
 obtain ⟨y,hy,e⟩:=List.mem_map.1 this;exact ⟨y,hy,e⟩
theorem Fg (w:World)(g k:Nat)(cs:Array Value)(h:k≠g):(w.setRow g cs).heap[k]? =w.heap[k]? :=by
 simp only [World.setRow,Array.getElem?_modify];rw [if_neg Ad]
theorem AS.is.setBox {s:AS}{B:Be}{E:E7}{a:Act}{w:World}(h:s.is B E a w){k:Nat}{b:Bx}(hb:Fl s.boxes k=some b)(cells:List AV)(vs:Array Value)
  (hs:vs.size=cells.length)(hd:∀j y,cells[j]? =some y→Dr E w (s.avoid E) s.next y (vs.getD j undef)):
  ({s with boxes:=F7 s.boxes k cells}:AS).is B E a (w.setRow (E.β k) vs):=by
 obtain ⟨hm,rfl⟩:=F3 hb;obtain ⟨hlt,vs0,ty0,hh0,_,_⟩:=h.boxes b hm
 have av:∀c,({s with boxes:=F7 s.boxes b.key cells}:AS).avoid E c↔s.avoid E c:=by
  intro c
  constructor
  ·rintro (⟨x,hx,rfl⟩|h)
   ·rcases F4 hx h.keys with ⟨h1,_,y,hy,h2⟩|⟨h1,_⟩
    ·exact .inl ⟨y,hy,by rw [h1,h2]⟩
    exact .inl ⟨x,h1,rfl⟩
   exact .inr h
  rintro (⟨x,hx,rfl⟩|h)
  ·obtain ⟨y,hy,e⟩:=A4m (k:=b.key) (cs:=cells) hx
   exact .inl ⟨y,hy,by rw [e]⟩
  exact .inr h
 have hav:s.avoid E (E.β b.key):= .inl ⟨b,hm,rfl⟩
 have mv:∀x v,Dr E w (s.avoid E) s.next x v→Dr E (w.setRow (E.β b.key) vs) (({s with boxes:=F7 s.boxes b.key cells}:AS).avoid E) s.next x v:=
  fun x v hx=>hx.move (Nat.le_refl _) (fun _ _=>⟨rfl,rfl⟩) (fun c hc _=>Fg w _ _ _ (fun e=>hc (e▸hav))) (fun c _ hc=>(av c).1 hc)
 refine ⟨h.defers,h.links,h.size,fun i x hx=>mv _ _ (h.slots i x hx),?_,?_,?_,?_,h.ownkeys,h.sep,?_,h.one,?_,?_⟩
 ·intro x hx
  rcases F4 hx h.keys with ⟨h1,h2,_⟩|⟨h1,h2⟩
  ·refine ⟨h1▸hlt,vs,ty0,?_,by rw [h2];exact hs,fun j y hj=>mv _ _ (hd j y (by rw [←h2];exact hj))⟩
   rw [h1];exact setRow_heap w _ vs0 vs ty0 (0,0) hh0
  obtain ⟨g1,vs',ty',g2,g3,g4⟩:=h.boxes x h1;refine ⟨g1,vs',ty',?_,g3,fun j y hj=>mv _ _ (g4 j y hj)⟩;rw [Fg w _ _ _ (fun e=>h2 (h.boxes2 x h1 b hm e))];exact g2
 ·intro x hx y hy he
  rcases F4 hx h.keys with ⟨h1,_⟩|⟨h1,h2⟩<;>rcases F4 hy h.keys with ⟨g1,_⟩|⟨g1,g2⟩
  ·rw [h1,g1]
  ·rw [h1] at he ⊢
   exact h.boxes2 b hm y g1 he
  ·rw [g1] at he ⊢
   exact h.boxes2 x h1 b hm he
  exact h.boxes2 x h1 y g1 he
 ·show ((F7 s.boxes b.key cells).map (·.key)).Nodup
  rw [Nb];exact h.keys
 ·intro y hy
  obtain ⟨g1,g2,g3⟩:=h.own y hy;refine ⟨g1,g2.move (fun c hc=>Fg w _ _ _ (fun e=>?_)),g3⟩;exact h.sepB b hm y hy (e▸hc)
 ·intro x hx y hy
  rcases F4 hx h.keys with ⟨h1,_⟩|⟨h1,_⟩
  ·rw [h1];exact h.sepB b hm y hy
  exact h.sepB x h1 y hy
 ·refine ⟨h.base.os,h.base.tape,h.base.output,by simpa using h.base.size,fun k hk hm'=>?_,h.base.drawn⟩
  have hne:k≠E.β b.key:=by
   intro e
   rcases h.fresh _ hav with h1|h1
   ·omega
   exact hm' (e▸h1)
  rw [Fg w _ _ _ hne];exact h.base.block k hk hm'
 intro c hc;exact h.fresh c ((av c).1 hc)
theorem Te (l:List AV)(off:Nat)(xs:List AV):(Oe l off xs).length=l.length:=by
 induction xs generalizing l off with
 |nil=>rfl
 |cons x r ih=>simp [Oe,ih,Cn]
theorem B17 (l:List AV)(off:Nat)(xs:List AV)(j:Nat):(Oe l off xs)[j]? =if off≤j∧j<off+xs.length∧j<l.length then xs[j-off]? else l[j]? :=by
 induction xs generalizing l off with
 |nil=>simp [Oe];intro h1 h2;omega
 |cons x r ih=>
  simp only [Oe,ih,Cn,Dv,List.length_cons]
  by_cases h1:off=j
  ·subst h1
   by_cases hl:off<l.length
   ·rw [if_neg Ad,if_pos ⟨rfl,hl⟩,if_pos Ad];simp
   rw [if_neg Ad,if_neg Ad,if_neg Ad]
  by_cases h2:off+1≤j∧j<off+1+r.length∧j<l.length
  ·rw [if_pos h2,if_pos Ad]
   obtain ⟨m,rfl⟩:∃m,j=off+1+m:=⟨j-(off+1),by omega⟩
   simp [show off+1+m-off=m+1 by omega]
  rw [if_neg h2,if_neg Ad,if_neg Ad]
end Go.Sx
namespace Go.Sx
variable {P : Program} {T : List (TypeId × TI)}
def eqV (ks:List CK) (xs ys:List Value):Option Bool:=
 match ks,xs,ys with
 | [],[],[]=>some true
 | .int k::ks,.int i a::xs,.int j b::ys=>
  match La i k,La j k with
  |true,true=>A7l (a==b) (eqV ks xs ys)
  |_,_=>none
 | .bool::ks,.bool a::xs,.bool b::ys=>A7l (a==b) (eqV ks xs ys)
 |_,_,_=>none
theorem S2 {a:Bool}{o:Option Bool}{r:Bool}(h:A7l a o=some r):∃b,o=some b∧r=(a&&b):=by
 unfold A7l at h
 split at h
 ·rename_i b;exact ⟨b,rfl,by simpa using h.symm⟩
 simp at h
theorem Ns {ks:List CK}{xs ys:List Value}{r:Bool}(h:eqV ks xs ys=some r):
  (ks=[]∧xs=[]∧ys=[]∧r=true)∨(∃k a b ks' xs' ys' q,ks= .int k::ks'∧xs= .int k a::xs'∧ys= .int k b::ys'∧eqV ks' xs' ys'=some q∧r=(a==b&&q))∨
  (∃a b ks' xs' ys' q,ks= .bool::ks'∧xs= .bool a::xs'∧ys= .bool b::ys'∧eqV ks' xs' ys'=some q∧r=(a==b&&q)):=by
 unfold eqV at h
 split at h
 ·exact .inl ⟨rfl,rfl,rfl,by simpa using h.symm⟩
 ·rename_i k ks i a xs j b ys
  split at h
  ·rename_i h1 h2
   obtain rfl:i=k:=by simpa [La] using h1
   obtain rfl:j=i:=by simpa [La] using h2
   obtain ⟨q,hq,rfl⟩:=S2 h;exact .inr (.inl ⟨j,a,b,ks,xs,ys,q,rfl,rfl,rfl,hq,rfl⟩)
  simp at h
 ·rename_i ks a xs b ys
  obtain ⟨q,hq,rfl⟩:=S2 h;exact .inr (.inr ⟨a,b,ks,xs,ys,q,rfl,rfl,rfl,hq,rfl⟩)
 simp at h
theorem B21 {k:IntKind}{a b:Int}{ks:List CK}{xs ys:List Value}{q:Bool}(h:eqV ks xs ys=some q):eqV (.int k::ks) (.int k a::xs) (.int k b::ys)=some (a==b&&q):=by
 simp [eqV,La,h,A7l]
theorem A72 {a b:Bool}{ks:List CK}{xs ys:List Value}{q:Bool}(h:eqV ks xs ys=some q):eqV (.bool::ks) (.bool a::xs) (.bool b::ys)=some (a==b&&q):=by
 simp [eqV,h,A7l]
theorem B0v {ks:List CK}{xs ys:List Value}{r:Bool}(h:eqV ks xs ys=some r):xs.length=ks.length∧ys.length=ks.length:=by
 induction ks generalizing xs ys r with
 |nil=>
  rcases Ns h with ⟨_,rfl,rfl,_⟩|⟨_,_,_,_,_,_,_,h,_⟩|⟨_,_,_,_,_,_,h,_⟩<;>simp_all
 |cons c ks ih=>
  rcases Ns h with ⟨h,_⟩|⟨k,a,b,ks',xs',ys',q,e,rfl,rfl,hq,_⟩|⟨a,b,ks',xs',ys',q,e,rfl,rfl,hq,_⟩
  ·simp at h
  ·simp only [List.cons.injEq] at e;obtain ⟨_,rfl⟩:=e;have:=ih hq;simp [this]
  simp only [List.cons.injEq] at e;obtain ⟨_,rfl⟩:=e;have:=ih hq;simp [this]
theorem B44 {ks js:List CK}{xs ys:List Value}{r:Bool}(h:eqV (ks++js) xs ys=some r):
  ∃r1 r2,eqV ks (xs.take ks.length) (ys.take ks.length)=some r1∧eqV js (xs.drop ks.length) (ys.drop ks.length)=some r2∧r=(r1&&r2):=by
 induction ks generalizing xs ys r with
 |nil=>exact ⟨true,r,by simp [eqV],by simpa using h,by simp⟩
 |cons c ks ih=>
  rcases Ns h with ⟨h,_⟩|⟨k,a,b,ks',xs',ys',q,e,rfl,rfl,hq,rfl⟩|⟨a,b,ks',xs',ys',q,e,rfl,rfl,hq,rfl⟩
  ·simp at h
  ·simp only [List.cons_append,List.cons.injEq] at e
   obtain ⟨rfl,rfl⟩:=e;obtain ⟨r1,r2,h1,h2,rfl⟩:=ih hq;exact ⟨a==b&&r1,r2,by simpa using B21 h1,by simpa using h2,by simp [Bool.and_assoc]⟩
  simp only [List.cons_append,List.cons.injEq] at e;obtain ⟨rfl,rfl⟩:=e;obtain ⟨r1,r2,h1,h2,rfl⟩:=ih hq;exact ⟨a==b&&r1,r2,by simpa using A72 h1,by simpa using h2,by simp [Bool.and_assoc]⟩
theorem Bo {E:E7}{w:World}{A:Nat→Prop}{N:Nat}{x v:Value}(h:Dr E w A N (.v x) v):v=x:=by
 cases h with|c h=>cases h;rfl
theorem A70 {ks:List CK}{xs ys:List AV}{r:Bool}(h:A2y ks xs ys=some r):
  (ks=[]∧xs=[]∧ys=[]∧r=true)∨(∃k a b ks' xs' ys' q,ks= .int k::ks'∧xs= .v (.int k a)::xs'∧ys= .v (.int k b)::ys'∧A2y ks' xs' ys'=some q∧r=(a==b&&q))∨
  (∃a b ks' xs' ys' q,ks= .bool::ks'∧xs= .v (.bool a)::xs'∧ys= .v (.bool b)::ys'∧A2y ks' xs' ys'=some q∧r=(a==b&&q)):=by
 unfold A2y at h
 split at h
 ·exact .inl ⟨rfl,rfl,rfl,by simpa using h.symm⟩
 ·rename_i k ks i a xs j b ys
  split at h
  ·rename_i h1 h2
   obtain rfl:i=k:=by simpa [La] using h1
   obtain rfl:j=i:=by simpa [La] using h2
   obtain ⟨q,hq,rfl⟩:=S2 h;exact .inr (.inl ⟨j,a,b,ks,xs,ys,q,rfl,rfl,rfl,hq,rfl⟩)
  simp at h
 ·rename_i ks a xs b ys
  obtain ⟨q,hq,rfl⟩:=S2 h;exact .inr (.inr ⟨a,b,ks,xs,ys,q,rfl,rfl,rfl,hq,rfl⟩)
 simp at h
theorem B43 {E:E7}{w:World}{A:Nat→Prop}{N:Nat}{ks:List CK}{xs ys:List AV}{r:Bool}(h:A2y ks xs ys=some r){us vs:List Value}
  (lu:us.length=xs.length)(lv:vs.length=ys.length)
  (hx:∀i x,xs[i]? =some x→Dr E w A N x (us.getD i undef))(hy:∀i y,ys[i]? =some y→Dr E w A N y (vs.getD i undef)):
  eqV ks us vs=some r:=by
 induction ks generalizing xs ys us vs r with
 |nil=>
  rcases A70 h with ⟨_,rfl,rfl,rfl⟩|⟨_,_,_,_,_,_,_,h,_⟩|⟨_,_,_,_,_,_,h,_⟩
  ·obtain rfl:=List.eq_nil_of_length_eq_zero lu
   obtain rfl:=List.eq_nil_of_length_eq_zero lv;rfl
  ·simp at h
  simp at h
 |cons c ks ih=>
  have step:∀{x y:AV} {xs' ys':List AV} {u v:Value} {us' vs':List Value} {q:Bool},xs=x::xs'→ys=y::ys'→us=u::us'→vs=v::vs'→A2y ks xs' ys'=some q→
    Dr E w A N x u∧Dr E w A N y v∧eqV ks us' vs'=some q:=by
   rintro x y xs' ys' u v us' vs' q rfl rfl rfl rfl hq
   refine ⟨by simpa using hx 0 _ rfl,by simpa using hy 0 _ rfl,ih hq (by simpa using lu) (by simpa using lv) (fun i x hi=>by simpa using hx (i+1) x (by simpa using hi)) (fun i x hi=>by simpa using hy (i+1) x (by simpa using hi))⟩
  have ex:∀{α:Type} {l:List Value} {x:α} {m:List α},l.length=(x::m).length→∃u us',l=u::us':=by
   intro α l x m h
   cases l with
   |nil=>simp at h
   |cons u us'=>exact ⟨u,us',rfl⟩
  rcases A70 h with ⟨h,_⟩|⟨k,a,b,ks',xs',ys',q,e,e1,e2,hq,rfl⟩|⟨a,b,ks',xs',ys',q,e,e1,e2,hq,rfl⟩
  ·simp at h
  ·simp only [List.cons.injEq] at e
   obtain ⟨rfl,rfl⟩:=e;obtain ⟨u,us',eu⟩:=ex (by rw [lu,e1]);obtain ⟨v,vs',ev⟩:=ex (by rw [lv,e2]);obtain ⟨d1,d2,hq'⟩:=step e1 e2 eu ev hq;obtain rfl:=Bo d1;obtain rfl:=Bo d2;rw [eu,ev];exact B21 hq'
  simp only [List.cons.injEq] at e;obtain ⟨rfl,rfl⟩:=e;obtain ⟨u,us',eu⟩:=ex (by rw [lu,e1]);obtain ⟨v,vs',ev⟩:=ex (by rw [lv,e2]);obtain ⟨d1,d2,hq'⟩:=step e1 e2 eu ev hq;obtain rfl:=Bo d1;obtain rfl:=Bo d2;rw [eu,ev];exact A72 hq'
def Qp (P:Program) (t:TypeId) (us:List Value):Value:=
 match (P.underlying t).map Is with
 |some true=> .agg us.toArray
 |_=>us.getD 0 undef
theorem A17 (t:TypeId)(us:List Value)(off:Nat)(w:World)(hd:(P.underlying t).isSome=true)(hi:(P.info? t).isSome=true)(hl:off+P.cellsOf t≤us.length)(h1:0<P.cellsOf t):
  (part t us.toArray off).run P w= .ok (Qp P t ((us.drop off).take (P.cellsOf t))) w:=by
 obtain ⟨d,hd⟩:=Option.isSome_iff_exists.1 hd;obtain ⟨i,hi⟩:=Option.isSome_iff_exists.1 hi;have hs:P.cellsOf t=i.size:=by simp [Program.cellsOf,hi]
 have hag:∀w,(isAgg t).run P w= .ok (Is d) w:=by intro w;cases d<;>simp [isAgg,run_underlying hd,Is]
 simp only [part,Sem.run_bind,hag,Result.andThen_ok,Qp,hd,Option.map_some]
 cases hda:Is d with
 |true=>
  simp only [if_true,Sem.run_bind,sizeOf,typeInfo,run_program,Result.andThen_ok,hi,Sem.run_pure,hs]
  congr 2
  apply Array.ext'
  simp [List.extract_eq_take_drop]
 |false=>
  have:off<us.length:=by omega
  simp only [Bool.false_eq_true,if_false];rw [show us.toArray[off]? =some us[off] by simp [this]]
  simp [List.getD,h1,this]
structure B6q (P:Program) (d:Nat) (t:TypeId) (ks:List CK):Prop where
 len:ks.length=P.cellsOf t
 info:(P.info? t).isSome=true
 pos:0<ks.length
 desc:P.underlying t=some (.int (match ks with| [.int k]=>k|_=> .i64))∧(∃k,ks=[.int k])∨(P.underlying t=some .bool∧ks=[.bool])∨
  ∃fs,P.underlying t=some (.struct fs)∧P.stoodInHeld t=false∧A3z (Ss P d) fs.toList 0=some ks
theorem Po {d:Nat}{t:TypeId}{ks:List CK}(h:Ss P (d+1) t=some ks):B6q P d t ks:=by
 unfold Ss at h
 split at h
 ·rename_i js hj
  split at h
  ·rename_i h1 h2 h3
   obtain rfl:=Option.some.inj h;refine ⟨Nat.eq_of_beq_eq_true h1,h2,Nat.le_of_ble_eq_true h3,?_⟩
   split at hj
   ·rename_i k hk
    obtain rfl:=Option.some.inj hj;exact .inl ⟨hk,k,rfl⟩
   ·rename_i hk
    obtain rfl:=Option.some.inj hj;exact .inr (.inl ⟨hk,rfl⟩)
   ·rename_i fs hk
    split at hj
    ·simp at hj
    rename_i hs
    exact .inr (.inr ⟨fs,hk,hs,hj⟩)
   simp at hj
  simp at h
 simp at h
theorem C1d:∀(d:Nat) (t:TypeId) (ks:List CK),Ss P d t=some ks→∀(us vs:List Value) (r:Bool),eqV ks us vs=some r→∀(m:Nat),d≤m→∀w,
  (Op.equalIn m t (Qp P t us) (Qp P t vs)).run P w= .ok r w:=by
 intro d
 induction d with
 |zero=>intro t ks h;simp [Ss] at h
 |succ d ih=>
  intro t ks h us vs r he m hm w;obtain ⟨m,rfl⟩:∃k,m=k+1:=⟨m-1,by omega⟩;have S:=Po h
  rcases S.desc with ⟨hk,k,rfl⟩|⟨hk,rfl⟩|⟨fs,hk,hst,hf⟩
  ·rcases Ns he with ⟨h,_⟩|⟨k',a,b,ks',xs',ys',q,e,rfl,rfl,hq,rfl⟩|⟨a,b,ks',xs',ys',q,e,_⟩
   ·simp at h
   ·simp only [List.cons.injEq,CK.int.injEq] at e
    obtain ⟨rfl,rfl⟩:=e
    rcases Ns hq with ⟨_,rfl,rfl,rfl⟩|⟨_,_,_,_,_,_,_,h,_⟩|⟨_,_,_,_,_,_,h,_⟩
    ·simp only [Qp,hk,Option.map_some,Is,List.getD_cons_zero]
     rw [run_equalIn_int w m t k k a b hk]
     simp
    ·simp at h
    simp at h
   simp at e
  ·rcases Ns he with ⟨h,_⟩|⟨k',a,b,ks',xs',ys',q,e,_⟩|⟨a,b,ks',xs',ys',q,e,rfl,rfl,hq,rfl⟩
   ·simp at h
   ·simp at e
   simp only [List.cons.injEq] at e;obtain ⟨_,rfl⟩:=e
   rcases Ns hq with ⟨_,rfl,rfl,rfl⟩|⟨_,_,_,_,_,_,_,h,_⟩|⟨_,_,_,_,_,_,h,_⟩
   ·simp only [Qp,hk,Option.map_some,Is,List.getD_cons_zero]
    rw [run_equalIn_bool' w m t a b hk]
    simp
   ·simp at h
   simp at h
  have hfo:P.fieldsOf t=fs:=by simp [Program.fieldsOf,hk]
  have key:∀(l:List Field) (off:Nat) (js:List CK) (q:Bool),A3z (Ss P d) l off=some js→eqV js (us.drop off) (vs.drop off)=some q→∀w,
    (Op.eqFields m us.toArray vs.toArray l).run P w= .ok q w:=by
   intro l
   induction l with
   |nil=>
    intro off js q hj hq w;obtain rfl:[]=js:=by simpa [A3z] using hj
    rcases Ns hq with ⟨_,_,_,rfl⟩|⟨_,_,_,_,_,_,_,h,_⟩|⟨_,_,_,_,_,_,h,_⟩
    ·simp [Op.eqFields]
    ·simp at h
    simp at h
   |cons f l ihl=>
    intro off js q hj hq w;unfold A3z at hj
    split at hj
    ·rename_i hnm hof
     obtain rfl:=Nat.eq_of_beq_eq_true hof
     split at hj
     ·rename_i k1 hk1
      split at hj
      ·rename_i k2 hk2
       obtain rfl:=Option.some.inj hj;obtain ⟨r1,r2,h1,h2,rfl⟩:=B44 hq;simp only [List.drop_drop] at h2
       obtain ⟨dd,rfl⟩:∃dd,d=dd+1:=by
        cases d with
        |zero=>simp [Ss] at hk1
        |succ dd=>exact ⟨dd,rfl⟩
       have S1:=Po hk1
       have hund:(P.underlying f.type).isSome=true:=by
        rcases S1.desc with ⟨h,_⟩|⟨h,_⟩|⟨_,h,_⟩<;>simp [h]
       have l1:=B0v h1;have hp:=S1.pos;simp only [List.length_take,List.length_drop] at l1;have hne:f.name≠ "_" :=by simpa using hnm
       have p1:=A17 (P:=P) f.type us f.offset w hund S1.info (by rw [←S1.len];omega) (by rw [←S1.len];omega);have p2:=A17 (P:=P) f.type vs f.offset w hund S1.info (by rw [←S1.len];omega) (by rw [←S1.len];omega);rw [←S1.len] at p1 p2;have p3:=ih f.type k1 hk1 _ _ r1 h1 m Ad w;simp only [Op.eqFields,hne,ne_eq,not_false_eq_true,if_true,Sem.run_bind,p1,p2,p3,Result.andThen_ok,Sem.run_ite,Sem.run_pure]
       cases r1 with
       |true=>simpa using ihl _ _ _ hk2 h2 w
       |false=>simp
      simp at hj
     simp at hj
    simp at hj
  have:=key fs.toList 0 ks r hf (by simpa using he) w
  simp only [Qp,hk,Option.map_some,Is];rw [run_equalIn_struct w m t us.toArray vs.toArray (by rw [hfo];exact hk) hst,hfo];exact this
end Go.Sx
namespace Go.Sx
variable {P : Program} {T : List (TypeId × TI)}
theorem Ix {k:IntKind}{n:Int}(h:Gk k n):k.wrap n=n:=by
 cases k<;>simp only [Gk] at h<;>simp only [IntKind.wrap,IntKind.bits,IntKind.signed]<;>simp<;>omega
theorem Nr (op:BinOp)(t:TypeId)(x y:Operand)(k j:IntKind)(a b:Int)(w:World):(eqGuard op t x y (.int k a) (.int j b)).run P w= .ok () w:=by
 cases op<;>simp [eqGuard]
theorem Ut (op:BinOp)(t:TypeId)(x y:Operand)(a b:Bool)(w:World):(eqGuard op t x y (.bool a) (.bool b)).run P w= .ok () w:=by
 cases op<;>simp [eqGuard]
theorem A71 (op:BinOp)(t:TypeId)(x y:Operand)(a b:ByteArray)(w:World):(eqGuard op t x y (.string a) (.string b)).run P w= .ok () w:=by
 cases op<;>simp [eqGuard]
theorem B68 (hT:Cs P T){wr:Bool}{op:BinOp}{t:TypeId}{x y z:AV}{ps:List Prop}(hs:Zp wr T op t x y= .ok ps z)(hp:∀p∈ps,p)
  {E:E7}{w:World}{A:Nat→Prop}{N:Nat}{u v:Value}(hu:Dr E w A N x u)(hv:Dr E w A N y v)(ox oy:Operand):
  ∃r,(∀w,(do eqGuard op t ox oy u v;binOp op t u v:Sem Value).run P w= .ok r w)∧Dr E w A N z r:=by
 have den:∀(r:Value),r.oneCell'=true→Dr E w A N (.v r) r:=fun r h=> .c (.val r h);unfold Zp at hs
 split at hs
 ·rename_i k a j b
  obtain rfl:=Bo hu;obtain rfl:=Bo hv
  split at hs
  ·simp at hs
  rename_i hk
  obtain rfl:k=j:=by simpa [La] using hk
  have hb:binOp op t (.int k a) (.int k b)=(match op with
    | .shl=>Op.shift .shl k a k b| .shr=>Op.shift .shr k a k b
    | .add| .sub| .mul=>Op.intArith op k a b
    | .quo| .rem=>Op.intDiv op k a b
    | .and| .or| .xor| .andNot=>Op.intBits op k a b
    |_=>Op.intCmp op a b):=by cases op<;>simp [binOp]
  cases op<;>simp only [reduceCtorEq] at hs<;>simp only [Sem.run_bind,Nr,Result.andThen_ok,hb]<;>
   first
    |(simp only [Fu.ok.injEq] at hs;obtain ⟨rfl,rfl⟩:=hs;refine ⟨_,fun _=>rfl,den _ rfl⟩)
    |skip
  ·cases wr<;>simp only [Fu.ok.injEq] at hs<;>obtain ⟨rfl,rfl⟩:=hs
   ·have h1:Gk k (a+b):=hp _ C8
    exact ⟨.int k (a+b),fun _=>by simp [Op.intArith,Ix h1],den _ rfl⟩
   exact ⟨.int k (k.wrap (a+b)),fun _=>by simp [Op.intArith],den _ rfl⟩
  ·cases wr<;>simp only [Fu.ok.injEq] at hs<;>obtain ⟨rfl,rfl⟩:=hs
   ·have h1:Gk k (a-b):=hp _ C8
    exact ⟨.int k (a-b),fun _=>by simp [Op.intArith,Ix h1],den _ rfl⟩
   exact ⟨.int k (k.wrap (a-b)),fun _=>by simp [Op.intArith],den _ rfl⟩
  ·cases wr<;>simp only [Fu.ok.injEq] at hs<;>obtain ⟨rfl,rfl⟩:=hs
   ·have h1:Gk k (a * b):=hp _ C8
    exact ⟨.int k (a * b),fun _=>by simp [Op.intArith,Ix h1],den _ rfl⟩
   exact ⟨.int k (k.wrap (a * b)),fun _=>by simp [Op.intArith],den _ rfl⟩
  ·simp only [Fu.ok.injEq] at hs
   obtain ⟨rfl,rfl⟩:=hs;have h1:b≠0:=hp _ C8;have h2:Gk k (a.tdiv b):=hp _ C8;exact ⟨.int k (a.tdiv b),fun _=>by simp [Op.intDiv,h1,Ix h2],den _ rfl⟩
  simp only [Fu.ok.injEq] at hs;obtain ⟨rfl,rfl⟩:=hs;have h1:b≠0:=hp _ C8;exact ⟨.int k (a.tmod b),fun _=>by simp [Op.intDiv,h1],den _ rfl⟩
 ·rename_i a b
  obtain rfl:=Bo hu;obtain rfl:=Bo hv;have hb:binOp op t (.string a) (.string b)=Op.stringOp op a b:=by cases op<;>simp [binOp]
  cases op<;>simp only [reduceCtorEq] at hs<;>simp only [Sem.run_bind,A71,Result.andThen_ok,hb]<;>simp only [Fu.ok.injEq] at hs<;>obtain ⟨rfl,rfl⟩:=hs
  ·have h1:a.size+b.size≤9223372036854775807:=hp _ C8
   have h2:¬ (((a.size+b.size:Nat):Int)>IntKind.i64.max):=by
    simp only [IntKind.max,IntKind.signed,IntKind.bits]
    simp
    omega
   refine ⟨.string (a++b),?_,den _ rfl⟩;simp only [Op.stringOp,if_neg h2];exact fun _=>rfl
  ·exact ⟨.bool (a==b),fun _=>by rw [beq_toListBytes];rfl,den _ rfl⟩
  exact ⟨.bool !(a==b),fun _=>by rw [beq_toListBytes];rfl,den _ rfl⟩
 ·rename_i a b
  obtain rfl:=Bo hu;obtain rfl:=Bo hv
  have hfl:B7a T t=true→P.underlying t=some .bool:=by
   intro h;unfold B7a at h
   split at h
   ·rename_i i hi
    split at h
    ·rename_i hag hf
     obtain ⟨f,d,z,S⟩:=TI.of_spec (hT t i hi)
     have:=S.flat
     rw [hf] at this
     split at this
     ·simp at this
     have:=Po this.symm
     rcases this.desc with ⟨_,k,h⟩|⟨h,_⟩|⟨fs,h,_,_⟩
     ·simp at h
     ·exact h
     have e:=S.hd.symm.trans h;simp only [Option.some.injEq] at e;subst e;rw [S.agg] at hag
     simp [Is] at hag
    simp at h
   simp at h
  split at hs
  ·rename_i hf
   simp only [Fu.ok.injEq] at hs;obtain ⟨rfl,rfl⟩:=hs;refine ⟨.bool (a==b),fun w=>?_,den _ rfl⟩
   simp [Ut,binOp,Op.equal,Op.maxDepth,run_equalIn_bool' w 9999 t a b (hfl hf)]
  ·rename_i hf
   simp only [Fu.ok.injEq] at hs;obtain ⟨rfl,rfl⟩:=hs;refine ⟨.bool !(a==b),fun w=>?_,den _ rfl⟩
   simp [Ut,binOp,Op.equal,Op.maxDepth,run_equalIn_bool' w 9999 t a b (hfl hf)]
  simp at hs
 ·rename_i xs ys
  split at hs
  ·rename_i ks hf
   unfold C24 at hf
   split at hf
   ·rename_i i hi
    split at hf
    ·rename_i hag
     obtain ⟨f,d,z,S⟩:=TI.of_spec (hT t i hi);have hfl:=S.flat;rw [hf] at hfl;have hd:Is d=true:=by rw [←S.agg];exact hag
     split at hfl
     ·simp at hfl
     rename_i hg
     cases hu with
     |agg us lu hu=>
      cases hv with
      |agg vs lv hv=>
       have gd:∀w,(eqGuard op t ox oy (.agg us.toArray) (.agg vs.toArray)).run P w= .ok () w:=fun w=>run_eqGuard_agg w op t ox oy _ _ hg
       have hval:∀us:List Value,Qp P t us= .agg us.toArray:=by
        intro us
        simp [Qp,S.hd,hd]
       have main:∀r w,A2y ks xs ys=some r→(Op.equalIn 10000 t (.agg us.toArray) (.agg vs.toArray)).run P w= .ok r w:=by
        intro r w hr
        have:=C1d 10 t ks hfl.symm us vs r (B43 hr lu lv hu hv) 10000 Ad w
        rwa [hval us,hval vs] at this
       split at hs
       ·rename_i r hr
        simp only [Fu.ok.injEq] at hs;obtain ⟨rfl,rfl⟩:=hs;refine ⟨.bool r,fun w=>?_,den _ rfl⟩;simp only [Sem.run_bind,gd,Result.andThen_ok,run_eql_struct,main r w hr]
       ·rename_i r hr
        simp only [Fu.ok.injEq] at hs;obtain ⟨rfl,rfl⟩:=hs;refine ⟨.bool !r,fun w=>?_,den _ rfl⟩;simp only [Sem.run_bind,gd,Result.andThen_ok,run_neq_struct,main r w hr]
       simp at hs
    simp at hf
   simp at hf
  simp at hs
 simp at hs
end Go.Sx
namespace Go.Sx
variable {P : Program} {T : List (TypeId × TI)}
theorem Uw (hT:Cs P T){t:TypeId}{f o:Nat}{u:TypeId}(h:Uv T t f=some (o,u)):
  ∃fs F,P.underlying t=some (.struct fs)∧fs[f]? =some F∧F.offset=o∧F.type=u:=by
 unfold Uv at h
 split at h
 ·rename_i i hi
  obtain ⟨g,d,z,S⟩:=TI.of_spec (hT t i hi);rw [S.fields] at h;have hd:=S.hd
  cases d<;>simp only [List.getElem?_nil,reduceCtorEq] at h
  rename_i fs
  simp only [List.getElem?_map,Option.map_eq_some_iff,Prod.mk.injEq,Array.getElem?_toList] at h;obtain ⟨F,hF,h1,h2⟩:=h;exact ⟨fs,F,hd,hF,h1,h2⟩
 simp at h
theorem A74 (hT:Cs P T){u:TypeId}{j:TI}{k:IntKind}(hj:find T u=some j)(ha:j.agg=false)(hf:j.flat=some [.int k]):P.underlying u=some (.int k):=by
 obtain ⟨f,d,z,S⟩:=TI.of_spec (hT u j hj)
 have:=S.flat
 rw [hf] at this
 split at this
 ·simp at this
 have:=Po this.symm
 rcases this.desc with ⟨h,_⟩|⟨h,h'⟩|⟨fs,h,_,_⟩
 ·exact h
 ·simp at h'
 have e:=S.hd.symm.trans h;simp only [Option.some.injEq] at e;subst e;rw [S.agg] at ha
 simp [Is] at ha
theorem K3 (hT:Cs P T){t:TypeId}{f o:Nat}{u:TypeId}{j:TI}(h:Uv T t f=some (o,u))(hj:find T u=some j)(hp:0<j.size)(b off:Nat)(w:World):
  (Instr.fieldAt t (.pointer (some ⟨b,off,none⟩)) f).run P w= .ok (.pointer (some ⟨b,off+o,none⟩)) w:=by
 obtain ⟨fs,F,h1,h2,h3,h4⟩:=Uw hT h;subst h3 h4;have hs:=C0 (hT _ _ hj) w
 have:j.size≠0:=by omega
 simp [Instr.fieldAt,run_underlying h1,h2,Instr.sureAddr,fieldPlace,hs,this,Hh]
def DL (E:E7) (w:World) (A:Nat→Prop) (N:Nat) (acc:List AV) (cs:Array Value):Prop:=
 cs.size=acc.length∧∀i y,acc[i]? =some y→Dr E w A N y (cs.getD i undef)
theorem DL.set {E:E7}{w:World}{A:Nat→Prop}{N:Nat}{acc:List AV}{cs:Array Value}(h:DL E w A N acc cs)(p:Nat){x:AV}{v:Value}(hx:Dr E w A N x v):
  DL E w A N (D6 acc p x) (cs.setIfInBounds p v):=by
 refine ⟨by simp [Cn,h.1],fun i y hy=>?_⟩;rw [Dv] at hy
 by_cases hi:p=i∧i<acc.length
 ·rw [if_pos hi] at hy
  obtain rfl:=Option.some.inj hy;obtain ⟨rfl,hl⟩:=hi
  have:p<cs.size:=by rw [h.1];exact hl
  simpa [Array.getD,this] using hx
 rw [if_neg hi] at hy;have hl:i<acc.length:=(List.getElem?_eq_some_iff.1 hy).1;have hne:p≠i:=fun e=>hi ⟨e,hl⟩
 have:i<cs.size:=by rw [h.1];exact hl
 have:=h.2 i y hy
 simpa [Array.getD,‹i<cs.size›,Array.getElem_setIfInBounds,hne] using this
theorem DL.fold {E:E7}{w:World}{A:Nat→Prop}{N:Nat}(off:Nat):∀(vs:List Value) (xs:List AV) (k:Nat) (acc:List AV) (cs:Array Value),DL E w A N acc cs→
  vs.length=xs.length→(∀i x,xs[i]? =some x→Dr E w A N x (vs.getD i undef))→
  DL E w A N (Oe acc (off+k) xs) ((vs.zipIdx k).foldl (fun cs (p:Value×Nat)=>cs.setIfInBounds (off+p.2) p.1) cs):=by
 intro vs
 induction vs with
 |nil=>
  intro xs k acc cs h hl _;obtain rfl:=List.eq_nil_of_length_eq_zero hl.symm;exact h
 |cons v vs ih=>
  intro xs k acc cs h hl hx
  match xs,hl with
  |x::xs,hl=>
   simp only [List.zipIdx_cons,List.foldl_cons,Oe]
   have:=ih xs (k+1) _ _ (h.set (off+k) (by simpa using hx 0 x rfl)) (by simpa using hl) (fun i x hi=>by simpa using hx (i+1) x (by simpa using hi))
   simpa [Nat.add_assoc] using this
theorem A5n (_hT:Cs P T){B:Be}{E:E7}{s:AS}{a:Act}{w:World}(h:s.is B E a w)(fields:List (Nat×TypeId))(place:Nat→Option (Nat×Nat))
  (hpl:∀k o u,fields[k]? =some (o,u)→∀j,find T u=some j→place k=some (o,j.size)):∀(ps:List (Nat×Operand)) (acc:List AV) (cs:Array Value) (out:List AV),
  Pl T fields s ps acc=some out→DL E w (s.avoid E) s.next acc cs→
  ∃cs',Instr.fill place cs (ps.map fun p=>(p.1,a.eval p.2))=some cs'∧DL E w (s.avoid E) s.next out cs':=by
 intro ps
 induction ps with
 |nil=>
  intro acc cs out ho hd;obtain rfl:=Option.some.inj ho;exact ⟨cs,rfl,hd⟩
 |cons p ps ih=>
  intro acc cs out ho hd;obtain ⟨f,x⟩:=p;unfold Pl at ho
  split at ho
  ·simp at ho
  rename_i off u hf
  split at ho
  ·simp at ho
  rename_i j hj
  split at ho
  ·rename_i hc
   simp only [Bool.and_eq_true] at hc;obtain ⟨⟨h1,h2⟩,h3⟩:=hc;have h1:=Nat.eq_of_beq_eq_true h1;have h2:=Nat.le_of_ble_eq_true h2;obtain ⟨c1,c2,c3⟩:=Np (h.ev x) h3 h.one;have hp:=hpl f off u hf j hj;have hsz:(a.eval x).cells.size=j.size:=by rw [c1,h1]
   have hfit:¬ (off+(a.eval x).cells.size>cs.size):=by rw [hd.1,hsz];omega
   have hd2:=DL.fold (E:=E) (w:=w) (A:=s.avoid E) (N:=s.next) off (a.eval x).cells.toList (s.ev x).cellsOf 0 acc cs hd (by simpa using c1) (fun i y hi=>by rw [Cg];exact c2 i y hi);obtain ⟨cs',e,hd'⟩:=ih _ _ out ho hd2;refine ⟨cs',?_,hd'⟩;simp only [List.map_cons,Instr.fill,hp];rw [if_neg (by simp [hsz];rw [←hsz];omega)];rw [←e]
   congr 1
   rw [←Array.foldl_toList,Array.toList_zipIdx]
  simp at ho
end Go.Sx
namespace Go.Sx
variable {P : Program} {T : List (TypeId × TI)}
theorem A8p (P:Program)(w:World)(g:Field→Sem (Nat×Nat)):∀(fs:List Field),(∀F∈fs,(g F).run P w= .ok (F.offset,P.cellsOf F.type) w)→
  (fs.mapM g).run P w= .ok (fs.map fun F=>(F.offset,P.cellsOf F.type)) w:=by
 intro fs
 induction fs with
 |nil=>intro _;rfl
 |cons F fs ih=>
  intro h;simp only [List.mapM_cons,Sem.run_bind,h F C8,ih (fun G hG=>h G (by simp [hG])),Result.andThen_ok,Sem.run_pure,List.map_cons]
theorem Ig {l:List Value}(h:Ho l=true):∀v∈l,v.oneCell'=true:=by
 induction l with
 |nil=>simp
 |cons v l ih=>
  intro u hu
  rcases List.mem_cons.1 hu with rfl|hu
  ·cases u<;>first|rfl|simp [Ho] at h
  refine ih ?_ u hu
  cases v<;>first|exact h|simp [Ho] at h
theorem B0j {l:List (Nat×TypeId)}(h:B2r T l=true):∀p∈l,∃j,find T p.2=some j:=by
 induction l with
 |nil=>simp
 |cons p l ih=>
  obtain ⟨o,u⟩:=p;unfold B2r at h
  split at h
  ·rename_i j hj
   intro q hq
   rcases List.mem_cons.1 hq with rfl|hq
   ·exact ⟨j,hj⟩
   exact ih h q hq
  simp at h
theorem Tn {u:TypeId}{j:TI}(h:TI.of P u=some j):P.cellsOf u=j.size:=by
 obtain ⟨f,d,z,S⟩:=TI.of_spec h
 simp [Program.cellsOf,S.hf,S.size]
theorem Z3 {t:TypeId}{i:TI}(ht:TI.of P t=some i){z:Value}(hz:z.cells.toList=i.zero)(E:E7)(w:World)(A:Nat→Prop)(N:Nat):DL E w A N (I6 i) z.cells:=by
 obtain ⟨f,d,z',S⟩:=TI.of_spec ht;refine ⟨by simp [I6,←hz],fun k y hy=>?_⟩;simp only [I6,List.getElem?_map,Option.map_eq_some_iff] at hy;obtain ⟨v,hv,rfl⟩:=hy;have hm:v∈i.zero:=List.mem_of_getElem? hv;rw [←Cg,hz];simp only [List.getD,hv,Option.getD_some];exact .c (.val v (Ig S.zone v hm))
theorem Yp (vs:List Value)(off n:Nat)(h:off+n≤vs.length):(vs.drop off).take n=(List.range n).map fun k=>vs.getD (off+k) undef:=by
 apply List.ext_getElem?
 intro i;simp only [List.getElem?_take,List.getElem?_drop,List.getElem?_map]
 by_cases hi:i<n
 ·have:off+i<vs.length:=by omega
  simp [hi,List.getD,this]
 simp [hi]
theorem B6f (hT:Cs P T){t:TypeId}(h:C4g T t=true):P.underlying t=some .string:=by
 unfold C4g at h
 split at h
 ·rename_i i hi;exact U5 (hT t i hi) h
 simp at h
theorem Xr {l:List Ai}{xs:List AV}(h:M9 l=some xs):xs.length=l.length∧∀(k:Nat) (x:AV),xs[k]? =some x→∃v,l[k]? =some (.val v)∧x= .v v:=by
 induction l generalizing xs with
 |nil=>obtain rfl:=Option.some.inj h;simp
 |cons c l ih=>
  cases c with
  |val v=>
   unfold M9 at h
   split at h
   ·rename_i cs hcs
    obtain rfl:=Option.some.inj h;obtain ⟨h1,h2⟩:=ih hcs;refine ⟨by simp [h1],fun k x hk=>?_⟩
    cases k with
    |zero=>simp only [List.getElem?_cons_zero,Option.some.injEq] at hk;subst hk;exact ⟨v,by simp,rfl⟩
    |succ k=>simpa using h2 k x (by simpa using hk)
   simp at h
  |sl n es row=>simp [M9] at h
theorem A6z (hT:Cs P T){wr:Bool}{s:AS}{op:Op}{ps:List Prop}{x:AV}(hs:step T wr s op= .ok ps x)(hp:∀p∈ps,p){B:Be}{E:E7}{a:Act}{w:World}(h:s.is B E a w)
  (o:Oper)(ho:o.op=op):∃v,(∀w',Ez w w'→(execOp a.eval o).run P w'= .ok (.value v) w')∧Dr E w (s.avoid E) s.next x v:=by
 have den:∀(r:Value),r.oneCell'=true→Dr E w (s.avoid E) s.next (.v r) r:=fun r h=> .c (.val r h);obtain ⟨dst,op',ty,pos,after,guard⟩:=o
 simp only at ho
 subst ho;unfold step at hs
 split at hs
 ·rename_i y
  simp only [Fu.ok.injEq] at hs;obtain ⟨rfl,rfl⟩:=hs;exact ⟨a.eval y,fun _ _=>rfl,h.ev y⟩
 ·rename_i y
  simp only [Fu.ok.injEq] at hs;obtain ⟨rfl,rfl⟩:=hs;exact ⟨a.eval y,fun _ _=>rfl,h.ev y⟩
 ·rename_i b t x' y z
  obtain ⟨r,h1,h2⟩:=B68 hT hs hp (h.ev x') (h.ev y) x' y;refine ⟨r,fun w' _=>?_,h2⟩;have h1:=h1 w';simp only [execOp,Sem.run_bind];simp only [Sem.run_bind] at h1;rw [h1];rfl
 ·rename_i u t y
  have hy:=h.ev y
  split at hs
  ·rename_i b e
   rw [e] at hy;have e1:=Bo hy;simp only [Fu.ok.injEq] at hs;obtain ⟨rfl,rfl⟩:=hs;exact ⟨.bool !b,fun w' _=>by simp [execOp,e1,Op.unary],den _ rfl⟩
  ·rename_i k n e
   rw [e] at hy;have e1:=Bo hy
   cases wr<;>simp only [Fu.ok.injEq] at hs<;>obtain ⟨rfl,rfl⟩:=hs
   ·have h1:Gk k (0-n):=hp _ C8
    exact ⟨.int k (0-n),fun w' _=>by simp [execOp,e1,Op.unary,Op.intArith];simpa using Ix h1,den _ rfl⟩
   exact ⟨.int k (k.wrap (0-n)),fun w' _=>by simp [execOp,e1,Op.unary,Op.intArith],den _ rfl⟩
  simp at hs
 ·split at hs<;>simp at hs
 ·split at hs<;>simp at hs
 ·rename_i t parts
  split at hs
  ·rename_i i hi
   split at hs
   ·rename_i p0 r0 cs hf0 hall hcs
    simp only [Fu.ok.injEq] at hs;obtain ⟨rfl,rfl⟩:=hs;have ht:=hT t i hi;obtain ⟨f,d,z,S⟩:=TI.of_spec ht;have hd:=S.hd;have hfs:=S.fields
    cases d<;>simp only [hf0,reduceCtorEq] at hfs
    rename_i fs
    have hfs:=hf0.trans hfs;obtain ⟨z',hz',hrun⟩:=Rs ht
    have hplaces:∀F∈fs.toList,∃j,find T F.type=some j:=by
     intro F hF
     have:(F.offset,F.type)∈i.fields:=by rw [hfs];exact List.mem_map.2 ⟨F,hF,rfl⟩
     exact B0j hall _ this
    have hm:∀w,(fs.toList.mapM (fun f=>do pure (f.offset,←sizeOf f.type):Field→Sem (Nat×Nat))).run P w= .ok (fs.toList.map fun F=>(F.offset,P.cellsOf F.type)) w:=by
     intro w;refine A8p P w _ _ (fun F hF=>?_);obtain ⟨j,hj⟩:=hplaces F hF
     simp [C0 (hT _ _ hj),Tn (hT _ _ hj)]
    obtain ⟨cs',hfill,hDL⟩:=A5n hT h i.fields (fun k=>(fs.toList.map fun F=>(F.offset,P.cellsOf F.type))[k]?) (fun k o u hk j hj=>by
     rw [hfs] at hk;simp only [List.getElem?_map,Option.map_eq_some_iff,Prod.mk.injEq] at hk ⊢;obtain ⟨F,hF,rfl,rfl⟩:=hk
     exact ⟨F,hF,rfl,Tn (hT _ _ hj)⟩) parts.toList (I6 i) z'.cells cs hcs (Z3 ht hz' E w _ _)
    refine ⟨.agg cs',fun w' _=>?_,?_⟩
    ·simp only [execOp,Instr.build,Sem.run_bind,hrun,Result.andThen_ok,run_underlying hd]
     have hm2:(fs.mapM (fun f=>do pure (f.offset,←sizeOf f.type):Field→Sem (Nat×Nat))).run P w'= .ok (fs.toList.map fun F=>(F.offset,P.cellsOf F.type)).toArray w':=by
      rw [Array.mapM_eq_mapM_toList];simp only [map_eq_pure_bind,Sem.run_bind,hm,Result.andThen_ok,Sem.run_pure]
     simp only [hm2,Result.andThen_ok,Array.toList_map,List.getElem?_toArray,hfill,Sem.run_pure]
    have:=Dr.agg (E:=E) (w:=w) (A:=s.avoid E) (N:=s.next) (xs:=cs) cs'.toList (by simpa using hDL.1) (fun k y hk=>by rw [Cg];exact hDL.2 k y hk)
    simpa using this
   simp at hs
  simp at hs
 ·rename_i t y
  have hy:=h.ev y
  split at hs
  ·rename_i i k off hi e
   rw [e] at hy
   split at hs
   ·rename_i b hb
    split at hs
    ·rename_i hle
     simp only [Fu.ok.injEq] at hs;obtain ⟨rfl,rfl⟩:=hs;generalize hv:a.eval y=v at hy
     cases hy with
     |box _ hk=>
      obtain ⟨r,h1,h2⟩:=h.load (hT t i hi) hb (Nat.le_of_ble_eq_true hle);exact ⟨r,fun w' hk=>by simp only [execOp,hv,Sem.run_bind,h1 w' hk,Result.andThen_ok];rfl,h2⟩
    simp at hs
   simp at hs
  ·rename_i i k es j off hi e
   rw [e] at hy
   split at hs
   ·rename_i n es' row hg
    split at hs
    ·simp at hs
    split at hs
    ·rename_i cs hle hcs
     simp only [Bool.and_eq_true] at hle;obtain rfl:=Nat.eq_of_beq_eq_true hle.1;have hle2:=Nat.le_of_ble_eq_true hle.2;simp only [Fu.ok.injEq] at hs;obtain ⟨rfl,rfl⟩:=hs;generalize hv:a.eval y=v at hy
     cases hy with
     |oel _ b o n' cap hk hov h0 hj=>
      have hown:=(h.own _ (Cp hg)).2.1
      simp only at hown
      rw [hov] at hown;generalize hfp:E.fp k=fp at hown;obtain ⟨m,rfl⟩:=Int.eq_ofNat_of_zero_le h0;simp only [Int.toNat_natCast,Int.ofNat_lt] at *
      cases hown with
      |emp=>exact absurd hj (Nat.not_lt_zero _)
      |sl _ _ _ _ offb _ ty cells fps hn hc hb hsz hl hr=>
       have hrl:=hl m hj;obtain ⟨f1,f2⟩:=Xr hcs
       have hlt:∀k,k<es→(offb+m) * es+k<cells.size:=fun k hk=>by
        have:=Fz (show offb+m<offb+cap by omega) hk
        omega
       have hd:∀k x,cs[k]? =some x→Dr E w (s.avoid E) s.next x (((List.range es).map fun k=>cells.getD ((offb+m) * es+k) undef).getD k undef):=by
        intro k x hk';obtain ⟨v',hv1,rfl⟩:=f2 k x hk';have hkl:k<es:=by rw [←hrl];exact (List.getElem?_eq_some_iff.1 hv1).1
        have:=hr m k _ hj hv1
        simp only [List.getD,List.getElem?_map,List.getElem?_range,hkl,Option.map_some,Option.getD_some];generalize cells.getD ((offb+m) * es+k) undef=u,fps (m * es+k)=g at this
        cases this with
        |val _ h1=>exact .c (.val _ h1)
       have hread:=Qz cs ((List.range es).map fun k=>cells.getD ((offb+m) * es+k) undef) off i (by rw [f1,hrl];exact hle2) hd
       have hrun:∀w',Ez w w'→_:=fun w' hkw=>Hp (hT t i hi) w' b (offb * es+m * es+off) ((List.range i.size).map fun k=>((List.range es).map fun k=>cells.getD ((offb+m) * es+k) undef).getD (off+k) undef) C8 (fun k hk=>by
        have h1:off+k<es:=by omega
        have:=hlt (off+k) h1
        rw [show offb * es+m * es+off+k=(offb+m) * es+(off+k) by rw [Nat.add_mul];omega]
        refine hkw.cell ?_;rw [cell_of_row w b _ cells ty (0,0) hb]
        simp [List.getD,hk,h1,Array.getD,this])
       refine ⟨_,fun w' hkw=>?_,hread⟩;simp only [execOp,hv,Instr.loadAt,Instr.sureAddr,Sem.run_bind,Sem.run_pure,Result.andThen_ok,hrun w' hkw]
       cases hag:i.agg with
       |true=>rfl
       |false=>
        obtain ⟨f,d,z,S⟩:=TI.of_spec (hT t i hi);have h1:=S.one (by rw [←S.agg];exact hag)
        simp [h1,List.getD]
    simp at hs
   simp at hs
  ·rename_i i n es row j off hi e
   rw [e] at hy
   split at hs
   ·rename_i hle
    simp only [Fu.ok.injEq] at hs;obtain ⟨rfl,rfl⟩:=hs;generalize hv:a.eval y=v at hy
    cases hy with
    |el _ b o cap hr h0 hj=>
     have hlen:(row j.toNat).length=es:=by
      cases hr with
      |emp=>omega
      |sl _ _ _ _ _ _ u hA hn hc hl hu hr=>exact hl _ Ad
     obtain ⟨r,h1,h2⟩:=C1s (E:=E) (N:=s.next) (hT t i hi) hr h0 hj (off:=off) (by rw [hlen];exact Nat.le_of_ble_eq_true hle);exact ⟨r,fun w' hk=>by simp only [execOp,hv,Sem.run_bind,h1 w' hk,Result.andThen_ok];rfl,h2⟩
   simp at hs
  simp at hs
 ·split at hs
  ·split at hs
   ·split at hs<;>simp at hs
   simp at hs
  simp at hs
 ·rename_i t y f
  have hy:=h.ev y
  split at hs
  ·rename_i o u hf
   split at hs
   ·rename_i k off hsz e
    obtain ⟨j,hj,hjs⟩:=Option.map_eq_some_iff.1 hsz;rw [e] at hy;simp only [Fu.ok.injEq] at hs;obtain ⟨rfl,rfl⟩:=hs;generalize hv:a.eval y=v at hy
    cases hy with
    |box _ hk=>exact ⟨_,fun w' _=>by simp only [execOp,hv,Sem.run_bind,K3 hT hf hj (Nat.le_of_ble_eq_true hjs),Result.andThen_ok];rfl,.box _ hk⟩
   ·rename_i n es row j' off hsz e
    obtain ⟨j,hj,hjs⟩:=Option.map_eq_some_iff.1 hsz;rw [e] at hy;simp only [Fu.ok.injEq] at hs;obtain ⟨rfl,rfl⟩:=hs;generalize hv:a.eval y=v at hy
    cases hy with
    |el _ b o' cap hr h0 hi=>exact ⟨_,fun w' _=>by simp only [execOp,hv,Sem.run_bind,K3 hT hf hj (Nat.le_of_ble_eq_true hjs),Result.andThen_ok];rfl,by rw [Nat.add_assoc];exact .el _ b o' cap hr h0 hi⟩
   ·rename_i k es j' off hsz e
    obtain ⟨j,hj,hjs⟩:=Option.map_eq_some_iff.1 hsz;rw [e] at hy;simp only [Fu.ok.injEq] at hs;obtain ⟨rfl,rfl⟩:=hs;generalize hv:a.eval y=v at hy
    cases hy with
    |oel _ b o' n cap hk hov h0 hi=>exact ⟨_,fun w' _=>by simp only [execOp,hv,Sem.run_bind,K3 hT hf hj (Nat.le_of_ble_eq_true hjs),Result.andThen_ok];rfl,by rw [Nat.add_assoc];exact .oel _ b o' n cap hk hov h0 hi⟩
   simp at hs
  simp at hs
 ·rename_i t y f
  have hy:=h.ev y
  split at hs
  ·rename_i o u cs hf e
   rw [e] at hy
   split at hs
   ·rename_i j hj
    split at hs
    ·rename_i hle
     simp only [Fu.ok.injEq] at hs;obtain ⟨rfl,rfl⟩:=hs;generalize hv:a.eval y=v at hy
     cases hy with
     |agg vs hl hx=>
      obtain ⟨fs,F,h1,h2,h3,h4⟩:=Uw hT hf;subst h3 h4;have htj:=hT _ _ hj;obtain ⟨f',d,z,S⟩:=TI.of_spec htj;simp only [Bool.and_eq_true] at hle;have hle1:=Nat.le_of_ble_eq_true hle.1;have hle2:=Nat.le_of_ble_eq_true hle.2;have hsz:=Tn htj;have hp:=fun w=>A17 (P:=P) F.type vs F.offset w (by simp [S.hd]) (by simp [S.hf]) (by rw [hsz,hl];exact hle1) (by rw [hsz];exact hle2);have hd:=Qz cs vs F.offset j hle1 hx
      have heq:Qp P F.type ((vs.drop F.offset).take (P.cellsOf F.type))=(match j.agg with|true=> .agg ((List.range j.size).map fun k=>vs.getD (F.offset+k) undef).toArray|false=>vs.getD F.offset undef):=by
       rw [hsz,S.agg];simp only [Qp,S.hd,Option.map_some]
       cases Is d with
       |true=>
        congr 2
        rw [Yp vs F.offset j.size (by rw [hl];exact hle1)]
       |false=>
        have:F.offset<vs.length:=by rw [hl];omega
        simp [List.getD,show 0<j.size by omega]
      refine ⟨_,fun w' _=>?_,(by rw [heq];exact hd:Dr E w (s.avoid E) s.next (Le j cs F.offset) (Qp P F.type ((vs.drop F.offset).take (P.cellsOf F.type))))⟩;simp only [execOp,hv,Instr.field,Sem.run_bind,run_underlying h1,Result.andThen_ok,h2,asAgg,Sem.run_pure,hp]
    simp at hs
   simp at hs
  simp at hs
 ·rename_i t y z
  have hy:=h.ev y;have hz:=h.ev z
  split at hs
  ·rename_i e n es row k j he ey ez
   obtain ⟨i,hi,hie⟩:=Option.bind_eq_some_iff.1 he;rw [ey] at hy;rw [ez] at hz
   split at hs
   ·rename_i hes
    obtain ⟨i',hi',hb⟩:=Option.map_eq_some_iff.1 hes;have hes:=Nat.eq_of_beq_eq_true hb;simp only [Fu.ok.injEq] at hs;obtain ⟨rfl,rfl⟩:=hs;obtain ⟨h0,h1⟩:0≤j∧j<(n:Int):=hp _ C8;generalize hv:a.eval y=v at hy;have hw:=Bo hz;have hund:=Cm (hT t i hi) hie;have hel:P.elem t=e:=by simp [Program.elem,hund]
    cases hy with
    |c hr=>
     cases hr with
     |nil=>simp at h1;omega
     |emp=>simp at h1;omega
     |sl _ _ _ b off cap u hA hn hc hl hu hr=>
      refine ⟨.pointer (some ⟨b,off+j.toNat * es+0,none⟩),fun w _=>?_,.el 0 b off cap (.sl n es row b off cap u hA hn hc hl hu hr) h0 h1⟩
      have:=run_indexAt_slice (P:=P) w t ⟨b,off,none⟩ n cap k j (by rw [hel];exact hund)
      rw [if_pos ⟨h0,h1⟩,hel,C0 (hT _ _ hi')] at this;simp only [Result.andThen_ok,Hh] at this;simp only [execOp,hv,hw,Sem.run_bind,this,Result.andThen_ok,hes];rfl
   simp at hs
  ·rename_i e k ik j he ey ez
   obtain ⟨i,hi,hie⟩:=Option.bind_eq_some_iff.1 he;rw [ey] at hy;rw [ez] at hz
   split at hs
   ·rename_i n es row hg
    split at hs
    ·rename_i hes
     obtain ⟨i',hi',hb⟩:=Option.map_eq_some_iff.1 hes;have hes:=Nat.eq_of_beq_eq_true hb;simp only [Fu.ok.injEq] at hs;obtain ⟨rfl,rfl⟩:=hs;obtain ⟨h0,h1⟩:0≤j∧j<(n:Int):=hp _ C8;generalize hv:a.eval y=v at hy;have hw:=Bo hz;have hund:=Cm (hT t i hi) hie;have hel:P.elem t=e:=by simp [Program.elem,hund]
     cases hy with
     |own hk=>
      have hown:=(h.own _ (Cp hg)).2.1
      simp only at hown
      generalize hov:E.ov k=u,hfp:E.fp k=fp at hown
      cases hown with
      |nil=>simp at h1;omega
      |emp=>simp at h1;omega
      |sl _ _ _ b offb cap ty cells fps hn hc hb' hsz hl hr=>
       refine ⟨.pointer (some ⟨b,offb * es+j.toNat * es+0,none⟩),fun w _=>?_,.oel 0 b (offb * es) n cap hk hov h0 h1⟩
       have:=run_indexAt_slice (P:=P) w t ⟨b,offb * es,none⟩ n cap ik j (by rw [hel];exact hund)
       rw [if_pos ⟨h0,h1⟩,hel,C0 (hT _ _ hi')] at this;simp only [Result.andThen_ok,Hh] at this;simp only [execOp,hv,hov,hw,Sem.run_bind,this,Result.andThen_ok,hes];rfl
    simp at hs
   simp at hs
  simp at hs
 ·rename_i t y z
  have hy:=h.ev y;have hz:=h.ev z
  split at hs
  ·rename_i b k j hst ey ez
   rw [ey] at hy;rw [ez] at hz;have e1:=Bo hy;have e2:=Bo hz;simp only [Fu.ok.injEq] at hs;obtain ⟨rfl,rfl⟩:=hs;obtain ⟨h0,h1⟩:0≤j∧j<(b.size:Int):=hp _ C8;have hlt:j.toNat<b.size:=by omega
   have hg:b[j.toNat]? =some (b.data.getD j.toNat 0):=by
    rw [getElem?_pos b j.toNat hlt];have h2:j.toNat<b.data.size:=hlt;simp only [Array.getD,h2,dif_pos];rfl
   exact ⟨.int .u8 (b.data.getD j.toNat 0).toNat,fun w' _=>by simp [execOp,e1,e2,Instr.index,asIntOf,h0,hg,run_underlying (B6f hT hst)],den _ rfl⟩
  simp at hs
 ·rename_i y i
  have hy:=h.ev y
  split at hs
  ·rename_i xs e
   rw [e] at hy
   split at hs
   ·rename_i hlt
    simp only [Fu.ok.injEq] at hs;obtain ⟨rfl,rfl⟩:=hs;generalize hv:a.eval y=v at hy
    cases hy with
    |tup vs hl hx=>
     rw [Dc];have hi:i<xs.length:=by simp [Nat.blt] at hlt;omega
     have hi':i<vs.length:=by omega
     have:=hx i _ (List.getElem?_eq_getElem hi)
     refine ⟨vs[i],fun w' _=>by simp [execOp,hv,Instr.extract,hi'],?_⟩
     rw [List.getElem?_eq_getElem hi]
     simpa [List.getD,hi'] using this
   simp at hs
  simp at hs
 ·rename_i y
  have hy:=h.ev y
  split at hs
  ·rename_i k off e
   rw [e] at hy;simp only [Fu.ok.injEq] at hs;obtain ⟨rfl,rfl⟩:=hs;generalize hv:a.eval y=v at hy
   cases hy with
   |box _ hk=>exact ⟨_,fun w' _=>by simp only [execOp,hv];rfl,.box _ hk⟩
  ·rename_i n es row j off e
   rw [e] at hy;simp only [Fu.ok.injEq] at hs;obtain ⟨rfl,rfl⟩:=hs;generalize hv:a.eval y=v at hy
   cases hy with
   |el _ b o' cap hr h0 hi=>exact ⟨_,fun w' _=>by simp only [execOp,hv];rfl,.el _ b o' cap hr h0 hi⟩
  ·rename_i k es j off e
   rw [e] at hy;simp only [Fu.ok.injEq] at hs;obtain ⟨rfl,rfl⟩:=hs;generalize hv:a.eval y=v at hy
   cases hy with
   |oel _ b o' n cap hk hov h0 hi=>exact ⟨_,fun w' _=>by simp only [execOp,hv];rfl,.oel _ b o' n cap hk hov h0 hi⟩
  simp at hs
 ·rename_i args ats
  split at hs
  ·rename_i x' t ea et
   split at hs
   ·rename_i i hi
    have hy:=h.ev x';obtain rfl:args= #[x']:=by cases args;simp at ea;simp [ea]
    obtain rfl:ats= #[t]:=by cases ats;simp at et;simp [et]
    split at hs
    ·rename_i b hst e
     rw [e] at hy;have e1:=Bo hy;simp only [Fu.ok.injEq] at hs;obtain ⟨rfl,rfl⟩:=hs;exact ⟨.int .i64 b.size,fun w' _=>by simp [execOp,resolve,invoke,builtin,e1,Builtin.len_,run_underlying (U5 (hT t i hi) hst),goInt],den _ rfl⟩
    ·rename_i el a0 n c hst hel e
     rw [e] at hy;have e1:=Bo hy;simp only [Fu.ok.injEq] at hs;obtain ⟨rfl,rfl⟩:=hs;exact ⟨.int .i64 n,fun w' _=>by simp [execOp,resolve,invoke,builtin,e1,Builtin.len_,run_underlying (Cm (hT t i hi) hel),goInt],den _ rfl⟩
    ·rename_i el n es row hst hel e
     rw [e] at hy;simp only [Fu.ok.injEq] at hs;obtain ⟨rfl,rfl⟩:=hs
     have hsl:∃a0 c,a.eval x'= .slice a0 n c:=by
      generalize a.eval x'=v at hy
      cases hy with
      |c hr=>cases hr<;>exact ⟨_,_,rfl⟩
     obtain ⟨a0,c,e1⟩:=hsl;exact ⟨.int .i64 n,fun w' _=>by simp [execOp,resolve,invoke,builtin,e1,Builtin.len_,run_underlying (Cm (hT t i hi) hel),goInt],den _ rfl⟩
    ·rename_i el k hst hel e
     rw [e] at hy
     split at hs
     ·rename_i n es row hg
      simp only [Fu.ok.injEq] at hs;obtain ⟨rfl,rfl⟩:=hs
      have hsl:∃a0 c,a.eval x'= .slice a0 n c:=by
       generalize a.eval x'=v at hy
       cases hy with
       |own hk=>
        have:=(h.own _ (Cp hg)).2.1
        simp only at this
        generalize E.ov k=v,E.fp k=fp at this
        cases this<;>exact ⟨_,_,rfl⟩
      obtain ⟨a0,c,e1⟩:=hsl;exact ⟨.int .i64 n,fun w' _=>by simp [execOp,resolve,invoke,builtin,e1,Builtin.len_,run_underlying (Cm (hT t i hi) hel),goInt],den _ rfl⟩
     simp at hs
    simp at hs
   simp at hs
  simp at hs
 ·rename_i args ats
  split at hs
  ·rename_i x' y' ea
   obtain rfl:args= #[x',y']:=by cases args;simp at ea;simp [ea]
   have hy:=h.ev x';have hz:=h.ev y'
   split at hs
   ·rename_i k m j n ex ey
    rw [ex] at hy;rw [ey] at hz;have e1:=Bo hy;have e2:=Bo hz
    split at hs
    ·rename_i hk
     simp only [Fu.ok.injEq] at hs;obtain ⟨rfl,rfl⟩:=hs;exact ⟨_,fun w' _=>by simp [execOp,resolve,invoke,builtin,e1,e2,Builtin.max_,Builtin.max2],den _ rfl⟩
    simp at hs
   simp at hs
  simp at hs
 ·rename_i args ats
  split at hs
  ·rename_i x' y' ea
   obtain rfl:args= #[x',y']:=by cases args;simp at ea;simp [ea]
   have hy:=h.ev x';have hz:=h.ev y'
   split at hs
   ·rename_i k m j n ex ey
    rw [ex] at hy;rw [ey] at hz;have e1:=Bo hy;have e2:=Bo hz
    split at hs
    ·rename_i hk
     simp only [Fu.ok.injEq] at hs;obtain ⟨rfl,rfl⟩:=hs;exact ⟨_,fun w' _=>by simp [execOp,resolve,invoke,builtin,e1,e2,Builtin.min_,Builtin.min2],den _ rfl⟩
    simp at hs
   simp at hs
  simp at hs
 ·rename_i t u y
  split at hs
  ·rename_i i j hi hj
   obtain ⟨f1,d1,z1,S1⟩:=TI.of_spec (hT t i hi);have hy:=h.ev y
   split at hs
   ·rename_i b e
    rw [e] at hy;have e1:=Bo hy
    split at hs
    ·rename_i hst
     simp only [Fu.ok.injEq] at hs;obtain ⟨rfl,rfl⟩:=hs;exact ⟨.string b,fun w' _=>by simp [execOp,convert,e1,run_underlying S1.hd,run_underlying (U5 (hT u j hj) hst)],den _ rfl⟩
    simp at hs
   ·rename_i k0 n e
    rw [e] at hy;have e1:=Bo hy
    split at hs
    ·rename_i k hag hfl
     have hund:=A74 hT hj hag hfl
     cases wr<;>simp only [Fu.ok.injEq] at hs<;>obtain ⟨rfl,rfl⟩:=hs
     ·have h1:Gk k n:=hp _ C8
      exact ⟨.int k n,fun w' _=>by simp [execOp,convert,e1,run_underlying S1.hd,run_underlying hund,Conv.intToInt,Ix h1],den _ rfl⟩
     exact ⟨.int k (k.wrap n),fun w' _=>by simp [execOp,convert,e1,run_underlying S1.hd,run_underlying hund,Conv.intToInt],den _ rfl⟩
    simp at hs
   simp at hs
  simp at hs
 ·(repeat' (split at hs))<;>simp at hs
 ·(repeat' (split at hs))<;>simp at hs
 ·rename_i f first caps
  split at hs
  ·rename_i ef
   simp only [Fu.ok.injEq] at hs;obtain ⟨rfl,rfl⟩:=hs;obtain rfl:first= #[]:=by cases first;simp at ef;simp [ef]
   refine ⟨.func (.func f) #[] (caps.toList.map a.eval).toArray,fun w' _=>?_,.fn _ C8 (fun i x hx=>?_)⟩
   ·obtain ⟨caps⟩:=caps
    simp [execOp,Instr.makeFunc]
   simp only [List.getElem?_map,Option.map_eq_some_iff] at hx;obtain ⟨c,hc,rfl⟩:=hx
   simpa [List.getD,hc] using h.ev c
  simp at hs
 simp at hs
end Go.Sx
namespace Go.Sx
variable {P : Program} {ops : Array Oper}
def Eb:Op→Nat
 | .alloc _=>1
 | .box _ _=>1
 | .makeSlice _ _ _=>1
 | .buildSlice _ _ _=>1
 | .store _ _ _=>2
 | .call {callee:= .value _,..}=>1
 | .call {callee:= .builtin .append,..}=>2
 | .call {callee:= .builtin .copy,..}=>2
 | .call {callee:= .builtin .clear,..}=>2
 |_=>0
def Mw:Op→Bool
 | .move _=>true
 | .assign _=>true
 |_=>false
theorem S4 {o:Oper}(h:Mw o.op=true)(ρ:Operand→Value){w w':World}{v:Value}(hr:(execOp ρ o).run P w= .ok (.value v) w):(execOp ρ o).run P w'= .ok (.value v) w':=by
 obtain ⟨dst,op,ty,pos,after,guard⟩:=o
 cases op<;>simp [Mw] at h
 all_goals
  rename_i x
  simp only [execOp] at hr ⊢
  have:ρ x=v:=by simpa using hr
  rw [this];rfl
def Tg (P:Program) (N:Value→World→Prop):Result Next→Prop
 | .ok (.value v) w=>N v w
 | .ok .skip w=>N undef w
 | .ok (.enter f args) w=>Calls P f args w fun e w'=>∃v,e= .returned v∧N v w'
 |_=>False
theorem Tg.mono {N N':Value→World→Prop}(h:∀v w,N v w→N' v w){r:Result Next}(hr:Tg P N r):Tg P N' r:=by
 cases r with
 |ok n w=>cases n<;>first|exact h _ _ hr|exact hr|exact Calls.mono hr fun e w' ⟨v,h1,h2⟩=>⟨v,h1,h _ _ h2⟩
 |halt x w=>exact hr
def J5 (P:Program) (o:Oper) (a:Act) (w:World) (K:Act→World→Prop):Prop:=
 Tg P (fun v w'=>(Eb o.op≤1→Ez w w')∧K (a.put o.dst v) w') ((execOp a.eval o).run P w)
theorem J5.mono {o:Oper}{a:Act}{w:World}{K K':Act→World→Prop}(h:∀a w,K a w→K' a w)(hd:J5 P o a w K):J5 P o a w K':=
 Tg.mono (fun _ _ ⟨h1,h2⟩=>⟨h1,h _ _ h2⟩) hd
theorem J5.wp {o:Oper}{a:Act}{w:World}{K:Act→World→Prop}{Q:Exit→Act→World→Prop}(hd:J5 P o a w K):o.wp P a w K Q:=by
 unfold J5 at hd;unfold Oper.wp;generalize (execOp a.eval o).run P w=r at *
 cases r with
 |ok n w'=>
  cases n<;>simp only [Tg] at hd<;>simp only [Oper.upon]
  case value v=>exact hd.2
  case skip=>exact hd.2
  case enter f args=>exact hd.mono fun e w'' ⟨v,he,h⟩=>by subst he;exact h.2
 |halt x w'=>simp only [Tg] at hd
def B6v (P:Program) (o:Oper) (a:Act) (w:World) (v:Value):Prop:=∀w',Mw o.op=true∨Ez w w'→(execOp a.eval o).run P w'= .ok (.value v) w'
def Gj (P:Program) (ops:Array Oper) (Q:Act→World→Prop):List Oper→Act→World→Prop
 | [],a,w=>Q a w
 |o::rest,a,w=>
  if Region.wanted o (yielded ops a.tmps) then
   (∃v,(∀w',Ez w w'→(execOp a.eval o).run P w'= .ok (.value v) w')∧Gj P ops Q rest (a.put o.dst v) w)∨(Eb o.op≠0∧J5 P o a w (Gj P ops Q rest))
  else Gj P ops Q rest (a.put o.dst undef) w
def opM (P:Program) (ops:Array Oper) (i:Nat) (K:Act→World→Prop) (a:Act) (w:World):Prop:=
 match ops[i]? with
 |none=>K a w
 |some o=>if Region.wanted o (yielded ops a.tmps) then J5 P o a w K else K (a.put o.dst undef) w
theorem A80 {i:Nat}{a:Act}{w:World}{K K':Act→World→Prop}(h:∀a w,K a w→K' a w)(hh:opM P ops i K a w):opM P ops i K' a w:=by
 unfold opM at *
 split
 ·exact h _ _ (by simpa [*] using hh)
 rename_i o ho
 simp only [ho] at hh
 split
 ·rename_i hw;simp only [hw,if_true] at hh;exact J5.mono h hh
 rename_i hw;simp only [hw] at hh;exact h _ _ hh
def P8 (P:Program) (ops:Array Oper) (Q:Act→World→Prop):Nat→Array Bool→Act→World→Prop
 | 0,listed,a,w=>Region.ready .any ops listed=[]∧Q a w
 |fuel+1,listed,a,w=>(Region.ready .any ops listed=[]→Q a w)∧∀i∈Region.ready .any ops listed,opM P ops i (P8 P ops Q fuel (listed.setIfInBounds i true)) a w
theorem Uk {Q:Act→World→Prop}{Q':Exit→Act→World→Prop}(hQ:∀a w,Q a w→Q' .normal a w):∀(fuel:Nat) (listed:Array Bool) (a:Act) (w:World),
  P8 P ops Q fuel listed a w→wpAny P .any ops Q' fuel listed a w
 | 0,_,_,_,h=>⟨h.1,hQ _ _ h.2⟩
 |fuel+1,listed,a,w,h=>⟨fun h0=>hQ _ _ (h.1 h0),fun i hi=>by
   have:=h.2 i hi
   unfold opM at this;unfold wpOp
   split
   ·rename_i ho;simp only [ho] at this;exact Uk hQ _ _ _ _ this
   rename_i o ho
   simp only [ho] at this
   split
   ·rename_i hw;simp only [hw,if_true] at this;exact .inl (J5.wp (this.mono fun a' w'=>Uk hQ fuel _ a' w'))
   rename_i hw;simp only [hw] at this;exact Uk hQ fuel _ _ _ this⟩
def Kd (P:Program) (ops:Array Oper) (o:Oper) (v:Value) (a:Act) (w:World):Prop:=
 (Region.wanted o (yielded ops a.tmps)=true∧B6v P o a w v)∨(Region.wanted o (yielded ops a.tmps)=false∧v=undef)
theorem Kd.opM {i:Nat}{o:Oper}{v:Value}{a:Act}{w:World}(hi:ops[i]? =some o)(hy:Kd P ops o v a w){K:Act→World→Prop}(h:K (a.put o.dst v) w):opM P ops i K a w:=by
 unfold Sx.opM;simp only [hi]
 rcases hy with ⟨hw,hv⟩|⟨hw,rfl⟩
 ·simp only [hw,if_true]
  unfold J5;rw [hv w (.inr (Ez.refl w))];exact ⟨fun _=>Ez.refl w,h⟩
 simp only [hw,Bool.false_eq_true,if_false];exact h
theorem Kd.of_same {o:Oper}{v:Value}{a a':Act}{w w':World}(hy:Kd P ops o v a w)(he:execOp a'.eval o=execOp a.eval o)
  (hw:Region.wanted o (yielded ops a'.tmps)=Region.wanted o (yielded ops a.tmps))(hk:Mw o.op=true∨Ez w w'):Kd P ops o v a' w':=by
 unfold Kd B6v at *;rw [he,hw];refine hy.imp (fun ⟨h1,h2⟩=>⟨h1,fun w'' h=>h2 w'' ?_⟩) id
 rcases hk with hk|hk
 ·exact .inl hk
 exact h.imp id hk.trans
theorem C2d {j:Nat}{oi oj:Oper}{v:Value}(hj:ops[j]? =some oj)(hap:oi.apart ops oj=true)(hkind:Mw oi.op=true∨Eb oj.op≤1)
  (hsi:∀cs b,oi.op≠ .select cs b)(hsj:∀cs b,oj.op≠ .select cs b){K:Act→World→Prop}{a:Act}{w:World}
  (hy:Kd P ops oi v a w)(h:opM P ops j K (a.put oi.dst v) w):
  opM P ops j (fun a' w'=>Kd P ops oi v a' w'∧K (a'.put oi.dst v) w') a w:=by
 obtain ⟨h1,h2,h3⟩:=Oper.apart_spec hap
 have keep:∀w',(Mw oi.op=true∨Ez w w')→∀u,Kd P ops oi v (a.put oj.dst u) w':=fun w' hk u=>
  hy.of_same (execOp_put oi hsi a oj.dst u h3) (wanted_put oi a oj.dst u h3) hk
 unfold opM at *;simp only [hj] at *;rw [wanted_put oj a oi.dst v h1] at h
 split
 ·rename_i hw
  simp only [hw,if_true] at h;unfold J5 at *;rw [execOp_put oj hsj a oi.dst v h1] at h;refine Tg.mono (fun u w' ⟨k1,k2⟩=>⟨k1,keep w' (hkind.imp id k1) u,?_⟩) h;rw [←Act.put_comm a v u h2];exact k2
 rename_i hw
 simp only [hw] at h;exact ⟨keep w (.inr (Ez.refl w)) _,by rw [←Act.put_comm a v undef h2];exact h⟩
def Ni (ops:Array Oper) (listed:Array Bool):Prop:=∀j o,ops[j]? =some o→listed.getD j false=true→∀e∈o.after,Region.binds .any e=true→listed.getD e.on false=true
theorem Ni.set {listed:Array Bool}(h:Ni ops listed){i:Nat}(hi:i∈Region.ready .any ops listed):Ni ops (listed.setIfInBounds i true):=by
 intro j o ho hl e he hb;refine getD_set_true ?_
 by_cases hij:i=j
 ·subst hij
  obtain ⟨_,o',ho',hall⟩:=mem_ready.1 hi;rw [ho] at ho';obtain rfl:=Option.some.inj ho';exact hall e he hb
 rw [getD_set_ne false hij] at hl;exact h j o ho hl e he hb
def inN (i:Nat):List Nat→Bool
 | []=>false
 |j::r=>match Nat.beq i j with
  |true=>true
  |false=>inN i r
theorem B26 {i:Nat}:∀{l:List Nat},inN i l=true→i∈l
 | [],h=>by simp [inN] at h
 |j::r,h=>by
  unfold inN at h
  split at h
  ·rename_i e;rw [Nat.eq_of_beq_eq_true e];exact List.mem_cons_self
  exact List.mem_cons_of_mem _ (B26 h)
def B1l:List Edge→List Nat
 | []=>[]
 |e::r=>match Region.binds .any e with
  |true=>e.on::B1l r
  |false=>B1l r
theorem Vh {k:Nat}:∀{l:List Edge},k∈B1l l→∃e∈l,Region.binds .any e=true∧e.on=k
 | [],h=>by simp [B1l] at h
 |e::r,h=>by
  unfold B1l at h
  split at h
  ·rename_i hb
   rcases List.mem_cons.1 h with h|h
   ·exact ⟨e,List.mem_cons_self,hb,h.symm⟩
   obtain ⟨e',h1,h2⟩:=Vh h;exact ⟨e',List.mem_cons_of_mem _ h1,h2⟩
  obtain ⟨e',h1,h2⟩:=Vh h;exact ⟨e',List.mem_cons_of_mem _ h1,h2⟩
def Rk (ops:Array Oper) (i:Nat):Nat→List Nat→List Nat→Bool
 | 0,_,_=>false
 |_+1,[],_=>false
 |f+1,j::todo,seen=>
  match inN j seen with
  |true=>Rk ops i f todo seen
  |false=>match ops[j]? with
   |some o=>match inN i (B1l o.after.toList) with
    |true=>true
    |false=>Rk ops i f (B1l o.after.toList++todo) (j::seen)
   |none=>Rk ops i f todo seen
theorem Lk {listed:Array Bool}(hc:Ni ops listed){i:Nat}:∀(f:Nat) (todo seen:List Nat),Rk ops i f todo seen=true→
  (∀j∈todo,∀o,ops[j]? =some o→∀e∈o.after,Region.binds .any e=true→listed.getD e.on false=true)→listed.getD i false=true
 | 0,_,_,h,_=>by simp [Rk] at h
 |f+1,[],_,h,_=>by simp [Rk] at h
 |f+1,j::todo,seen,h,hj=>by
  unfold Rk at h
  split at h
  ·exact Lk hc f todo seen h (fun k hk=>hj k (List.mem_cons_of_mem _ hk))
  split at h
  ·rename_i o ho
   have hP:=hj j List.mem_cons_self o ho
   split at h
   ·rename_i hm
    obtain ⟨e,he,hb,hon⟩:=Vh (B26 hm)
    have:=hP e (Array.mem_toList_iff.1 he) hb
    rw [hon] at this;exact this
   refine Lk hc f _ _ h (fun k hk=>?_)
   rcases List.mem_append.1 hk with hk|hk
   ·obtain ⟨e,he,hb,hon⟩:=Vh hk
    have hl:=hP e (Array.mem_toList_iff.1 he) hb;rw [hon] at hl;exact fun o' ho' e' he' hb'=>hc k o' ho' hl e' he' hb'
   exact hj k (List.mem_cons_of_mem _ hk)
  exact Lk hc f todo seen h (fun k hk=>hj k (List.mem_cons_of_mem _ hk))
def Ud (ops:Array Oper) (_ j i:Nat):Bool:=Rk ops i 2000 [j] []
theorem A3h {listed:Array Bool}(hc:Ni ops listed){i:Nat}(f j:Nat)(h:Ud ops f j i=true)(hj:∀o,ops[j]? =some o→∀e∈o.after,Region.binds .any e=true→listed.getD e.on false=true):listed.getD i false=true:=
 Lk hc 2000 [j] [] h (fun k hk=>by rw [List.mem_singleton.1 hk];exact hj)
theorem Rm {listed:Array Bool}{i:Nat}(hi:i∈Region.ready .any ops listed):listed.getD i false=false:=by
 have h0:=(mem_ready.1 hi).1
 rcases Nat.lt_or_ge i listed.size with h'|h'
 ·simp [h'] at h0 ⊢;exact h0
 simp [Array.getElem?_eq_none h']
theorem Mv {Q:Act→World→Prop}{i:Nat}{oi:Oper}{v:Value}(hi:ops[i]? =some oi)(hsel:∀(j:Nat) (o:Oper) cs b,ops[j]? =some o→o.op≠ .select cs b)(n:Nat):
  ∀(fuel:Nat) (listed:Array Bool) (a:Act) (w:World),Ni ops listed→
   (∀j oj,ops[j]? =some oj→j≠i→listed.getD j true=false→Ud ops n j i=true∨(oi.apart ops oj=true∧(Mw oi.op=true∨Eb oj.op≤1)))→
   i∈Region.ready .any ops listed→Kd P ops oi v a w→
   P8 P ops Q fuel (listed.setIfInBounds i true) (a.put oi.dst v) w→P8 P ops Q (fuel+1) listed a w:=by
 intro fuel
 induction fuel with
 |zero=>
  intro listed a w _ _ hr hy H;refine ⟨fun h=>(by rw [h] at hr;cases hr),fun j hj=>?_⟩
  by_cases hji:j=i
  ·subst hji;exact hy.opM hi H
  have:=ready_mono hj hji
  rw [H.1] at this
  cases this
 |succ fuel ih=>
  intro listed a w hcl hfree hr hy H;refine ⟨fun h=>(by rw [h] at hr;cases hr),fun j hj=>?_⟩
  by_cases hji:j=i
  ·subst hji;exact hy.opM hi H
  have h1:=H.2 j (ready_mono hj hji);obtain ⟨hjun,oj,hoj,hall⟩:=mem_ready.1 hj;have hun:=Rm hr
  have hf:oi.apart ops oj=true∧(Mw oi.op=true∨Eb oj.op≤1):=by
   rcases hfree j oj hoj hji hjun with h|h
   ·have:=A3h hcl n j h (fun o ho e he hb=>by rw [hoj] at ho;obtain rfl:=Option.some.inj ho;exact hall e he hb)
    rw [hun] at this
    cases this
   exact h
  have h2:=C2d hoj hf.1 hf.2 (fun cs b=>hsel i oi cs b hi) (fun cs b=>hsel j oj cs b hoj) hy h1
  have hfree':∀k ok,ops[k]? =some ok→k≠i→(listed.setIfInBounds j true).getD k true=false→
    Ud ops n k i=true∨(oi.apart ops ok=true∧(Mw oi.op=true∨Eb ok.op≤1)):=fun k ok hk hki hun=>by
   refine hfree k ok hk hki ?_
   by_cases hjk:j=k
   ·subst hjk;exact hjun
   rw [getD_set_ne true hjk] at hun;exact hun
  refine A80 (fun a' w' h3=>ih (listed.setIfInBounds j true) a' w' (hcl.set hj) hfree' (ready_mono hr (Ne.symm hji)) h3.1 ?_) h2;rw [Array.setIfInBounds_comm _ _ hji];exact h3.2
def B77 (ops:Array Oper) (listed:Array Bool) (i:Nat) (oi:Oper):Bool:=
 (List.range ops.size).all fun j=>j==i||listed.getD j true||(match ops[j]? with
  |some oj=>oi.apart ops oj&&(Mw oi.op||Nat.ble (Eb oj.op) 1)
  |none=>true)||Ud ops ops.size j i
def V8 (ops:Array Oper):List Nat→Array Bool→Bool
 | [],listed=>(Region.ready .any ops listed).isEmpty
 |i::rest,listed=>(match ops[i]? with
   |some o=>match Eb o.op with
    | 0=>(Region.ready .any ops listed).contains i&&B77 ops listed i o
    |_=>match Region.ready .any ops listed with
     | [j]=>j==i
     |_=>false
   |none=>false)&&V8 ops rest (listed.setIfInBounds i true)
def A59 (ops:Array Oper) (ord:List Nat):List Oper:=ord.filterMap fun i=>ops[i]?
def B82 (ops:Array Oper) (ord:List Nat):Bool:=Region.noSelect ops&&(ord.length==ops.size)&&V8 ops ord (Array.replicate ops.size false)
theorem Zl {Q:Act→World→Prop}(hsel:∀(j:Nat) (o:Oper) cs b,ops[j]? =some o→o.op≠ .select cs b):∀(ord:List Nat) (listed:Array Bool) (a:Act) (w:World),
  V8 ops ord listed=true→Ni ops listed→Gj P ops Q (ord.filterMap fun i=>ops[i]?) a w→P8 P ops Q ord.length listed a w
 | [],listed,a,w,h,_,hq=>⟨by simpa [V8] using h,hq⟩
 |i::rest,listed,a,w,h,hc,hq=>by
  unfold V8 at h;simp only [Bool.and_eq_true] at h;obtain ⟨h1,h2⟩:=h
  split at h1
  ·rename_i o ho
   have hl:(i::rest).filterMap (fun i=>ops[i]?)=o::rest.filterMap (fun i=>ops[i]?):=by simp [ho]
   rw [hl] at hq
   split at h1
   ·rename_i hk
    simp only [Bool.and_eq_true,List.contains_iff_mem] at h1;obtain ⟨hr,hf⟩:=h1
    have hfree:∀j oj,ops[j]? =some oj→j≠i→listed.getD j true=false→Ud ops ops.size j i=true∨(o.apart ops oj=true∧(Mw o.op=true∨Eb oj.op≤1)):=by
     intro j oj hoj hji hun
     have:=List.all_eq_true.1 hf j (List.mem_range.2 (Array.getElem?_eq_some_iff.1 hoj).1)
     simp only [hoj,hun,Bool.or_false,Bool.or_eq_true,beq_iff_eq,hji,false_or,Bool.and_eq_true] at this;exact this.symm.imp id fun ⟨h1,h2⟩=>⟨h1,h2.imp id fun h=>Nat.le_of_ble_eq_true h⟩
    have hy:∃v,Kd P ops o v a w∧Gj P ops Q (rest.filterMap fun i=>ops[i]?) (a.put o.dst v) w:=by
     unfold Gj at hq
     by_cases hw:Region.wanted o (yielded ops a.tmps)=true
     ·rw [if_pos hw] at hq
      rcases hq with ⟨v,h1,h2⟩|⟨hn,_⟩
      ·exact ⟨v,.inl ⟨hw,fun w' hk=>hk.elim (fun hb=>S4 hb a.eval (h1 w (Ez.refl w))) (h1 w')⟩,h2⟩
      exact absurd hk hn
     rw [if_neg hw] at hq;exact ⟨undef,.inr ⟨by simpa using hw,rfl⟩,hq⟩
    obtain ⟨v,hy,hK⟩:=hy;exact Mv ho hsel ops.size rest.length listed a w hc hfree hr hy (Zl hsel rest _ _ _ h2 (hc.set hr) hK)
   split at h1
   ·rename_i j hrd
    obtain rfl:j=i:=by simpa using h1
    have hr:j∈Region.ready .any ops listed:=by rw [hrd];simp
    refine ⟨fun h0=>(by rw [h0] at hrd;cases hrd),fun k hk=>?_⟩;rw [hrd] at hk;obtain rfl:k=j:=by simpa using hk
    have ih:=fun a w=>Zl (Q:=Q) hsel rest (listed.setIfInBounds k true) a w h2 (hc.set hr);unfold opM;simp only [ho];unfold Gj at hq
    split
    ·rename_i hw
     rw [if_pos hw] at hq
     rcases hq with ⟨v,h1,h2⟩|⟨_,hd⟩
     ·unfold J5
      rw [h1 w (Ez.refl w)];exact ⟨fun _=>Ez.refl w,ih _ _ h2⟩
     exact hd.mono fun a w h=>ih a w h
    rename_i hw
    rw [if_neg hw] at hq;exact ih _ _ hq
   simp at h1
  simp at h1
theorem A3i {id:Nat}{Q:Exit→Act→World→Prop}{a:Act}{w:World}{ord:List Nat}(hm:P.follows .mixedOrders=true)(hB:B82 ops ord=true)
  (h:Gj P ops (fun a w=>Q .normal a w) (A59 ops ord) a {w with drawn:=w.drawn+1}):(Code.region id ops true).wp P Q a w:=by
 simp only [B82,Bool.and_eq_true,beq_iff_eq] at hB;obtain ⟨⟨h1,h2⟩,h3⟩:=hB;refine wp_region_any hm (Uk (Q:=fun a w=>Q .normal a w) (fun _ _ h=>h) _ _ _ _ ?_)
 have:=Zl (Region.noSelect_spec h1) ord (Array.replicate ops.size false) a _ h3 (fun j o _ hl=>by exfalso;by_cases hj:j<ops.size<;>simp [hj] at hl) h
 rwa [h2] at this
end Go.Sx
namespace Go.Sx
variable {P : Program} {T : List (TypeId × TI)}
theorem L6 (wr:Bool)(op:BinOp)(t:TypeId)(x y:AV):(∀c,Zp wr T op t x y≠ .new c)∧(∀c,Zp wr T op t x y≠ .mem c)∧∀p c,Zp wr T op t x y≠ .own p c:=by
 refine ⟨?_,?_,?_⟩<;>intros<;>intro h<;>unfold Zp at h<;>(repeat' (split at h))<;>simp at h
theorem C0e (hT:Cs P T){wr:Bool}{s:AS}{op:Op}{cells:List AV}(hs:step T wr s op= .new cells){B:Be}{E:E7}{a:Act}{w:World}(h:s.is B E a w)
  (o:Oper)(ho:o.op=op):∃vs ty,(execOp a.eval o).run P w= .ok (.value (.pointer (some ⟨w.heap.size,0,none⟩))) (w.alloc (.cells vs ty))∧vs.size=cells.length∧
   (∀j y,cells[j]? =some y→Dr E w (s.avoid E) s.next y (vs.getD j undef))∧Eb op=1:=by
 obtain ⟨dst,op',ty,pos,after,guard⟩:=o
 simp only at ho
 subst ho;unfold step at hs
 split at hs
 case h_5 t=>
  split at hs
  ·rename_i i hi
   simp only [Fu.new.injEq] at hs;subst hs;obtain ⟨z,hz,hrun⟩:=Rs (hT t i hi);obtain ⟨h1,h2⟩:=Z3 (hT t i hi) hz E w (s.avoid E) s.next;exact ⟨z.cells,t,by simp [execOp,Instr.alloc,hrun,newVar,newRow],h1,h2,rfl⟩
  simp at hs
 case h_6 t x=>
  split at hs
  ·rename_i hc
   simp only [Fu.new.injEq] at hs;subst hs;obtain ⟨h1,h2,h3⟩:=Np (h.ev x) hc h.one;exact ⟨(a.eval x).cells,t,by simp [execOp,Instr.box,newVar,newRow],h1,h2,rfl⟩
  simp at hs
 case h_3=>exact absurd hs ((L6 ..).1 _)
 all_goals (exfalso;(repeat' (split at hs))<;>simp at hs)
theorem C0d (hT:Cs P T){wr:Bool}{s:AS}{op:Op}{bx:List Bx}(hs:step T wr s op= .mem bx){B:Be}{E:E7}{a:Act}{w:World}(h:s.is B E a w)
  (o:Oper)(ho:o.op=op):∃w',(execOp a.eval o).run P w= .ok .skip w'∧({s with boxes:=bx}:AS).is B E a w'∧Eb op=2:=by
 obtain ⟨dst,op',ty,pos,after,guard⟩:=o
 simp only at ho
 subst ho;unfold step at hs
 split at hs
 case h_9 t x y=>
  split at hs
  ·rename_i i k off hi e
   split at hs
   ·rename_i b hb
    split at hs
    ·rename_i h1 h2 h3
     simp only [Fu.mem.injEq] at hs;subst hs;have hx:=h.ev x;rw [e] at hx;obtain ⟨c1,c2,c3⟩:=Np (h.ev y) h3 h.one;have h1:=Nat.le_of_ble_eq_true h1;have h2:=Nat.eq_of_beq_eq_true h2;generalize hv:a.eval x=v at hx
     cases hx with
     |box _ hk=>
      obtain ⟨hm,rfl⟩:=F3 hb;obtain ⟨hlt,vs0,ty0,hh0,hs0,hd0⟩:=h.boxes b hm;have hst:=run_storeCells_at P (E.β b.key) off ty0 (a.eval y).cells.toList 0 vs0 w hh0 (by simp;omega) c3;simp only [Nat.add_zero] at hst
      have hrun:(Instr.storeAt t (.pointer (some ⟨E.β b.key,off,none⟩)) (a.eval y)).run P w= .ok () (w.setRow (E.β b.key) (vs0.toList.take off++(a.eval y).cells.toList++vs0.toList.drop (off+(a.eval y).cells.toList.length)).toArray):=by
       simp [Instr.storeAt,Instr.sureAddr,storeVar,C0 (hT t i hi),c1,h2,hst]
      refine ⟨_,by simp only [execOp,hv,Sem.run_bind,hrun,Result.andThen_ok];rfl,?_,rfl⟩;refine h.setBox hb _ _ ?_ (fun j z hj=>?_)
      ·simp [Te,c1];omega
      rw [B17] at hj;have hlen:(List.take off vs0.toList).length=off:=by simp;omega
      simp only [←Cg,List.getD] at hd0 c2 ⊢
      by_cases hr:off≤j∧j<off+(s.ev y).cellsOf.length∧j<b.cells.length
      ·rw [if_pos hr] at hj
       have:=c2 _ _ hj
       rw [List.append_assoc,List.getElem?_append_right Ad,hlen,List.getElem?_append_left (by simp;omega)];exact this
      rw [if_neg hr] at hj
      have:=hd0 _ _ hj
      have hjl:j<b.cells.length:=(List.getElem?_eq_some_iff.1 hj).1
      by_cases hlo:j<off
      ·rw [List.append_assoc,List.getElem?_append_left Ad]
       simpa [List.getElem?_take,hlo] using this
      rw [List.getElem?_append_right (by simp;omega)];simp only [List.length_append,hlen,List.getElem?_drop];rw [show off+(a.eval y).cells.toList.length+(j-(off+(a.eval y).cells.toList.length))=j by simp;omega]
      exact this
    simp at hs
   simp at hs
  simp at hs
 case h_3=>exact absurd hs ((L6 ..).2.1 _)
 all_goals (exfalso;(repeat' (split at hs))<;>simp at hs)
theorem Ir {k n:Nat}(h:Nat.blt k n=true):k<n:=by simp [Nat.blt] at h;omega
theorem N4 (z:Array Value)(n k:Nat)(hk:k<n):(madeCells z n).getD k undef=z[k % z.size]! :=by
 simp [madeCells,Array.getD,hk]
theorem Uy {α:Type}(l:List α):l.flatMap (fun _=>([]:List Nat))=[]:=by
 induction l with
 |nil=>rfl
 |cons x l ih=>simp
theorem Sr {fields:List (Nat×TypeId)}{s:AS}{ps:List (Nat×Operand)}{acc out:List AV}(h:Pl T fields s ps acc=some out):out.length=acc.length:=by
 induction ps generalizing acc with
 |nil=>obtain rfl:=Option.some.inj h;rfl
 |cons p ps ih=>
  obtain ⟨f,x⟩:=p;unfold Pl at h
  split at h
  ·simp at h
  split at h
  ·simp at h
  split at h
  ·rw [ih h,Te]
  simp at h
theorem Jw (w:World)(o:Obj):Ju w.heap.size w (w.alloc o):=⟨rfl,rfl,rfl,by simp,fun k hk=>Fv w _ _ hk,Nat.le_refl _⟩
theorem A99 {l:List AV}{xs:List Ai}(h:A61 l=some xs):xs.length=l.length∧∀(k:Nat) (x:Ai),xs[k]? =some x→∃v,l[k]? =some (.v v)∧x= .val v:=by
 induction l generalizing xs with
 |nil=>obtain rfl:=Option.some.inj h;simp
 |cons c l ih=>
  unfold A61 at h
  split at h
  ·rename_i heq;simp at heq
  ·rename_i v r heq
   simp only [List.cons.injEq] at heq;obtain ⟨rfl,rfl⟩:=heq
   split at h
   ·rename_i cs hcs
    obtain rfl:=Option.some.inj h;obtain ⟨h1,h2⟩:=ih hcs;refine ⟨by simp [h1],fun k x hk=>?_⟩
    cases k with
    |zero=>simp only [List.getElem?_cons_zero,Option.some.injEq] at hk;subst hk;exact ⟨v,by simp,rfl⟩
    |succ k=>simpa using h2 k x (by simpa using hk)
   simp at h
  simp at h
theorem Ta (n i size:Nat)(e:TypeId)(k:Nat)(o:Nat)(u:TypeId)(h:(Ih n i size e)[k]? =some (o,u)):o=(i+k) * size∧u=e:=by
 induction n generalizing i k with
 |zero=>simp [Ih] at h
 |succ n ih=>
  cases k with
  |zero=>simp [Ih] at h;exact ⟨by rw [←h.1];simp,h.2.symm⟩
  |succ k=>
   have:=ih (i+1) k (by simpa [Ih] using h)
   exact ⟨by rw [this.1];congr 1;omega,this.2⟩
theorem K2 {α:Type}(n:Nat)(l:List α):(repL n l).length=n * l.length:=by
 induction n with
 |zero=>simp [repL]
 |succ n ih=>simp [repL,ih,Nat.succ_mul];omega
theorem A9f {α:Type}(n:Nat)(l:List α)(k:Nat)(h:k<n * l.length):(repL n l)[k]? =l[k % l.length]? :=by
 induction n generalizing k with
 |zero=>simp at h
 |succ n ih=>
  simp only [repL]
  by_cases hk:k<l.length
  ·rw [List.getElem?_append_left hk,Nat.mod_eq_of_lt hk]
  rw [List.getElem?_append_right Ad,ih (k-l.length) (by rw [Nat.add_mul,Nat.one_mul] at h;omega)]
  congr 1
  exact (Nat.mod_eq_sub_mod Ad).symm
theorem C0f (hT:Cs P T){wr:Bool}{s:AS}{op:Op}{ps:List Prop}{c:Ai}(hs:step T wr s op= .own ps c)(hp:∀p∈ps,p){B:Be}{E:E7}{a:Act}{w:World}(h:s.is B E a w)
  (o:Oper)(ho:o.op=op):∃v w' fp,(execOp a.eval o).run P w= .ok (.value v) w'∧D3 w' c v fp∧fp.Nodup∧(∀b∈fp,w.heap.size≤b)∧Ju w.heap.size w w'∧Eb op=1:=by
 obtain ⟨dst,op',ty,pos,after,guard⟩:=o
 simp only at ho
 subst ho;unfold step at hs
 split at hs
 case h_3=>exact absurd hs ((L6 ..).2.2 _ _)
 case h_20 t x y=>
  split at hs
  ·rename_i e kl la kc lb he ex ey
   obtain ⟨i,hi,hie⟩:=Option.bind_eq_some_iff.1 he
   split at hs
   ·rename_i j hj
    split at hs
    ·rename_i hbz
     simp only [Fu.own.injEq] at hs;obtain ⟨rfl,rfl⟩:=hs;obtain ⟨h0,h1,h2⟩:0≤la∧la≤lb∧lb≤1099511627776:=hp _ C8;have hx:=h.ev x;have hy:=h.ev y;rw [ex] at hx;rw [ey] at hy;have e1:=Bo hx;have e2:=Bo hy;have hbz:=Nat.le_of_ble_eq_true hbz;obtain ⟨f,d,z,S⟩:=TI.of_spec (hT e j hj);have hzs:z.cells.size=j.size:=by have:=S.zlen;rw [←S.cells] at this;simpa using this
     have hbytes:(f.bytes:Int) * lb≤281474976710656:=by
      rw [S.bytes];have h3:(j.bytes:Int)≤256:=by omega
      have:(j.bytes:Int) * lb≤256 * 1099511627776:=Int.mul_le_mul h3 h2 Ad Ad
      omega
     have hrun:=run_make (P:=P) w t e f z (Cm (hT t i hi) hie) S.hf S.hz kl kc la lb h0 h1 hbytes Ad;refine ⟨_,_,[w.heap.size],by simp only [execOp,e1,e2,Sem.run_bind,hrun,Result.andThen_ok];rfl,?_,by simp,by simp,Jw w _,rfl⟩
     have hown:=D3.sl (w:=w.alloc (.cells (madeCells z.cells (lb.toNat * f.size)) e)) la.toNat j.size (fun _=>j.zero.map Ai.val) w.heap.size 0 lb.toNat e (madeCells z.cells (lb.toNat * f.size)) (fun _=>[])
      Ad (by simp only [maxLen];omega) (heap_alloc_new w _) (by rw [S.size];simp [madeCells]) (fun _ _=>by simp [S.zlen]) (fun k m c hk hc=>by
       simp only [List.getElem?_map,Option.map_eq_some_iff] at hc;obtain ⟨v,hv,rfl⟩:=hc;have hm:m<j.size:=by rw [←S.zlen];exact (List.getElem?_eq_some_iff.1 hv).1
       have hlt:(0+k) * j.size+m<lb.toNat * f.size:=by rw [S.size];exact Fz Ad hm
       have hv1:(madeCells z.cells (lb.toNat * f.size)).getD ((0+k) * j.size+m) undef=v:=by
        rw [N4 _ _ _ hlt,hzs,Nat.mul_comm,Nat.mul_add_mod,Nat.mod_eq_of_lt hm];have h4:m<z.cells.size:=by omega
        have h5:z.cells[m]? =some v:=by rw [←Array.getElem?_toList,S.cells];exact hv
        simp [getElem!_pos,h4]
        rw [Array.getElem?_eq_getElem h4] at h5;exact Option.some.inj h5
       rw [hv1]
       exact .val v (Ig S.zone v (List.mem_of_getElem? hv)))
     rw [Uy] at hown
     simpa using hown
    simp at hs
   simp at hs
  simp at hs
 case h_21 t len parts=>
  split at hs
  ·rename_i e he
   obtain ⟨i,hi,hie⟩:=Option.bind_eq_some_iff.1 he
   split at hs
   ·rename_i j hj
    split at hs
    ·rename_i cs hsmall hcs
     split at hs
     ·rename_i vals hvals
      simp only [Fu.own.injEq] at hs;obtain ⟨rfl,rfl⟩:=hs;obtain ⟨f,d,z,S⟩:=TI.of_spec (hT e j hj);have hzs:z.cells.size=j.size:=by have:=S.zlen;rw [←S.cells] at this;simpa using this
      simp only [Bool.and_eq_true] at hsmall;have hpos:=Ir hsmall.2;have hsmall:=Nat.le_of_ble_eq_true hsmall.1;have hlen:len≤len * j.size:=Nat.le_mul_of_pos_right _ hpos
      have hz0:DL E w (s.avoid E) s.next (repL len (I6 j)) ((Array.range (len * j.size)).map (z.cells[· % z.cells.size]!)):=by
       refine ⟨by simp [K2,I6,S.zlen],fun k y hy=>?_⟩;have hzl:(I6 j).length=j.size:=by simp [I6,S.zlen]
       have hk:k<len * j.size:=by have:=(List.getElem?_eq_some_iff.1 hy).1;rwa [K2,hzl] at this
       rw [A9f _ _ _ (by rw [hzl];exact hk),hzl] at hy
       have:=(Z3 (hT e j hj) S.cells E w (s.avoid E) s.next).2 _ _ hy
       have hm:k % j.size<z.cells.size:=by rw [hzs];exact Nat.mod_lt _ (Nat.pos_of_ne_zero (fun h=>by rw [h] at hk;simp at hk))
       have e1:((Array.range (len * j.size)).map (z.cells[· % z.cells.size]!)).getD k undef=z.cells.getD (k % j.size) undef:=by
        have:=N4 z.cells (len * j.size) k hk
        rw [show (Array.range (len * j.size)).map (z.cells[· % z.cells.size]!)=madeCells z.cells (len * j.size) from rfl,this,hzs]
        rw [getElem!_pos z.cells _ hm];simp only [Array.getD,hm,dif_pos];rfl
       rw [e1];exact this
      obtain ⟨cs',hfill,hDL⟩:=A5n hT h (Ih len 0 j.size e) (fun k=>some (k * j.size,j.size)) (fun k o u hk j' hj'=>by
       obtain ⟨rfl,rfl⟩:=Ta _ _ _ _ _ _ _ hk;rw [hj] at hj';obtain rfl:=Option.some.inj hj'
       simp) parts.toList _ _ cs hcs hz0
      obtain ⟨v1,v2⟩:=A99 hvals
      have hcsl:cs'.size=len * j.size:=by
       have:=hDL.1
       have h2:cs.length=len * j.size:=by
        have:=Sr hcs
        rw [this,K2]
        simp [I6,S.zlen]
       omega
      have hrun:(Instr.buildSlice t len (parts.map fun p=>(p.1,a.eval p.2))).run P w= .ok (.slice (some ⟨w.heap.size,0,none⟩) len len) (w.alloc (.cells cs' e)):=by
       have hnot:¬ (16777216<len * j.size):=by omega
       have hfill':Instr.fill (fun k=>some (k * j.size,j.size)) ((Array.range (len * j.size)).map (z.cells[· % z.cells.size]!)) (parts.map fun p=>(p.1,a.eval p.2)).toList=some cs':=by
        rw [Array.toList_map];exact hfill
       by_cases h0:len * j.size=0
       ·simp [Instr.buildSlice,run_underlying (Cm (hT t i hi) hie),C0 (hT e j hj),h0,newRow,Array.range_zero']
        simp [h0,Array.range_zero'] at hfill'
        rw [hfill']
        simp
       simp [Instr.buildSlice,run_underlying (Cm (hT t i hi) hie),C0 (hT e j hj),hnot,h0,newRow,zeroValue,typeInfo,S.hf,S.hz]
       simp at hfill'
       rw [hfill']
       simp
      refine ⟨_,_,[w.heap.size],by simp only [execOp,Sem.run_bind,hrun,Result.andThen_ok];rfl,?_,by simp,by simp,Jw w _,rfl⟩;have hvl:vals.length=len * j.size:=by rw [v1,←hDL.1,hcsl]
      have hown:=D3.sl (w:=w.alloc (.cells cs' e)) len j.size (fun i=>(vals.drop (i * j.size)).take j.size) w.heap.size 0 len e cs' (fun _=>[])
       (Nat.le_refl _) (by simp only [maxLen];omega) (heap_alloc_new w _) (by simp [hcsl]) (fun k hk=>by
        have:=Fz hk (Nat.lt_succ_self 0)
        have h2:k * j.size+j.size≤len * j.size:=by rw [←Nat.succ_mul];exact Nat.mul_le_mul_right _ hk
        simp [hvl];omega) (fun k m c hk hc=>by
        have hm:m<j.size:=by have:=(List.getElem?_eq_some_iff.1 hc).1;simp at this;omega
        rw [List.getElem?_take,if_pos hm,List.getElem?_drop] at hc;obtain ⟨v,hv,rfl⟩:=v2 _ _ hc;have hd:=hDL.2 _ _ hv;have e1:=Bo hd;rw [show (0+k) * j.size+m=k * j.size+m by rw [Nat.zero_add],e1]
        refine .val v ?_;rw [←e1]
        cases hd with
        |c hr=>exact hr.one)
      rw [Uy] at hown
      simpa using hown
     simp at hs
    simp at hs
   simp at hs
  simp at hs
 all_goals (exfalso;(repeat' (split at hs))<;>simp at hs)
theorem A3d {wr:Bool}{s:AS}{op:Op}{cells:List AV}(hs:step T wr s op= .new cells):Eb op=1:=by
 unfold step at hs
 split at hs
 case h_5=>rfl
 case h_6=>rfl
 case h_3=>exact absurd hs ((L6 ..).1 _)
 all_goals (exfalso;(repeat' (split at hs))<;>simp at hs)
theorem A3c {wr:Bool}{s:AS}{op:Op}{bx:List Bx}(hs:step T wr s op= .mem bx):Eb op=2:=by
 unfold step at hs
 split at hs
 case h_9=>rfl
 case h_3=>exact absurd hs ((L6 ..).2.1 _)
 all_goals (exfalso;(repeat' (split at hs))<;>simp at hs)
theorem A3e {wr:Bool}{s:AS}{op:Op}{ps:List Prop}{c:Ai}(hs:step T wr s op= .own ps c):Eb op=1:=by
 unfold step at hs
 split at hs
 case h_20=>rfl
 case h_21=>rfl
 case h_3=>exact absurd hs ((L6 ..).2.2 _ _)
 all_goals (exfalso;(repeat' (split at hs))<;>simp at hs)
def D5 (P:Program) (Q:Exit→Act→World→Prop):List KI→Exit→Act→World→Prop
 | []=>Q
 | .code c::K=>Exit.then (c.wp P (D5 P Q K)) (D5 P Q K)
 | .block id::K=>Exit.inBlock id (D5 P Q K)
 | .loop I::K=>Exit.then I (D5 P Q K)
 | .ops false all l::K=>Exit.then (wpList P all (D5 P Q K) l) (D5 P Q K)
 | .ops true all l::K=>Exit.then (Gj P all (fun a w=>D5 P Q K .normal a w) l) (D5 P Q K)
def G (P:Program) (B:Be) (Q:Exit→Act→World→Prop) (K:List KI) (s:AS):Prop:=∀E a w,s.is B E a w→D5 P Q K .normal a w
def K9 (P:Program) (f:FuncId):Prop:=∃fn,P.funcs[f]? =some fn∧(fn.name== "runtime.NumGoroutine")=false∧fn.body.isNone=false
def B2l (P:Program) (B:Be) (Q:Exit→Act→World→Prop) (q:Bool) (f:FuncId) (xs:List AV) (dst:Option Tmp) (K:List KI) (s:AS):Prop:=
 K9 P f∧∀E a w,s.is B E a w→∀vs:List Value,vs.length=xs.length→(∀i x,xs[i]? =some x→Dr E w (s.avoid E) s.next x (vs.getD i undef))→
  Calls P f vs.toArray w fun e w'=>∃v,e= .returned v∧(q=true→Ez w w')∧D5 P Q K .normal (a.put dst v) w'
def C0u (B:Be) (Q:Exit→Act→World→Prop) (s:AS):Prop:=∀E a w,s.is B E a w→Q .ret a w
def vc (P:Program) (B:Be) (Q:Exit→Act→World→Prop):Out→Prop
 | .at_ K s=>G P B Q K s
 | .call q f xs dst K s=>B2l P B Q q f xs dst K s
 | .ret s=>C0u B Q s
 | .ite b t e=>(b=true→vc P B Q t)∧(b=false→vc P B Q e)
 | .need p o=>p∧vc P B Q o
theorem Hl {α:Type}(n:Nat)(k:Nat→α):Jr n k=k n:=by
 induction n generalizing k with
 |zero=>rfl
 |succ n ih=>simp [Jr,ih]
theorem B47 {α:Type}(x:AV)(k:AV→α):A0p x k=k x:=by cases x<;>simp [A0p,Hl]
theorem Tt {α:Type}(l:List AV)(k:List AV→α):Nt l k=k l:=by
 induction l generalizing k with
 |nil=>rfl
 |cons x r ih=>simp [Nt,B47,ih]
theorem A30 {α:Type}(x:AV)(k:AV→α):A5o x k=k x:=by cases x<;>simp [A5o,Tt,A0p,Hl]
theorem S8 {α:Type}(l:List AV)(k:List AV→α):Ps l k=k l:=by
 induction l generalizing k with
 |nil=>rfl
 |cons x r ih=>simp [Ps,A30,ih]
theorem A31 {α:Type}(l:List Bx)(k:List Bx→α):A0q l k=k l:=by
 induction l generalizing k with
 |nil=>rfl
 |cons x r ih=>cases x;simp [A0q,Tt,Hl,ih]
theorem A33 {α:Type}(l:List Ow)(k:List Ow→α):A0s l k=k l:=by
 induction l generalizing k with
 |nil=>rfl
 |cons x r ih=>cases x;simp [A0s,Hl,ih]
theorem A32 {α:Type}(l:List (Nat×Value))(k:List (Nat×Value)→α):A0r l k=k l:=by
 induction l generalizing k with
 |nil=>rfl
 |cons x r ih=>obtain ⟨a,v⟩:=x;simp [A0r,Hl,ih]
theorem Ej {α:Type}(s:AS)(k:AS→α):Kj s k=k s:=by cases s;simp [Kj,Hl,S8,A31,A33,A32]
theorem C2q {α:Type}(l:List AV)(i:Nat)(x:AV)(k:List AV→α):B93 l i x k=k (D6 l i x):=by
 induction l generalizing i k with
 |nil=>simp [B93,D6]
 |cons y r ih=>cases i<;>simp [B93,D6,ih]
theorem C02 {α:Type}(s:AS)(d:Option Tmp)(x:AV)(k:AS→α):K8 s d x k=k (s.put d x):=by
 cases d<;>simp [K8,AS.put,A30,C2q]
theorem B84 {α:Type}(s:AS)(cells:List AV)(k:AS→α):B3h s cells k=k (s.newBox cells):=by
 simp [B3h,AS.newBox,Tt,Hl]
theorem C2g {α:Type}(s:AS)(c:Ai)(k:AS→α):N8 s c k=k {s with own:=⟨s.next,c⟩::s.own,next:=s.next+1}:=by
 simp [N8,Hl]
theorem B80 {α:Type}(s:AS)(bx:List Bx)(k:AS→α):B3f s bx k=k {s with boxes:=bx}:=by
 simp [B3f,A31]
theorem B9o (P:Program)(Q:Exit→Act→World→Prop)(K:List KI)(a:Act)(w:World):D5 P Q K .ret a w=Q .ret a w:=by
 induction K with
 |nil=>rfl
 |cons k K ih=>rcases k with _|_|_|⟨_|_,_,_⟩<;>simpa [D5,Exit.then,Exit.inBlock] using ih
theorem B5t (P:Program)(Q:Exit→Act→World→Prop){id:Nat}{K K':List KI}(h:T9 id K=some K'){a:Act}{w:World}(hp:D5 P Q K' .normal a w):D5 P Q K (.exit id) a w:=by
 induction K with
 |nil=>simp [T9] at h
 |cons k K ih=>
  cases k with
  |block j=>
   unfold T9 at h
   split at h
   ·rename_i hj
    obtain rfl:=Nat.eq_of_beq_eq_true hj;obtain rfl:=Option.some.inj h
    simpa [D5,Exit.inBlock] using hp
   rename_i hj
   have hne:¬ id=j:=fun e=>by subst e;simp at hj
   simpa [D5,Exit.inBlock,hne] using ih h
  |code c=>simpa [D5,Exit.then] using ih (by simpa [T9] using h)
  |loop I=>simpa [D5,Exit.then] using ih (by simpa [T9] using h)
  |ops q all l=>cases q<;>simpa [D5,Exit.then] using ih (by simpa [T9] using h)
theorem B0d {B:Be}{Q:Exit→Act→World→Prop}{ps:List Prop}{o:Out}(h:vc P B Q (A1i ps o)):(∀p∈ps,p)∧vc P B Q o:=by
 induction ps with
 |nil=>exact ⟨by simp,h⟩
 |cons p r ih=>
  obtain ⟨h1,h2⟩:p∧vc P B Q (A1i r o):=h;obtain ⟨h3,h4⟩:=ih h2;exact ⟨fun q hq=>by rcases List.mem_cons.1 hq with rfl|hq;exact h1;exact h3 q hq,h4⟩
theorem AS.is.setBool {s:AS}{B:Be}{E:E7}{a:Act}{w:World}(h:s.is B E a w){d:Nat}{b:Bool}(hd:Hs s.slots d= .v (.bool b)):
  ({s with slots:=D6 s.slots d (.v (.bool b))}:AS).is B E a w:=by
 have:D6 s.slots d (.v (.bool b))=s.slots:=by
  apply List.ext_getElem?
  intro i;rw [Dv]
  split
  ·rename_i hi
   obtain ⟨rfl,hl⟩:=hi;rw [Dc,List.getElem?_eq_getElem hl] at hd;rw [List.getElem?_eq_getElem hl]
   simpa using hd.symm
  rfl
 rw [this];exact h
theorem AS.is.yielded {s:AS}{B:Be}{E:E7}{a:Act}{w:World}(h:s.is B E a w){all:Array Oper}{j:Nat}{d:Tmp}{b:Bool}(hj:Iz all j=some d)(hd:Hs s.slots d= .v (.bool b)):
  yielded all a.tmps j=some b:=by
 have hl:d<s.slots.length:=by
  rw [Dc] at hd
  by_cases hl:d<s.slots.length
  ·exact hl
  rw [List.getElem?_eq_none (Nat.le_of_not_lt hl)] at hd;simp at hd
 have hv:a.tmps.getD d undef= .bool b:=by
  have:=h.slots d (.v (.bool b)) (by rw [Dc,List.getElem?_eq_getElem hl] at hd;rw [List.getElem?_eq_getElem hl];simpa using hd)
  exact Bo this
 have hsz:d<a.tmps.size:=by rw [h.size];exact hl
 unfold Iz at hj;simp only [Array.getD,hsz,dif_pos] at hv;have h2:a.tmps[d]? =some (.bool b):=by rw [Array.getElem?_eq_getElem hsz];exact congrArg some hv
 unfold Go.yielded;rw [hj]
 simp [h2]
theorem Uq {E:E7}{w:World}{A:Nat→Prop}{N:Nat}(all:Array Oper)(d:Option Tmp):Dr E w A N (Oc all d) undef:=by
 have h:Dr E w A N (.tup []) (.tuple ([]:List Value).toArray):= .tup [] rfl (fun i x hx=>by simp at hx);unfold Oc
 split
 ·exact .any _
 split
 ·exact h
 exact .any _
theorem B7s {E:E7}{w:World}{A:Nat→Prop}{N:Nat}{v:Value}(h:Dr E w A N (.tup []) v):v=undef:=by
 cases h with
 |tup vs hl h=>
  have:vs=[]:=List.eq_nil_of_length_eq_zero hl
  subst this;rfl
theorem AS.is.yielded0 {s:AS}{B:Be}{E:E7}{a:Act}{w:World}(h:s.is B E a w){all:Array Oper}{j:Nat}{d:Tmp}(hj:Iz all j=some d)(hd:Hs s.slots d= .tup []):
  Go.yielded all a.tmps j=none:=by
 have hl:d<s.slots.length:=by
  rw [Dc] at hd
  by_cases hl:d<s.slots.length
  ·exact hl
  rw [List.getElem?_eq_none (Nat.le_of_not_lt hl)] at hd;simp at hd
 have hv:a.tmps.getD d undef=undef:=by
  have:=h.slots d (.tup []) (by rw [Dc,List.getElem?_eq_getElem hl] at hd;rw [List.getElem?_eq_getElem hl];simpa using hd)
  exact B7s this
 have hsz:d<a.tmps.size:=by rw [h.size];exact hl
 unfold Iz at hj;simp only [Array.getD,hsz,dif_pos] at hv;have h2:a.tmps[d]? =some undef:=by rw [Array.getElem?_eq_getElem hsz];exact congrArg some hv
 unfold Go.yielded;rw [hj]
 simp [h2,undef]
end Go.Sx
namespace Go.Sx
variable {P : Program} {T : List (TypeId × TI)}
structure AS.isA (s:AS) (B:Be) (E:E7) (A:Nat→Prop) (a:Act) (w:World):Prop where
 defers:a.defers=[]
 links:∀p∈s.links,p.1<s.next∧E.ov p.1=p.2
 size:a.tmps.size=s.slots.length
 slots:∀i x,s.slots[i]? =some x→Dr E w A s.next x (a.tmps.getD i undef)
 boxes:∀x∈s.boxes,x.key<s.next∧∃vs ty,w.heap[E.β x.key]? =some (.cells vs ty (0,0))∧vs.size=x.cells.length∧
  ∀i y,x.cells[i]? =some y→Dr E w A s.next y (vs.getD i undef)
 boxes2:∀x∈s.boxes,∀y∈s.boxes,E.β x.key=E.β y.key→x.key=y.key
 keys:(s.boxes.map (·.key)).Nodup
 own:∀y∈s.own,y.key<s.next∧D3 w y.cell (E.ov y.key) (E.fp y.key)∧(E.fp y.key).Nodup
 ownkeys:(s.own.map (·.key)).Nodup
 sep:∀y∈s.own,∀z∈s.own,y.key≠z.key→∀b∈E.fp y.key,b∉E.fp z.key
 sepB:∀x∈s.boxes,∀y∈s.own,E.β x.key∉E.fp y.key
 one:∀k,k<s.next→(E.ov k).oneCell'=true
 base:B.rel w
 fresh:∀b,s.avoid E b→B.fresh b
 sub:∀b,s.avoid E b→A b
theorem AS.isA.is {s:AS}{B:Be}{E:E7}{A:Nat→Prop}{a:Act}{w:World}(h:s.isA B E A a w):s.is B E a w:=by
 have mv:∀x v,Dr E w A s.next x v→Dr E w (s.avoid E) s.next x v:=fun x v hx=>
  hx.move (Nat.le_refl _) (fun _ _=>⟨rfl,rfl⟩) (fun _ _ _=>rfl) (fun b _ hb=>h.sub b hb)
 refine ⟨h.defers,h.links,h.size,fun i x hx=>mv _ _ (h.slots i x hx),fun x hx=>?_,h.boxes2,h.keys,h.own,h.ownkeys,h.sep,h.sepB,h.one,h.base,h.fresh⟩;obtain ⟨h1,vs,ty,h2,h3,h4⟩:=h.boxes x hx;exact ⟨h1,vs,ty,h2,h3,fun i y hy=>mv _ _ (h4 i y hy)⟩
theorem AS.is.call {s:AS}{B:Be}{E:E7}{a:Act}{w w':World}(h:s.is B E a w)(hb:Ju w.heap.size w w'):s.isA B E (fun b=>s.avoid E b∨w.heap.size≤b) a w':=by
 have mv:∀x v,Dr E w (s.avoid E) s.next x v→Dr E w' (fun b=>s.avoid E b∨w.heap.size≤b) s.next x v:=fun x v hx=>
  hx.move (Nat.le_refl _) (fun _ _=>⟨rfl,rfl⟩) (fun b _ hl=>hb.block b hl) (fun b hl hA=>by
   rcases hA with h|h
   ·exact h
   omega)
 refine ⟨h.defers,h.links,h.size,fun i x hx=>mv _ _ (h.slots i x hx),fun x hx=>?_,h.boxes2,h.keys,fun y hy=>?_,h.ownkeys,h.sep,h.sepB,h.one,?_,h.fresh,fun b hb=> .inl hb⟩
 ·obtain ⟨h1,vs,ty,h2,h3,h4⟩:=h.boxes x hx
  exact ⟨h1,vs,ty,by rw [hb.block _ (Array.getElem?_eq_some_iff.1 h2).1];exact h2,h3,fun i y hy=>mv _ _ (h4 i y hy)⟩
 ·obtain ⟨h1,h2,h3⟩:=h.own y hy
  exact ⟨h1,h2.move (fun b hb'=>hb.block b (h2.lt b hb')),h3⟩
 have hB:=h.base;refine ⟨hb.os.trans hB.os,hb.tape.trans hB.tape,hb.output.trans hB.output,Nat.le_trans hB.size hb.size,fun k hk hm=>?_,Nat.le_trans hB.drawn hb.drawn⟩;rw [hb.block k (Nat.lt_of_lt_of_le hk hB.size)];exact hB.block k hk hm
def E7.withOwn (E:E7) (n:Nat) (v:Value) (fp:List Nat):E7:=
 {E with ov:=fun k=>if k=n then v else E.ov k,fp:=fun k=>if k=n then fp else E.fp k}
theorem E7.withOwn_keep (E:E7)(n:Nat)(v:Value)(fp:List Nat){k:Nat}(h:k≠n):(E.withOwn n v fp).β k=E.β k∧(E.withOwn n v fp).ov k=E.ov k:=by
 have h:(E.withOwn n v fp).ov k=E.ov k:=by simp [E7.withOwn,h]
 exact ⟨E7.β_of h,h⟩
def AS.addOwn (s:AS) (c:Ai):AS:= {s with own:=⟨s.next,c⟩::s.own,next:=s.next+1}
theorem AS.isA.addOwn {s:AS}{B:Be}{E:E7}{A:Nat→Prop}{a:Act}{w:World}(h:s.isA B E A a w){c:Ai}{v:Value}{fp:List Nat}(ho:D3 w c v fp)(hn:fp.Nodup)
  (hA:∀b∈fp,A b∧¬ s.avoid E b∧B.fresh b):
  (s.addOwn c).isA B (E.withOwn s.next v fp) A a w∧Dr (E.withOwn s.next v fp) w A (s.next+1) (.own s.next) v:=by
 have kE:∀k,k<s.next→(E.withOwn s.next v fp).β k=E.β k∧(E.withOwn s.next v fp).ov k=E.ov k:=fun k hk=>by
  have:k≠s.next:=by omega
  have h:(E.withOwn s.next v fp).ov k=E.ov k:=by simp [E7.withOwn,this]
  exact ⟨E7.β_of h,h⟩
 have kb:∀x∈s.boxes,(E.withOwn s.next v fp).β x.key=E.β x.key:=fun x hx=>(kE _ (h.boxes x hx).1).1
 have kfp:∀y∈s.own,(E.withOwn s.next v fp).fp y.key=E.fp y.key:=fun y hy=>by
  have:y.key≠s.next:=by have:=(h.own y hy).1;omega
  simp [E7.withOwn,this]
 have kfn:(E.withOwn s.next v fp).fp s.next=fp:=by simp [E7.withOwn]
 have av:∀b,(s.addOwn c).avoid (E.withOwn s.next v fp) b↔b∈fp∨s.avoid E b:=by
  intro b
  constructor
  ·rintro (⟨x,hx,rfl⟩|⟨y,hy,hb⟩)
   ·exact .inr (.inl ⟨x,hx,(kb x hx).symm⟩)
   rcases List.mem_cons.1 hy with rfl|hy
   ·rw [kfn] at hb;exact .inl hb
   rw [kfp y hy] at hb;exact .inr (.inr ⟨y,hy,hb⟩)
  rintro (hb|⟨x,hx,rfl⟩|⟨y,hy,hb⟩)
  ·exact .inr ⟨_,List.mem_cons_self,by rw [kfn];exact hb⟩
  ·exact .inl ⟨x,hx,kb x hx⟩
  exact .inr ⟨y,List.mem_cons_of_mem _ hy,by rw [kfp y hy];exact hb⟩
 have mv:∀x v',Dr E w A s.next x v'→Dr (E.withOwn s.next v fp) w A (s.next+1) x v':=fun x v' hx=>hx.move (Nat.le_succ _) kE (fun _ _ _=>rfl) (fun _ _ hb=>hb);refine ⟨⟨h.defers,fun p hp=>⟨Nat.lt_succ_of_lt (h.links p hp).1,by rw [(kE _ (h.links p hp).1).2];exact (h.links p hp).2⟩,h.size,fun i x hx=>mv _ _ (h.slots i x hx),fun x hx=>?_,fun x hx y hy e=>h.boxes2 x hx y hy (by rw [←kb x hx,←kb y hy];exact e),h.keys,fun y hy=>?_,?_,?_,?_,?_,h.base,?_,?_⟩,?_⟩
 ·obtain ⟨h1,vs,ty,h2,h3,h4⟩:=h.boxes x hx
  exact ⟨Nat.lt_succ_of_lt h1,vs,ty,by rw [kb x hx];exact h2,h3,fun i y hy=>mv _ _ (h4 i y hy)⟩
 ·rcases List.mem_cons.1 hy with rfl|hy
  ·refine ⟨Nat.lt_succ_self _,?_,?_⟩
   ·rw [kfn];simpa [E7.withOwn] using ho
   rw [kfn];exact hn
  obtain ⟨h1,h2,h3⟩:=h.own y hy;rw [kfp y hy,(kE _ h1).2];exact ⟨Nat.lt_succ_of_lt h1,h2,h3⟩
 ·simp only [AS.addOwn,List.map_cons,List.nodup_cons]
  refine ⟨fun hm=>?_,h.ownkeys⟩;obtain ⟨y,hy,e⟩:=List.mem_map.1 hm
  have:=(h.own y hy).1
  omega
 ·intro y hy z hz hne b hb hb'
  rcases List.mem_cons.1 hy with rfl|hy<;>rcases List.mem_cons.1 hz with rfl|hz
  ·exact hne rfl
  ·rw [kfn] at hb
   rw [kfp z hz] at hb';exact (hA b hb).2.1 (.inr ⟨z,hz,hb'⟩)
  ·rw [kfp y hy] at hb
   rw [kfn] at hb';exact (hA b hb').2.1 (.inr ⟨y,hy,hb⟩)
  rw [kfp y hy] at hb;rw [kfp z hz] at hb';exact h.sep y hy z hz hne b hb hb'
 ·intro x hx y hy hb
  rw [kb x hx] at hb
  rcases List.mem_cons.1 hy with rfl|hy
  ·rw [kfn] at hb
   exact (hA _ hb).2.1 (.inl ⟨x,hx,rfl⟩)
  rw [kfp y hy] at hb;exact h.sepB x hx y hy hb
 ·intro k hk
  by_cases e:k=s.next
  ·subst e;simpa [E7.withOwn] using ho.one
  have hk':k<s.next:=by have:k<s.next+1:=hk;omega
  rw [(kE _ hk').2];exact h.one k hk'
 ·intro b hb
  rcases (av b).1 hb with hb|hb
  ·exact (hA b hb).2.2
  exact h.fresh b hb
 ·intro b hb
  rcases (av b).1 hb with hb|hb
  ·exact (hA b hb).1
  exact h.sub b hb
 have:=Dr.own (E:=E.withOwn s.next v fp) (w:=w) (A:=A) (N:=s.next+1) (k:=s.next) (Nat.lt_succ_self _)
 simpa [E7.withOwn] using this
theorem AS.isA.put {s:AS}{B:Be}{E:E7}{A:Nat→Prop}{a:Act}{w:World}(h:s.isA B E A a w)(d:Option Tmp){x:AV}{v:Value}(hx:Dr E w A s.next x v):
  (s.put d x).isA B E A (a.put d v) w:=by
 cases d with
 |none=>exact h
 |some d=>
  refine ⟨h.defers,h.links,?_,?_,h.boxes,h.boxes2,h.keys,h.own,h.ownkeys,h.sep,h.sepB,h.one,h.base,h.fresh,h.sub⟩
  ·simp [Act.put,AS.put,Cn,h.size]
  intro i y hy;simp only [AS.put,Dv] at hy;simp only [Act.put]
  by_cases hi:d=i∧i<s.slots.length
  ·rw [if_pos hi] at hy
   obtain ⟨rfl,hl⟩:=hi;obtain rfl:x=y:=by simpa using hy
   have:d<a.tmps.size:=by rw [h.size];exact hl
   change Dr E w A s.next x _
   simpa [Array.getD,Array.size_setIfInBounds,this] using hx
  rw [if_neg hi] at hy;have hl:i<s.slots.length:=(List.getElem?_eq_some_iff.1 hy).1;have hne:d≠i:=fun e=>hi ⟨e,hl⟩
  have hsz:i<a.tmps.size:=by rw [h.size];exact hl
  have:=h.slots i y hy
  change Dr E w A s.next y _
  simpa [Array.getD,Array.size_setIfInBounds,hsz,Array.getElem_setIfInBounds,hne] using this
end Go.Sx
namespace Go.Sx
variable {P : Program} {T : List (TypeId × TI)}
theorem Ez.of_below {w w':World}(h:Ju w.heap.size w w'):Ez w w':=⟨h.size,h.block⟩
theorem H5 {B:Be}{Q:Exit→Act→World→Prop}{q:Bool}{all:Array Oper}{o:Oper}{rest:List Oper}{K:List KI}{s:AS}(hg:o.guard=none)(hk:Eb o.op≠0)
  (h:∀E a w,s.is B E a w→∃v w',((execOp a.eval o).run P w= .ok (.value v) w'∨((execOp a.eval o).run P w= .ok .skip w'∧v=undef))∧(Eb o.op=1→Ez w w')∧
   D5 P Q (.ops q all rest::K) .normal (a.put o.dst v) w'):G P B Q (.ops q all (o::rest)::K) s:=by
 intro E a w hs;obtain ⟨v,w',h1,h2,h3⟩:=h E a w hs
 cases q with
 |false=>
  show wpList P all (D5 P Q K) (o::rest) a w
  unfold wpList;rw [if_pos (by simp [Region.wanted,hg])];refine .inl ?_;unfold Oper.wp
  rcases h1 with h1|⟨h1,rfl⟩<;>rw [h1]<;>exact h3
 |true=>
  show Gj P all _ (o::rest) a w
  unfold Gj;rw [if_pos (by simp [Region.wanted,hg])];refine .inr ⟨hk,?_⟩;unfold J5
  rcases h1 with h1|⟨h1,rfl⟩<;>rw [h1]<;>exact ⟨fun h=>h2 Ad,h3⟩
theorem Er {B:Be}{Q:Exit→Act→World→Prop}{q:Bool}{all:Array Oper}{o:Oper}{rest:List Oper}{K:List KI}{s:AS}(hg:o.guard=none)
  (h:∀E a w,s.is B E a w→∃v,(∀w',Ez w w'→(execOp a.eval o).run P w'= .ok (.value v) w')∧D5 P Q (.ops q all rest::K) .normal (a.put o.dst v) w):G P B Q (.ops q all (o::rest)::K) s:=by
 intro E a w hs;obtain ⟨v,h1,h3⟩:=h E a w hs
 cases q with
 |false=>
  show wpList P all (D5 P Q K) (o::rest) a w
  unfold wpList;rw [if_pos (by simp [Region.wanted,hg])];refine .inl ?_;unfold Oper.wp;rw [h1 w (Ez.refl w)];exact h3
 |true=>
  show Gj P all _ (o::rest) a w
  unfold Gj;rw [if_pos (by simp [Region.wanted,hg])];exact .inl ⟨v,h1,h3⟩
theorem Lj {Q:Exit→Act→World→Prop}{q:Bool}{all:Array Oper}{o:Oper}{rest:List Oper}{K:List KI}{a:Act}{w:World}(hw:Region.wanted o (yielded all a.tmps)=false)
  (h:D5 P Q (.ops q all rest::K) .normal (a.put o.dst undef) w):D5 P Q (.ops q all (o::rest)::K) .normal a w:=by
 cases q with
 |false=>
  show wpList P all (D5 P Q K) (o::rest) a w
  unfold wpList;rw [if_neg (by simp [hw])];exact h
 |true=>
  show Gj P all _ (o::rest) a w
  unfold Gj;rw [if_neg (by simp [hw])];exact h
theorem Y2 {Q:Exit→Act→World→Prop}{q:Bool}{all:Array Oper}{o:Oper}{rest:List Oper}{K:List KI}{a:Act}{w:World}(hw:Region.wanted o (yielded all a.tmps)=true)
  (h:D5 P Q (.ops q all ({o with guard:=none}::rest)::K) .normal a w):D5 P Q (.ops q all (o::rest)::K) .normal a w:=by
 cases q with
 |false=>
  change wpList P all (D5 P Q K) ({o with guard:=none}::rest) a w at h
  show wpList P all (D5 P Q K) (o::rest) a w
  unfold wpList at h ⊢;rw [if_pos (by simp [Region.wanted])] at h;rw [if_pos hw];exact h
 |true=>
  change Gj P all _ ({o with guard:=none}::rest) a w at h
  show Gj P all _ (o::rest) a w
  unfold Gj at h ⊢;rw [if_pos (by simp [Region.wanted])] at h;rw [if_pos hw];exact h
theorem A9j (f:FuncId)(hf:K9 P f)(args:Array Operand)(ats:Array TypeId)(a:Act)(o:Oper)(ho:o.op= .call {callee:= .value (.func f),args,argTypes:=ats})(w:World):
  (execOp a.eval o).run P w= .ok (.enter f (args.map a.eval)) w:=by
 obtain ⟨fn,h1,h2,h3⟩:=hf;obtain ⟨dst,op',ty,pos,after,guard⟩:=o
 simp only at ho
 subst ho;have e:a.eval (.func f)= .func (.func f) #[] #[]:=rfl;have h2':¬ fn.name= "runtime.NumGoroutine" :=by simpa using h2
 have h3':¬ fn.body=none:=by intro e;rw [e] at h3;simp at h3
 simp [execOp,resolve,e,Deferred.ofValue,invoke,callFunc,h1,h2',h3']
theorem A4k (f:FuncId)(hf:K9 P f)(t:Tmp)(vs:List Value)(args:Array Operand)(ats:Array TypeId)(a:Act)(o:Oper)(ho:o.op= .call {callee:= .value (.tmp t),args,argTypes:=ats})
  (hv:a.eval (.tmp t)= .func (.func f) #[] vs.toArray)(w:World):
  (execOp a.eval o).run P w= .ok (.enter f (args.map a.eval++vs.toArray)) w:=by
 obtain ⟨fn,h1,h2,h3⟩:=hf;obtain ⟨dst,op',ty,pos,after,guard⟩:=o
 simp only at ho
 subst ho;have h2':¬ fn.name= "runtime.NumGoroutine" :=by simpa using h2
 have h3':¬ fn.body=none:=by intro e;rw [e] at h3;simp at h3
 simp [execOp,resolve,hv,Deferred.ofValue,invoke,callFunc,h1,h2',h3']
theorem B5z (hT:Cs P T){B:Be}{Q:Exit→Act→World→Prop}(wr:Bool):∀(n:Nat) (K:List KI) (s:AS),vc P B Q (run T wr n K s)→G P B Q K s:=by
 intro n
 induction n with
 |zero=>intro K s h;simpa [run,Ej,vc] using h
 |succ n ih=>
  intro K s h
  match K with
  | []=>simpa [run,Ej,vc] using h
  | .block id::K=>exact fun E a w hs=>ih K s (by simpa [run] using h) E a w hs
  | .loop I::K=>simpa [run,Ej,vc] using h
  | .code c::K=>
   cases c with
   |skip=>exact fun E a w hs=>wp_skip (ih K s (by simpa [run] using h) E a w hs)
   |seq x y=>exact fun E a w hs=>wp_seq (ih (.code x:: .code y::K) s (by simpa [run] using h) E a w hs)
   |block id c=>exact fun E a w hs=>wp_block (ih (.code c:: .block id::K) s (by simpa [run] using h) E a w hs)
   |cond o t e=>
    simp only [run] at h
    split at h
    ·rename_i b hb
     intro E a w hs;have hv:=hs.ev o;rw [hb] at hv;have e1:=Bo hv;obtain ⟨h1,h2⟩:(b=true→_)∧(b=false→_):=h;exact wp_cond_split e1 (fun hb=>ih (.code t::K) s (h1 hb) E a w hs) (fun hb=>ih (.code e::K) s (h2 hb) E a w hs)
    simpa [Ej,vc] using h
   |exit id=>
    simp only [run] at h
    split at h
    ·rename_i K' hK
     exact fun E a w hs=>wp_exit (B5t P Q hK (ih K' s h E a w hs))
    simpa [Ej,vc] using h
   |ret=>
    simp only [run,Ej,vc] at h;exact fun E a w hs=>wp_ret (by rw [B9o];exact h E a w hs)
   |region id ops draw=>
    cases draw with
    |false=>exact fun E a w hs=>wp_region_list (ih (.ops false ops ops.toList::K) s (by simpa [run] using h) E a w hs)
    |true=>simpa [run,Ej,vc] using h
   |loop c=>simpa [run,Ej,vc] using h
   |rangeFunc f ps x y=>simpa [run,Ej,vc] using h
   |scope c=>simpa [run,Ej,vc] using h
   |label l=>simpa [run,Ej,vc] using h
   |goto l=>simpa [run,Ej,vc] using h
   |refuse why=>simpa [run,Ej,vc] using h
  | .ops q all []::K=>exact fun E a w hs=>by have:=ih K s (by simpa [run] using h) E a w hs;cases q<;>exact this
  | .ops q all (o::rest)::K=>
   simp only [run,C02,B84,B80,C2g] at h
   split at h
   ·rename_i hg
    split at h
    ·rename_i c x y hop
     split at h
     ·rename_i b hb
      obtain ⟨h1,h2⟩:(b=true→_)∧(b=false→_):=h;refine Er hg (fun E a w hs=>?_);have hv:=hs.ev c;rw [hb] at hv;have e1:=Bo hv;obtain ⟨dst,op',ty,pos,after,guard⟩:=o
      simp only at hop
      subst hop
      cases b with
      |true=>exact ⟨a.eval x,fun w' _=>by simp [execOp,e1,asBool],ih _ _ (h1 rfl) E _ w (hs.put dst (hs.ev x))⟩
      |false=>exact ⟨a.eval y,fun w' _=>by simp [execOp,e1,asBool],ih _ _ (h2 rfl) E _ w (hs.put dst (hs.ev y))⟩
     simpa [Ej,vc] using h
    ·rename_i f args ats hop
     simp only [S8,Ej,vc] at h;obtain ⟨hc,h⟩:=h;intro E a w hs
     have:=h E a w hs (args.toList.map a.eval) C8 (fun i x hx=>by
      simp only [List.getElem?_map,Option.map_eq_some_iff] at hx;obtain ⟨y,hy,rfl⟩:=hx
      simpa [List.getD,hy] using hs.ev y)
     have e:(args.toList.map a.eval).toArray=args.map a.eval:=by obtain ⟨l⟩:=args;simp
     rw [e] at this
     cases q with
     |false=>
      show wpList P all (D5 P Q K) (o::rest) a w
      unfold wpList;rw [if_pos (by simp [Region.wanted,hg])];refine .inl ?_;unfold Oper.wp;rw [A9j f hc args ats a o hop w];exact this.mono fun e w' ⟨v,he,_,hp⟩=>by subst he;exact hp
     |true=>
      show Gj P all _ (o::rest) a w
      unfold Gj;rw [if_pos (by simp [Region.wanted,hg])];refine .inr ⟨by rw [hop];simp [Eb],?_⟩;unfold J5;rw [A9j f hc args ats a o hop w];exact this.mono fun e w' ⟨v,he,hk,hp⟩=>⟨v,he,fun _=>hk rfl,hp⟩
    ·rename_i t args ats hop
     split at h
     ·rename_i f caps hn
      simp only [S8,Ej,vc] at h;obtain ⟨hc,h⟩:=h;intro E a w hs;have hv:=hs.ev (.tmp t);rw [show s.ev (.tmp t)= .fn f caps from hn] at hv
      generalize hu:a.eval (.tmp t)=u at hv
      cases hv with
      |fn vs hl hv'=>
       have:=h E a w hs (args.toList.map a.eval++vs) (by simp [hl]) (fun i x hx=>by
        by_cases hi:i<args.toList.length
        ·rw [List.getElem?_append_left (by simpa using hi)] at hx
         simp only [List.getElem?_map,Option.map_eq_some_iff] at hx;obtain ⟨y,hy,rfl⟩:=hx;rw [List.getD,List.getElem?_append_left (by simpa using hi)]
         simpa [hy] using hs.ev y
        rw [List.getElem?_append_right (by simpa using hi)] at hx
        have:=hv' _ x hx
        rw [List.getD,List.getElem?_append_right (by simpa using hi)]
        simpa [List.getD] using this)
       have e:(args.toList.map a.eval++vs).toArray=args.map a.eval++vs.toArray:=by obtain ⟨l⟩:=args;simp
       rw [e] at this
       cases q with
       |false=>
        show wpList P all (D5 P Q K) (o::rest) a w
        unfold wpList;rw [if_pos (by simp [Region.wanted,hg])];refine .inl ?_;unfold Oper.wp;rw [A4k f hc t vs args ats a o hop hu w];exact this.mono fun e w' ⟨v,he,_,hp⟩=>by subst he;exact hp
       |true=>
        show Gj P all _ (o::rest) a w
        unfold Gj;rw [if_pos (by simp [Region.wanted,hg])];refine .inr ⟨by rw [hop];simp [Eb],?_⟩;unfold J5;rw [A4k f hc t vs args ats a o hop hu w];exact this.mono fun e w' ⟨v,he,hk,hp⟩=>⟨v,he,fun _=>hk rfl,hp⟩
     simpa [Ej,vc] using h
    rename_i op hn1 hn2 hn3
    split at h
    ·simpa [Ej,vc] using h
    ·rename_i ps x hst
     obtain ⟨hps,h⟩:=B0d h;refine Er hg (fun E a w hs=>?_);obtain ⟨v,hr,hd⟩:=A6z hT hst hps hs o rfl;exact ⟨v,hr,ih _ _ h E _ w (hs.put o.dst hd)⟩
    ·rename_i cells hst
     have hkind:Eb o.op=1:=A3d hst;refine H5 hg Ad (fun E a w hs=>?_);obtain ⟨vs,ty,hr,h1,h2⟩:=C0e hT hst hs o rfl;obtain ⟨k1,k2⟩:=hs.newBox cells vs ty h1 h2.1;exact ⟨_,_,.inl hr,fun _=> .of_below (Jw w _),ih _ _ h _ _ _ (k1.put o.dst k2)⟩
    ·rename_i ps c hst
     obtain ⟨hps,h⟩:=B0d h;have hkind:Eb o.op=1:=A3e hst;refine H5 hg Ad (fun E a w hs=>?_);obtain ⟨v,w',fp,hr,h1,h2,h3,h4,_⟩:=C0f hT hst hps hs o rfl
     obtain ⟨k1,k2⟩:=(hs.call h4).addOwn h1 h2 (fun b hb=>⟨.inr (h3 b hb),fun hav=>by
      have:=hs.avoid_lt hav
      have:=h3 b hb
      omega,.inl (Nat.le_trans hs.base.size (h3 b hb))⟩)
     exact ⟨_,_,.inl hr,fun _=> .of_below h4,ih _ _ h _ _ _ (k1.put o.dst k2).is⟩
    rename_i bx hst
    have hkind:Eb o.op=2:=A3c hst;refine H5 hg Ad (fun E a w hs=>?_);obtain ⟨w',hr,k1,_⟩:=C0d hT hst hs o rfl;exact ⟨_,_,.inr ⟨hr,rfl⟩,fun h=>by omega,ih _ _ h _ _ _ (k1.put o.dst (.any _))⟩
   ·rename_i j hg
    split at h
    ·rename_i d hd
     split at h
     ·rename_i b hb
      obtain ⟨h1,h2⟩:(b=true→_)∧(b=false→_):=h;intro E a w hs;have hy:=hs.yielded hd hb
      cases b with
      |true=>exact Y2 (by simp [Region.wanted,hg,hy]) (ih _ _ (h1 rfl) E a w (hs.setBool hb))
      |false=>exact Lj (by simp [Region.wanted,hg,hy]) (ih _ _ (h2 rfl) E _ w ((hs.setBool hb).put o.dst (Uq all o.dst)))
     ·rename_i hb
      intro E a w hs;have hy:=hs.yielded0 hd hb;exact Lj (by simp [Region.wanted,hg,hy]) (ih _ _ h E _ w (hs.put o.dst (Uq all o.dst)))
     simpa [Ej,vc] using h
    simpa [Ej,vc] using h
   rename_i j hg
   split at h
   ·rename_i d hd
    split at h
    ·rename_i b hb
     obtain ⟨h1,h2⟩:(b=true→_)∧(b=false→_):=h;intro E a w hs;have hy:=hs.yielded hd hb
     cases b with
     |true=>exact Lj (by simp [Region.wanted,hg,hy]) (ih _ _ (h1 rfl) E _ w ((hs.setBool hb).put o.dst (Uq all o.dst)))
     |false=>exact Y2 (by simp [Region.wanted,hg,hy]) (ih _ _ (h2 rfl) E a w (hs.setBool hb))
    ·rename_i hb
     intro E a w hs;have hy:=hs.yielded0 hd hb;exact Lj (by simp [Region.wanted,hg,hy]) (ih _ _ h E _ w (hs.put o.dst (Uq all o.dst)))
    simpa [Ej,vc] using h
   simpa [Ej,vc] using h
theorem B4z (hm:P.follows .mixedOrders=true){B:Be}{Q:Exit→Act→World→Prop}{id:Nat}{ops:Array Oper}{K:List KI}{s:AS}(ord:List Nat)(hB:B82 ops ord=true)
  (h:G P B Q (.ops true ops (A59 ops ord)::K) s):G P B Q (.code (.region id ops true)::K) s:=
 fun E a w hs=>A3i hm hB (h E a _ (hs.call (w':= {w with drawn:=w.drawn+1}) ⟨rfl,rfl,rfl,Nat.le_refl _,fun _ _=>rfl,Nat.le_succ _⟩).is)
theorem sound (hT:Cs P T){B:Be}{Q:Exit→Act→World→Prop}(wr:Bool)(n:Nat)(K:List KI)(s:AS)(h:vc P B Q (Oz T wr n K s)):G P B Q K s:=
 B5z hT wr n K s (by simpa [Oz,Ej] using h)
end Go.Sx
