/- Part 1 of the proof that each of the laws FnTotals returns true for every input. No conditions. -/
import Derived.WalkKit

set_option linter.unusedSimpArgs false
set_option linter.unusedVariables false
namespace Go.Sx
theorem At {p:Prop}(h:p:=by repeat' (first|exact trivial|exact Ui _ _|exact rfl|exact .inr ⟨rfl,rfl,_,_,rfl⟩|refine ⟨?_,?_⟩)):p:=h
theorem Dx {p:Prop}(h:p:=by repeat' (first|exact trivial|exact ⟨_,rfl,rfl,by assumption⟩|exact ⟨_,rfl,rfl,rfl⟩|exact ⟨_,rfl,rfl,huo _ (by simp)⟩|exact ⟨_,rfl,rfl,fun v hv=>huo v (by simp only [List.mem_cons,List.not_mem_nil,or_false] at hv ⊢;rcases hv with h|h|h<;>simp [h])⟩|refine ⟨?_,?_⟩)):p:=h
theorem B1 {p:Prop}(h:p:=by repeat' (first|exact trivial|refine ⟨?_,?_⟩|(show _∧_;omega)|omega)):p:=h
theorem A7 {p:Prop}(h:p:=by kernel_rfl):p:=h
theorem Cj {p:Prop}(h:p:=by first|exact trivial|exact ⟨rfl,trivial⟩|repeat' (first|exact trivial|exact rfl|refine ⟨?_,?_⟩)):p:=h
theorem Cf {p:Prop}(h:p:=by repeat' (first|exact trivial|exact rfl|refine ⟨?_,?_⟩)):p:=h
theorem F2 {p:Prop}(h:p:=by first|rfl|exact (congrArg (fun l=>Kt _ _ l) (List.append_nil _)).symm|(show (_:Ae)=_;simp)|simp):p:=h
theorem Ab {p:Prop}(h:p:=by omega):p:=h
theorem F3 {p:Prop}(h:p:=by first|rfl|simp [Gm,ren2,ren1,ren0]):p:=h
theorem Aw {p:Prop}(h:p:=by decide):p:=h
theorem Bj {p:Prop}(h:p:=by intro h;cases h):p:=h
theorem Hi {p:Prop}(h:p:=by repeat' (first|exact trivial|exact ⟨_,rfl,rfl⟩|refine ⟨?_,?_⟩)):p:=h
theorem W0 {p:Prop}(h:p:=by repeat' (first|exact trivial|exact Ui _ _|exact rfl|refine ⟨?_,?_⟩)):p:=h
theorem Zs {p:Prop}(h:p:=by repeat' (first|exact trivial|exact .inl rfl|exact .inr ⟨rfl,_,_,rfl⟩|refine ⟨?_,?_⟩)):p:=h
theorem Cg {p:Prop}(h:p:=by simp):p:=h
theorem A75 {p:Prop}(h:p:=by simp only [Ac.w,List.length_append,List.length_cons,List.length_nil];omega):p:=h
inductive Ae where
 |val (x:Value)
 |sl (n es:Nat) (row:Nat→List Ae)
inductive AV where
 |any
 |c (x:Ae)
 |own (k:Nat)
 |box (k off:Nat)
 |agg (xs:List AV)
 |el (n es:Nat) (row:Nat→List Ae) (i:Int) (off:Nat)
 |oel (k es:Nat) (i:Int) (off:Nat)
 |tup (xs:List AV)
 |fn (f:FuncId) (caps:List AV)
abbrev AV.v (x:Value):AV:= .c (.val x)
structure Bx where
 key:Nat
 cells:List AV
structure Ow where
 key:Nat
 cell:Ae
structure AS where
 next:Nat
 slots:List AV
 boxes:List Bx
 own:List Ow
 links:List (Nat×Value):=[]
def En (l:List (Nat×Value)) (k:Nat):Option Value:=
 match l with
 | []=>none
 |(a,v)::r=>match Nat.beq a k with
  |true=>some v
  |false=>En r k
inductive CK where
 |int (k:IntKind)
 |bool
structure TI where
 agg:Bool
 size:Nat
 bytes:Nat
 zero:List Value
 fields:List (Nat×TypeId)
 elem:Option TypeId
 str:Bool
 flat:Option (List CK)
inductive KI where
 |code (c:Code)
 |block (id:Nat)
 |loop (I:Act→World→Prop)
 |ops (q:Bool) (all:Array Oper) (todo:List Oper)
inductive Out where
 |at_ (K:List KI) (s:AS)
 |call (q:Bool) (f:FuncId) (xs:List AV) (dst:Option Tmp) (K:List KI) (s:AS)
 |ret (s:AS)
 |ite (b:Bool) (t e:Out)
 |need (p:Prop) (o:Out)
def Wy (fb:TypeId→Option (List CK)):List Field→Nat→Option (List CK)
 | [],_=>some []
 |f::r,off=>
  match f.name== "_",Nat.beq f.offset off with
  |false,true=>
   match fb f.type with
   |some ks=>match Wy fb r (off+ks.length) with
    |some js=>some (ks++js)
    |none=>none
   |none=>none
  |_,_=>none
def Kk (P:Program):Nat→TypeId→Option (List CK)
 | 0,_=>none
 |d+1,t=>
  match (match P.underlying t with
   |some (.int k)=>some [CK.int k]
   |some .bool=>some [CK.bool]
   |some (.struct fs)=>match P.stoodInHeld t with
    |true=>none
    |false=>Wy (Kk P d) fs.toList 0
   |_=>none) with
  |some ks=>match Nat.beq ks.length (P.cellsOf t),(P.info? t).isSome,Nat.ble 1 ks.length with
   |true,true,true=>some ks
   |_,_,_=>none
  |none=>none
def Ft (l:List Value):Bool:=
 match l with
 | []=>true
 | .agg _::_=>false
 | .tuple _::_=>false
 |_::r=>Ft r
def Gt:TypeDesc→Bool
 | .struct _=>true
 | .array _ _=>true
 |_=>false
def TI.of (P:Program) (t:TypeId):Option TI:=
 match P.info? t,P.underlying t with
 |some f,some d=>
  match f.zero,Gt d||Nat.beq f.size 1,Nat.beq ((f.zero.map (·.cells.size)).getD 0) f.size&&Ft ((f.zero.map (·.cells.toList)).getD []) with
  |none,_,_=>none
  |some _,false,_=>none
  |some _,_,false=>none
  |some z,true,true=>some
   {agg:=Gt d
    size:=f.size,bytes:=f.bytes,zero:=z.cells.toList
    fields:=match d with| .struct fs=>fs.toList.map fun F=>(F.offset,F.type)|_=>[]
    elem:=match d with| .slice e=>some e|_=>none
    str:=match d with| .string=>true|_=>false
    flat:=match P.eqGuardType P.depth t with|true=>none|false=>Kk P 10 t}
 |_,_=>none
def E9 (T:List (TypeId×TI)) (t:TypeId):Option TI:=
 match T with
 | []=>none
 |(u,i)::r=>match Nat.beq u t with|true=>some i|false=>E9 r t
def Gj (l:List Bx) (k:Nat):Option Bx:=
 match l with
 | []=>none
 |b::r=>match Nat.beq b.key k with|true=>some b|false=>Gj r k
def E8 (l:List Bx) (k:Nat) (cells:List AV):List Bx:=
 match l with
 | []=>[]
 |b::r=>match Nat.beq b.key k with|true=> {b with cells}::r|false=>b::E8 r k cells
def Bw (l:List Ow) (k:Nat):Option Ae:=
 match l with
 | []=>none
 |o::r=>match Nat.beq o.key k with|true=>some o.cell|false=>Bw r k
def Gm (l:List AV) (i:Nat):AV:=
 match l,i with
 | [],_=> .any
 |x::_,0=>x
 |_::r,i+1=>Gm r i
def Cm (l:List AV) (i:Nat) (x:AV):List AV:=
 match l,i with
 | [],_=>[]
 |_::r,0=>x::r
 |y::r,i+1=>y::Cm r i x
def seg (l:List AV) (off n:Nat):List AV:=(l.drop off).take n
def L5 (l:List AV) (off:Nat) (xs:List AV):List AV:=
 match xs with
 | []=>l
 |x::r=>L5 (Cm l off x) (off+1) r
def B12 (v:Value):AV:=
 match v with
 | .agg _=> .any
 | .tuple _=> .any
 |v=> .v v
def AS.ev (s:AS):Operand→AV
 | .tmp t=>Gm s.slots t
 | .const v=>B12 v
 | .global _=> .any
 | .func f=> .fn f []
def AS.put (s:AS) (dst:Option Tmp) (x:AV):AS:=
 match dst with
 |some d=> {s with slots:=Cm s.slots d x}
 |none=>s
inductive Ec where
 |stop
 |ok (ps:List Prop) (x:AV)
 |new (cells:List AV)
 |mem (bx:List Bx)
 |own (ps:List Prop) (c:Ae)
def AV.cellLike:AV→Bool
 | .any=>false
 | .agg _=>false
 | .tup _=>false
 |_=>true
def Hg (l:List AV):Bool:=
 match l with
 | []=>true
 |x::r=>match x.cellLike with|true=>Hg r|false=>false
def Et (k:IntKind) (n:Int):Prop:=
 match k with
 | .i8=> -128≤n∧n≤127
 | .i16=> -32768≤n∧n≤32767
 | .i32=> -2147483648≤n∧n≤2147483647
 | .i64=> -9223372036854775808≤n∧n≤9223372036854775807
 | .u8=>0≤n∧n≤255
 | .u16=>0≤n∧n≤65535
 | .u32=>0≤n∧n≤4294967295
 | .u64=>0≤n∧n≤18446744073709551615
def AV.ofCell (x:Ae):AV:= .c x
def G3 (i:TI):List AV:=i.zero.map AV.v
def Ij (i:TI) (cells:List AV) (off:Nat):AV:=
 match i.agg with
 |true=> .agg (seg cells off i.size)
 |false=>Gm cells off
def AV.cellsOf (x:AV):List AV:=
 match x with
 | .agg xs=>xs
 |x=>[x]
def Ii (a b:IntKind):Bool:=decide (a=b)
def Zy (a:Bool) (r:Option Bool):Option Bool:=
 match r with
 |some b=>some (a&&b)
 |none=>none
def W2 (ks:List CK) (xs ys:List AV):Option Bool:=
 match ks,xs,ys with
 | [],[],[]=>some true
 | .int k::ks,.c (.val (.int i a))::xs,.c (.val (.int j b))::ys=>
  match Ii i k,Ii j k with
  |true,true=>Zy (a==b) (W2 ks xs ys)
  |_,_=>none
 | .bool::ks,.c (.val (.bool a))::xs,.c (.val (.bool b))::ys=>Zy (a==b) (W2 ks xs ys)
 |_,_,_=>none
def A8g (T:List (TypeId×TI)) (t:TypeId):Bool:=
 match E9 T t with
 |some i=>match i.agg,i.flat with
  |false,some [.bool]=>true
  |_,_=>false
 |none=>false
def B40 (T:List (TypeId×TI)) (t:TypeId):Bool:=
 match E9 T t with
 |some i=>i.str
 |none=>false
def B3x (T:List (TypeId×TI)) (t:TypeId):Option (List CK):=
 match E9 T t with
 |some i=>match i.agg with
  |true=>i.flat
  |false=>none
 |none=>none
def Tg (wr:Bool) (T:List (TypeId×TI)) (op:BinOp) (t:TypeId) (x y:AV):Ec:=
 match x,y with
 | .c (.val (.int k a)),.c (.val (.int j b))=>
  match Ii k j with
  |false=> .stop
  |true=>
  match op with
  | .add=>match wr with|true=> .ok [] (.v (.int k (k.wrap (a+b))))|false=> .ok [Et k (a+b)] (.v (.int k (a+b)))
  | .sub=>match wr with|true=> .ok [] (.v (.int k (k.wrap (a-b))))|false=> .ok [Et k (a-b)] (.v (.int k (a-b)))
  | .mul=>match wr with|true=> .ok [] (.v (.int k (k.wrap (a * b))))|false=> .ok [Et k (a * b)] (.v (.int k (a * b)))
  | .quo=> .ok [b≠0,Et k (a.tdiv b)] (.v (.int k (a.tdiv b)))
  | .rem=> .ok [b≠0] (.v (.int k (a.tmod b)))
  | .eql=> .ok [] (.v (.bool (a==b)))
  | .neq=> .ok [] (.v (.bool (a !=b)))
  | .lss=> .ok [] (.v (.bool (decide (a<b))))
  | .leq=> .ok [] (.v (.bool (decide (a≤b))))
  | .gtr=> .ok [] (.v (.bool (decide (a>b))))
  | .geq=> .ok [] (.v (.bool (decide (a≥b))))
  |_=> .stop
 | .c (.val (.string a)),.c (.val (.string b))=>
  match op with
  | .add=> .ok [a.size+b.size≤9223372036854775807] (.v (.string (a++b)))
  | .eql=> .ok [] (.v (.bool (a==b)))
  | .neq=> .ok [] (.v (.bool !(a==b)))
  |_=> .stop
 | .c (.val (.bool a)),.c (.val (.bool b))=>
  match op,A8g T t with
  | .eql,true=> .ok [] (.v (.bool (a==b)))
  | .neq,true=> .ok [] (.v (.bool !(a==b)))
  |_,_=> .stop
 | .agg xs,.agg ys=>
  match B3x T t with
  |some ks=>match op,W2 ks xs ys with
   | .eql,some r=> .ok [] (.v (.bool r))
   | .neq,some r=> .ok [] (.v (.bool !r))
   |_,_=> .stop
  |none=> .stop
 |_,_=> .stop
def Pz (T:List (TypeId×TI)) (t:TypeId) (f:Nat):Option (Nat×TypeId):=
 match E9 T t with
 |some i=>i.fields[f]?
 |none=>none
def Ls (T:List (TypeId×TI)) (fields:List (Nat×TypeId)) (s:AS):List (Nat×Operand)→List AV→Option (List AV)
 | [],acc=>some acc
 |(f,x)::r,acc=>
  match fields[f]? with
  |none=>none
  |some (off,u)=>
   match E9 T u with
   |none=>none
   |some j=>
    match Nat.beq (s.ev x).cellsOf.length j.size&&Nat.ble (off+j.size) acc.length&&Hg (s.ev x).cellsOf with
    |true=>Ls T fields s r (L5 acc off (s.ev x).cellsOf)
    |false=>none
def A39 (T:List (TypeId×TI)) (l:List (Nat×TypeId)):Bool:=
 match l with
 | []=>true
 |(_,u)::r=>match E9 T u with
  |some _=>A39 T r
  |none=>false
def Zd (l:List AV):Option (List Ae):=
 match l with
 | []=>some []
 | .c (.val v)::r=>match Zd r with
  |some cs=>some (.val v::cs)
  |none=>none
 |_=>none
def J9 (l:List Ae):Option (List AV):=
 match l with
 | []=>some []
 | .val v::r=>match J9 r with
  |some cs=>some (.c (.val v)::cs)
  |none=>none
 |_=>none
def Gb (n i size:Nat) (e:TypeId):List (Nat×TypeId):=
 match n with
 | 0=>[]
 |n+1=>(i * size,e)::Gb n (i+1) size e
def repL {α:Type} (n:Nat) (l:List α):List α:=
 match n with
 | 0=>[]
 |n+1=>l++repL n l
def step (T:List (TypeId×TI)) (wr:Bool) (s:AS) (op:Op):Ec:=
 match op with
 | .move x=> .ok [] (s.ev x)
 | .assign x=> .ok [] (s.ev x)
 | .binOp b t x y _=>Tg wr T b t (s.ev x) (s.ev y)
 | .unOp u _ x=>
  match u,s.ev x with
  | .not,.c (.val (.bool b))=> .ok [] (.v (.bool !b))
  | .neg,.c (.val (.int k n))=>match wr with|true=> .ok [] (.v (.int k (k.wrap (0-n))))|false=> .ok [Et k (0-n)] (.v (.int k (0-n)))
  |_,_=> .stop
 | .alloc t=>
  match E9 T t with
  |some i=> .new (G3 i)
  |none=> .stop
 | .box _t x=>
  match Hg (s.ev x).cellsOf with
  |true=> .new (s.ev x).cellsOf
  |false=> .stop
 | .build t ps=>
  match E9 T t with
  |some i=>match i.fields,A39 T i.fields,Ls T i.fields s ps.toList (G3 i) with
   |_::_,true,some cs=> .ok [] (.agg cs)
   |_,_,_=> .stop
  |none=> .stop
 | .load t x=>
  match E9 T t,s.ev x with
  |some i,.box k off=>match Gj s.boxes k with
   |some b=>match Nat.ble (off+i.size) b.cells.length with
    |true=> .ok [] (Ij i b.cells off)
    |false=> .stop
   |none=> .stop
  |some i,.oel k es j off=>match Bw s.own k with
   |some (.sl _ es' row)=>match i.flat.isSome||i.str with
    |false=> .stop
    |true=>match Nat.beq es es'&&Nat.ble (off+i.size) es,J9 (row j.toNat) with
     |true,some cs=> .ok [] (Ij i cs off)
     |_,_=> .stop
   |_=> .stop
  |some i,.el _n es row j off=>match Nat.ble (off+i.size) es with
   |true=> .ok [] (Ij i ((row j.toNat).map AV.ofCell) off)
   |false=> .stop
  |_,_=> .stop
 | .store t x y=>
  match E9 T t,s.ev x with
  |some i,.box k off=>match Gj s.boxes k with
   |some b=>match Nat.ble (off+i.size) b.cells.length,Nat.beq (s.ev y).cellsOf.length i.size,Hg (s.ev y).cellsOf with
    |true,true,true=> .mem (E8 s.boxes k (L5 b.cells off (s.ev y).cellsOf))
    |_,_,_=> .stop
   |none=> .stop
  |_,_=> .stop
 | .fieldAddr t x f=>
  match Pz T t f with
  |some (o,u)=>
   match (E9 T u).map (fun j=>Nat.ble 1 j.size),s.ev x with
   |some true,.box k off=> .ok [] (.box k (off+o))
   |some true,.el n es row j off=> .ok [] (.el n es row j (off+o))
   |some true,.oel k es j off=> .ok [] (.oel k es j (off+o))
   |_,_=> .stop
  |none=> .stop
 | .field t x f=>
  match Pz T t f,s.ev x with
  |some (o,u),.agg cs=>match E9 T u with
   |some j=>match Nat.ble (o+j.size) cs.length&&Nat.ble 1 j.size with
    |true=> .ok [] (Ij j cs o)
    |false=> .stop
   |none=> .stop
  |_,_=> .stop
 | .indexAddr t x y=>
  match (E9 T t).bind (·.elem),s.ev x,s.ev y with
  |some e,.c (.sl n es row),.c (.val (.int _ j))=>
   match (E9 T e).map (fun i=>Nat.beq i.size es) with
   |some true=> .ok [0≤j∧j<(n:Int)] (.el n es row j 0)
   |_=> .stop
  |some e,.own k,.c (.val (.int _ j))=>
   match Bw s.own k with
   |some (.sl n es _)=>match (E9 T e).map (fun i=>Nat.beq i.size es) with
    |some true=> .ok [0≤j∧j<(n:Int)] (.oel k es j 0)
    |_=> .stop
   |_=> .stop
  |_,_,_=> .stop
 | .index t x y=>
  match B40 T t,s.ev x,s.ev y with
  |true,.c (.val (.string b)),.c (.val (.int _ j))=> .ok [0≤j∧j<(b.size:Int)] (.v (.int .u8 (b.data.getD j.toNat 0).toNat))
  |_,_,_=> .stop
 | .extract x i=>
  match s.ev x with
  | .tup xs=>match Nat.blt i xs.length with
   |true=> .ok [] (Gm xs i)
   |false=> .stop
  |_=> .stop
 | .nilCheck x=>
  match s.ev x with
  | .box k off=> .ok [] (.box k off)
  | .el n es row j off=> .ok [] (.el n es row j off)
  | .oel k es j off=> .ok [] (.oel k es j off)
  |_=> .stop
 | .call {callee:= .builtin .len,args,argTypes}=>
  match args.toList,argTypes.toList with
  | [x],[t]=>match E9 T t with
   |some i=>match i.str,i.elem,s.ev x with
    |true,_,.c (.val (.string b))=> .ok [] (.v (.int .i64 (b.size:Int)))
    |false,some _,.c (.val (.slice _ n _))=> .ok [] (.v (.int .i64 (n:Int)))
    |false,some _,.c (.sl n _ _)=> .ok [] (.v (.int .i64 (n:Int)))
    |false,some _,.own k=>match Bw s.own k with
     |some (.sl n _ _)=> .ok [] (.v (.int .i64 (n:Int)))
     |_=> .stop
    |_,_,_=> .stop
   |none=> .stop
  |_,_=> .stop
 | .call {callee:= .builtin .max,args,..}=>
  match args.toList with
  | [x,y]=>match s.ev x,s.ev y with
   | .c (.val (.int k a)),.c (.val (.int j b))=>match Ii k j with|true=> .ok [] (.v (.int k (if b>a then b else a)))|false=> .stop
   |_,_=> .stop
  |_=> .stop
 | .call {callee:= .builtin .min,args,..}=>
  match args.toList with
  | [x,y]=>match s.ev x,s.ev y with
   | .c (.val (.int k a)),.c (.val (.int j b))=>match Ii k j with|true=> .ok [] (.v (.int k (if b<a then b else a)))|false=> .stop
   |_,_=> .stop
  |_=> .stop
 | .convert t u x=>
  match E9 T t,E9 T u with
  |some _,some j=>
   match s.ev x with
   | .c (.val (.string b))=>match j.str with|true=> .ok [] (.v (.string b))|false=> .stop
   | .c (.val (.int _ n))=>match j.agg,j.flat with
    |false,some [.int k]=>match wr with|true=> .ok [] (.v (.int k (k.wrap n)))|false=> .ok [Et k n] (.v (.int k n))
    |_,_=> .stop
   |_=> .stop
  |_,_=> .stop
 | .makeSlice t x y=>
  match (E9 T t).bind (·.elem),s.ev x,s.ev y with
  |some e,.c (.val (.int _ a)),.c (.val (.int _ b))=>
   match E9 T e with
   |some j=>match Nat.ble j.bytes 256 with
    |true=> .own [0≤a∧a≤b∧b≤1099511627776] (.sl a.toNat j.size fun _=>j.zero.map Ae.val)
    |false=> .stop
   |none=> .stop
  |_,_,_=> .stop
 | .buildSlice t len ps=>
  match (E9 T t).bind (·.elem) with
  |some e=>match E9 T e with
   |some j=>match Nat.ble (len * j.size) 10000&&Nat.blt 0 j.size,Ls T (Gb len 0 j.size e) s ps.toList (repL len (G3 j)) with
    |true,some cs=>match Zd cs with
     |some vals=> .own [] (.sl len j.size fun i=>(vals.drop (i * j.size)).take j.size)
     |none=> .stop
    |_,_=> .stop
   |none=> .stop
  |none=> .stop
 | .makeFunc (.func f) first caps=>
  match first.toList with
  | []=> .ok [] (.fn f (caps.toList.map s.ev))
  |_=> .stop
 |_=> .stop
def Ob (id:Nat):List KI→Option (List KI)
 | []=>none
 | .block j::K=>match Nat.beq j id with|true=>some K|false=>Ob id K
 |_::K=>Ob id K
def Uc (ps:List Prop) (o:Out):Out:=
 match ps with
 | []=>o
 |p::r=> .need p (Uc r o)
def Gy (all:Array Oper) (j:Nat):Option Tmp:=(all[j]?).bind (·.dst)
def Sw (all:List Oper) (arr:Array Oper) (d:Tmp):Bool:=
 match all with
 | []=>false
 |p::r=>match p.guard with
  |some (j,_)=>match Gy arr j with
   |some e=>match Nat.beq e d with
    |true=>true
    |false=>Sw r arr d
   |none=>Sw r arr d
  |none=>Sw r arr d
def L1 (all:Array Oper) (d:Option Tmp):AV:=
 match d with
 |none=> .any
 |some d=>match Sw all.toList all d with
  |true=> .tup []
  |false=> .any
def Hj {α:Type} (n:Nat) (k:Nat→α):α:=
 match n with
 | 0=>k 0
 |m+1=>Hj m fun r=>k (r+1)
def Tv {α:Type} (x:AV) (k:AV→α):α:=
 match x with
 | .any=>k .any
 | .c c=>k (.c c)
 | .own j=>Hj j fun j=>k (.own j)
 | .box j off=>Hj j fun j=>Hj off fun off=>k (.box j off)
 | .agg xs=>k (.agg xs)
 | .el n es row i off=>k (.el n es row i off)
 | .oel j es i off=>k (.oel j es i off)
 | .tup xs=>k (.tup xs)
 | .fn f caps=>k (.fn f caps)
def Km {α:Type} (l:List AV) (k:List AV→α):α:=
 match l with
 | []=>k []
 |x::r=>Tv x fun x'=>Km r fun r'=>k (x'::r')
def Ye {α:Type} (x:AV) (k:AV→α):α:=
 match x with
 | .agg xs=>Km xs fun xs'=>k (.agg xs')
 | .tup xs=>Km xs fun xs'=>k (.tup xs')
 | .fn f caps=>Km caps fun xs'=>k (.fn f xs')
 |x=>Tv x k
def Lw {α:Type} (l:List AV) (k:List AV→α):α:=
 match l with
 | []=>k []
 |x::r=>Ye x fun x'=>Lw r fun r'=>k (x'::r')
def Tw {α:Type} (l:List Bx) (k:List Bx→α):α:=
 match l with
 | []=>k []
 |x::r=>match x with|⟨key,cells⟩=>Hj key fun key=>Km cells fun cs=>Tw r fun r'=>k (⟨key,cs⟩::r')
def Ty {α:Type} (l:List Ow) (k:List Ow→α):α:=
 match l with
 | []=>k []
 |x::r=>match x with|⟨key,cell⟩=>Hj key fun key=>Ty r fun r'=>k (⟨key,cell⟩::r')
def Tx {α:Type} (l:List (Nat×Value)) (k:List (Nat×Value)→α):α:=
 match l with
 | []=>k []
 |(a,v)::r=>Hj a fun a=>Tx r fun r=>k ((a,v)::r)
def I2 {α:Type} (s:AS) (k:AS→α):α:=
 match s with
 |⟨next,slots,boxes,own,links⟩=>Hj next fun next=>Lw slots fun slots=>Tw boxes fun boxes=>Ty own fun own=>Tx links fun links=>k ⟨next,slots,boxes,own,links⟩
def B0y {α:Type} (l:List AV) (i:Nat) (x:AV) (k:List AV→α):α:=
 match l,i with
 | [],_=>k []
 |_::r,0=>k (x::r)
 |y::r,i+1=>B0y r i x fun r'=>k (y::r')
def Ht {α:Type} (s:AS) (dst:Option Tmp) (x:AV) (k:AS→α):α:=
 match dst with
 |none=>k s
 |some d=>Ye x fun x=>match s with
  |⟨next,slots,boxes,own,links⟩=>B0y slots d x fun slots=>k ⟨next,slots,boxes,own,links⟩
def A4x {α:Type} (s:AS) (cells:List AV) (k:AS→α):α:=
 Km cells fun cells=>match s with
  |⟨next,slots,boxes,own,links⟩=>Hj (next+1) fun n=>k ⟨n,slots,{key:=next,cells}::boxes,own,links⟩
def Mt {α:Type} (s:AS) (c:Ae) (k:AS→α):α:=
 match s with
 |⟨next,slots,boxes,own,links⟩=>Hj (next+1) fun n=>k ⟨n,slots,boxes,⟨next,c⟩::own,links⟩
def A4v {α:Type} (s:AS) (bx:List Bx) (k:AS→α):α:=
 Tw bx fun bx=>match s with
  |⟨next,slots,_,own,links⟩=>k ⟨next,slots,bx,own,links⟩
def run (T:List (TypeId×TI)) (wr:Bool):Nat→List KI→AS→Out
 | 0,K,s=>I2 s (.at_ K)
 |n+1,K,s=>
  match K with
  | []=>I2 s (.at_ [])
  | .block _::K=>run T wr n K s
  | .loop I::K=>I2 s (.at_ (.loop I::K))
  | .code c::K=>
   match c with
   | .skip=>run T wr n K s
   | .seq a b=>run T wr n (.code a:: .code b::K) s
   | .block id c=>run T wr n (.code c:: .block id::K) s
   | .cond o t e=>
    match s.ev o with
    | .c (.val (.bool b))=> .ite b (run T wr n (.code t::K) s) (run T wr n (.code e::K) s)
    |_=>I2 s (.at_ (.code (.cond o t e)::K))
   | .exit id=>match Ob id K with
    |some K'=>run T wr n K' s
    |none=>I2 s (.at_ (.code (.exit id)::K))
   | .ret=>I2 s .ret
   | .region _id ops false=>run T wr n (.ops false ops ops.toList::K) s
   |c=>I2 s (.at_ (.code c::K))
  | .ops q all l::K=>
   match l with
   | []=>run T wr n K s
   |o::rest=>
    match o.guard with
    |none=>
     match o.op with
     | .pick c x y=>
      match s.ev c with
      | .c (.val (.bool b))=> .ite b (Ht s o.dst (s.ev x) (run T wr n (.ops q all rest::K))) (Ht s o.dst (s.ev y) (run T wr n (.ops q all rest::K)))
      |_=>I2 s (.at_ (.ops q all (o::rest)::K))
     | .call {callee:= .value (.func f),args,..}=>Lw (args.toList.map s.ev) fun xs=>I2 s fun s=> .call q f xs o.dst (.ops q all rest::K) s
     | .call {callee:= .value (.tmp t),args,..}=>
      match Gm s.slots t with
      | .fn f caps=>Lw (args.toList.map s.ev++caps) fun xs=>I2 s fun s=> .call q f xs o.dst (.ops q all rest::K) s
      |_=>I2 s (.at_ (.ops q all (o::rest)::K))
     |op=>
      match step T wr s op with
      | .stop=>I2 s (.at_ (.ops q all (o::rest)::K))
      | .ok ps x=>Uc ps (Ht s o.dst x (run T wr n (.ops q all rest::K)))
      | .new cells=>A4x s cells fun s'=>Ht s' o.dst (.box s.next 0) (run T wr n (.ops q all rest::K))
      | .own ps c=>Uc ps (Mt s c fun s'=>Ht s' o.dst (.own s.next) (run T wr n (.ops q all rest::K)))
      | .mem bx=>A4v s bx fun s=>Ht s o.dst .any (run T wr n (.ops q all rest::K))
    |some (j,true)=>
     match Gy all j with
     |some d=>match Gm s.slots d with
      | .c (.val (.bool b))=> .ite b
        (Ht s (some d) (.v (.bool true)) (run T wr n (.ops q all ({o with guard:=none}::rest)::K)))
        (Ht s (some d) (.v (.bool false)) fun s=>Ht s o.dst (L1 all o.dst) (run T wr n (.ops q all rest::K)))
      | .tup []=>Ht s o.dst (L1 all o.dst) (run T wr n (.ops q all rest::K))
      |_=>I2 s (.at_ (.ops q all (o::rest)::K))
     |none=>I2 s (.at_ (.ops q all (o::rest)::K))
    |some (j,false)=>
     match Gy all j with
     |some d=>match Gm s.slots d with
      | .c (.val (.bool b))=> .ite b
        (Ht s (some d) (.v (.bool true)) fun s=>Ht s o.dst (L1 all o.dst) (run T wr n (.ops q all rest::K)))
        (Ht s (some d) (.v (.bool false)) (run T wr n (.ops q all ({o with guard:=none}::rest)::K)))
      | .tup []=>Ht s o.dst (L1 all o.dst) (run T wr n (.ops q all rest::K))
      |_=>I2 s (.at_ (.ops q all (o::rest)::K))
     |none=>I2 s (.at_ (.ops q all (o::rest)::K))
def Ni (T:List (TypeId×TI)) (wr:Bool) (n:Nat) (K:List KI) (s:AS):Out:=I2 s (run T wr n K)
end Go.Sx
namespace Go.Sx
inductive Mh (w:World) (A:Nat→Prop):Ae→Value→Prop
 |val (x:Value) (h:x.oneCell'=true):Mh w A (.val x) x
 |nil (es:Nat) (row:Nat→List Ae):Mh w A (.sl 0 es row) (.slice none 0 0)
 |emp (es:Nat) (row:Nat→List Ae) (a:Addr):Mh w A (.sl 0 es row) (.slice (some a) 0 0)
 |sl (n es:Nat) (row:Nat→List Ae) (b off cap:Nat) (u:Nat→Nat→Value) (hA:0<n * es→¬ A b) (hn:n≤cap) (hc:cap≤maxLen)
   (hl:∀i,i<n→(row i).length=es) (hu:∀i j,i<n→j<es→w.cell? ⟨b,off+i * es+j,none⟩=some (u i j))
   (hr:∀i j c,i<n→(row i)[j]? =some c→Mh w A c (u i j)):Mh w A (.sl n es row) (.slice (some ⟨b,off,none⟩) n cap)
def Dr (w w':World):Prop:=w.heap.size≤w'.heap.size∧∀k,k<w.heap.size→w'.heap[k]? =w.heap[k]?
theorem Dr.refl (w:World):Dr w w:=⟨Nat.le_refl _,fun _ _=>rfl⟩
theorem Dr.trans {w w' w'':World}(h:Dr w w')(h':Dr w' w''):Dr w w'':=
 ⟨Nat.le_trans h.1 h'.1,fun k hk=>(h'.2 k (Nat.lt_of_lt_of_le hk h.1)).trans (h.2 k hk)⟩
theorem Dr.cell {w w':World}(h:Dr w w'){a:Addr}{v:Value}(hc:w.cell? a=some v):w'.cell? a=some v:=
 (World.cell?_of_block (h.2 a.block (World.block_lt_of_cell? w a hc))).trans hc
theorem B1z {w:World}{b o:Nat}{v:Value}(h:w.cell? ⟨b,o,none⟩=some v):b<w.heap.size:=World.block_lt_of_cell? w ⟨b,o,none⟩ h
theorem Mh.move {w w':World}{A A':Nat→Prop}{c:Ae}{v:Value}(h:Mh w A c v)(hk:∀b,¬ A b→b<w.heap.size→w'.heap[b]? =w.heap[b]?)
  (hA:∀b,b<w.heap.size→A' b→A b):Mh w' A' c v:=by
 induction h with
 |val x h=>exact .val x h
 |nil es row=>exact .nil es row
 |emp es row a=>exact .emp es row a
 |sl n es row b off cap u hAb hn hc hl hu hr ih=>
  by_cases h0:0<n * es
  ·have hn0:0<n:=Nat.pos_of_mul_pos_right h0
   have he0:0<es:=Nat.pos_of_mul_pos_left h0
   have hb:b<w.heap.size:=B1z (hu 0 0 hn0 he0)
   have hnA:=hAb h0
   refine .sl n es row b off cap u (fun _ h=>hnA (hA b hb h)) hn hc hl (fun i j hi hj=>?_) (fun i j c hi hj=>ih i j c hi hj)
   rw [←hu i j hi hj]
   exact World.cell?_of_block (hk b hnA hb)
  refine .sl n es row b off cap u (fun h=>absurd h h0) hn hc hl (fun i j hi hj=>?_) (fun i j c hi hj=>ih i j c hi hj)
  exact absurd (Nat.mul_pos (Nat.lt_of_le_of_lt (Nat.zero_le _) hi) (Nat.lt_of_le_of_lt (Nat.zero_le _) hj)) h0
theorem Mh.one {w:World}{A:Nat→Prop}{c:Ae}{v:Value}(h:Mh w A c v):v.oneCell'=true:=by
 cases h<;>first|assumption|rfl
inductive C1 (w:World):Ae→Value→List Nat→Prop
 |val (x:Value) (h:x.oneCell'=true):C1 w (.val x) x []
 |nil (es:Nat) (row:Nat→List Ae):C1 w (.sl 0 es row) (.slice none 0 0) []
 |emp (es:Nat) (row:Nat→List Ae) (b o:Nat):C1 w (.sl 0 es row) (.slice (some ⟨b,o,none⟩) 0 0) []
 |sl (n es:Nat) (row:Nat→List Ae) (b off cap:Nat) (ty:TypeId) (cells:Array Value) (fps:Nat→List Nat) (hn:n≤cap) (hc:cap≤maxLen)
   (hb:w.heap[b]? =some (.cells cells ty (0,0))) (hs:(off+cap) * es≤cells.size)
   (hl:∀i,i<n→(row i).length=es)
   (hr:∀i j c,i<n→(row i)[j]? =some c→C1 w c (cells.getD ((off+i) * es+j) undef) (fps (i * es+j))):
   C1 w (.sl n es row) (.slice (some ⟨b,off * es,none⟩) n cap) (b::(List.range (n * es)).flatMap fps)
theorem C1.one {w:World}{c:Ae}{v:Value}{fp:List Nat}(h:C1 w c v fp):v.oneCell'=true:=by
 cases h<;>first|assumption|rfl
theorem Db {fps:Nat→List Nat}{n k b:Nat}(h:k<n)(hb:b∈fps k):b∈(List.range n).flatMap fps:=
 List.mem_flatMap.2 ⟨k,List.mem_range.2 h,hb⟩
theorem Fb {i j n es:Nat}(hi:i<n)(hj:j<es):i * es+j<n * es:=by
 have:i * es+es≤n * es:=by rw [←Nat.succ_mul];exact Nat.mul_le_mul_right es hi
 omega
theorem C1.move {w w':World}{c:Ae}{v:Value}{fp:List Nat}(h:C1 w c v fp)(hk:∀b∈fp,w'.heap[b]? =w.heap[b]?):C1 w' c v fp:=by
 induction h with
 |val x h=>exact .val x h
 |nil es row=>exact .nil es row
 |emp es row b o=>exact .emp es row b o
 |sl n es row b off cap ty cells fps hn hc hb hs hl hr ih=>
  refine .sl n es row b off cap ty cells fps hn hc (by rw [hk b Cg];exact hb) hs hl (fun i j c hi hj=>ih i j c hi hj ?_)
  intro b' hb'
  have hj':j<es:=by have:=(List.getElem?_eq_some_iff.1 hj).1;rw [hl i hi] at this;exact this
  exact hk b' (List.mem_cons_of_mem _ (Db (Fb hi hj') hb'))
theorem C1.lt {w:World}{c:Ae}{v:Value}{fp:List Nat}(h:C1 w c v fp):∀b∈fp,b<w.heap.size:=by
 induction h with
 |val x h=>simp
 |nil es row=>simp
 |emp es row b o=>simp
 |sl n es row b off cap ty cells fps hn hc hb hs hl hr ih=>
  intro b' hb'
  rcases List.mem_cons.1 hb' with rfl|hb'
  ·exact (Array.getElem?_eq_some_iff.1 hb).1
  obtain ⟨k,hk,hk'⟩:=List.mem_flatMap.1 hb'
  have hk:=List.mem_range.1 hk
  have he:0<es:=Nat.pos_of_ne_zero (fun h=>by subst h;simp at hk)
  have hi:k / es<n:=Nat.div_lt_of_lt_mul (by rw [Nat.mul_comm];exact hk)
  have hj:k % es<(row (k / es)).length:=by rw [hl _ hi];exact Nat.mod_lt _ he
  refine ih (k / es) (k % es) _ hi (List.getElem?_eq_getElem hj) b' ?_
  rw [Nat.mul_comm,Nat.div_add_mod]
  exact hk'
theorem C1.rep {w:World}{A:Nat→Prop}{c:Ae}{v:Value}{fp:List Nat}(h:C1 w c v fp)(hA:∀b∈fp,¬ A b):Mh w A c v:=by
 induction h with
 |val x h=>exact .val x h
 |nil es row=>exact .nil es row
 |emp es row b o=>exact .emp es row ⟨b,o,none⟩
 |sl n es row b off cap ty cells fps hn hc hb hs hl hr ih=>
  refine .sl n es row b (off * es) cap (fun i j=>cells.getD ((off+i) * es+j) undef) (fun _=>hA b Cg) hn hc hl (fun i j hi hj=>?_) (fun i j c hi hj=>ih i j c hi hj ?_)
  ·have h1:off * es+i * es+j=(off+i) * es+j:=by rw [Nat.add_mul]
   have h2:(off+i) * es+j<cells.size:=by
    have:=Fb (show off+i<off+cap by omega) hj
    omega
   rw [h1,cell_of_row w b _ cells ty (0,0) hb]
   simp [Array.getD,h2]
  intro b' hb'
  have hj':j<es:=by have:=(List.getElem?_eq_some_iff.1 hj).1;rw [hl i hi] at this;exact this
  exact hA b' (List.mem_cons_of_mem _ (Db (Fb hi hj') hb'))
structure Cz where
 ov:Nat→Value
 fp:Nat→List Nat
def B5z (v:Value):Nat:=
 match v with
 | .pointer (some a)=>a.block
 |_=>0
def Cz.β (E:Cz) (k:Nat):Nat:=B5z (E.ov k)
theorem Cz.β_of {E E':Cz}{k j:Nat}(h:E'.ov k=E.ov j):E'.β k=E.β j:=by unfold Cz.β;rw [h]
inductive Cu (E:Cz) (w:World) (A:Nat→Prop) (N:Nat):AV→Value→Prop
 |any (v:Value):Cu E w A N .any v
 |c {x:Ae} {v:Value} (h:Mh w A x v):Cu E w A N (.c x) v
 |own {k:Nat} (hk:k<N):Cu E w A N (.own k) (E.ov k)
 |box {k:Nat} (off:Nat) (hk:k<N):Cu E w A N (.box k off) (.pointer (some ⟨E.β k,off,none⟩))
 |agg {xs:List AV} (vs:List Value) (hl:vs.length=xs.length) (h:∀i x,xs[i]? =some x→Cu E w A N x (vs.getD i undef)):Cu E w A N (.agg xs) (.agg vs.toArray)
 |el {n es:Nat} {row:Nat→List Ae} {i:Int} (off b o cap:Nat) (hs:Mh w A (.sl n es row) (.slice (some ⟨b,o,none⟩) n cap)) (h0:0≤i) (hi:i<(n:Int)):
   Cu E w A N (.el n es row i off) (.pointer (some ⟨b,o+i.toNat * es+off,none⟩))
 |oel {k es:Nat} {i:Int} (off b o n cap:Nat) (hk:k<N) (hv:E.ov k= .slice (some ⟨b,o,none⟩) n cap) (h0:0≤i) (hi:i<(n:Int)):
   Cu E w A N (.oel k es i off) (.pointer (some ⟨b,o+i.toNat * es+off,none⟩))
 |tup {xs:List AV} (vs:List Value) (hl:vs.length=xs.length) (h:∀i x,xs[i]? =some x→Cu E w A N x (vs.getD i undef)):Cu E w A N (.tup xs) (.tuple vs.toArray)
 |fn {f:FuncId} {xs:List AV} (vs:List Value) (hl:vs.length=xs.length) (h:∀i x,xs[i]? =some x→Cu E w A N x (vs.getD i undef)):Cu E w A N (.fn f xs) (.func (.func f) #[] vs.toArray)
theorem Cu.move {E E':Cz}{w w':World}{A A':Nat→Prop}{N N':Nat}{x:AV}{v:Value}(h:Cu E w A N x v)(hN:N≤N')
  (hE:∀k,k<N→E'.β k=E.β k∧E'.ov k=E.ov k)
  (hk:∀b,¬ A b→b<w.heap.size→w'.heap[b]? =w.heap[b]?)(hA:∀b,b<w.heap.size→A' b→A b):Cu E' w' A' N' x v:=by
 induction h with
 |any v=>exact .any v
 |c h=>exact .c (h.move hk hA)
 |own hk=>rw [←(hE _ hk).2];exact .own (Nat.lt_of_lt_of_le hk hN)
 |box off hk=>rw [←(hE _ hk).1];exact .box off (Nat.lt_of_lt_of_le hk hN)
 |agg vs hl h ih=>exact .agg vs hl ih
 |el off b o cap hs h0 hi=>exact .el off b o cap (hs.move hk hA) h0 hi
 |oel off b o n cap hk hv h0 hi=>exact .oel off b o n cap (Nat.lt_of_lt_of_le hk hN) (by rw [(hE _ hk).2];exact hv) h0 hi
 |tup vs hl h ih=>exact .tup vs hl ih
 |fn vs hl h ih=>exact .fn vs hl ih
theorem Cu.cell1 {E:Cz}{w:World}{A:Nat→Prop}{N:Nat}{x:AV}{v:Value}(h:Cu E w A N x v)(hc:x.cellLike=true)(hO:∀k,k<N→(E.ov k).oneCell'=true):v.oneCell'=true:=by
 cases h<;>first|rfl|(simp [AV.cellLike] at hc;done)|(rename_i h;exact h.one)|(rename_i h;exact hO _ h)
def AS.avoid (s:AS) (E:Cz) (b:Nat):Prop:=(∃x∈s.boxes,E.β x.key=b)∨∃y∈s.own,b∈E.fp y.key
structure B0 where
 w0:World
 may:Nat→Prop
structure B0.rel (B:B0) (w:World):Prop where
 os:w.os=B.w0.os
 tape:w.tape=B.w0.tape
 output:w.output=B.w0.output
 size:B.w0.heap.size≤w.heap.size
 block:∀k,k<B.w0.heap.size→¬ B.may k→w.heap[k]? =B.w0.heap[k]?
 drawn:B.w0.drawn≤w.drawn
structure Fx (B:Nat) (w w':World):Prop where
 os:w'.os=w.os
 tape:w'.tape=w.tape
 output:w'.output=w.output
 size:w.heap.size≤w'.heap.size
 block:∀k,k<B→w'.heap[k]? =w.heap[k]?
 drawn:w.drawn≤w'.drawn
theorem Fx.refl (B:Nat)(w:World):Fx B w w:=⟨rfl,rfl,rfl,Nat.le_refl _,fun _ _=>rfl,Nat.le_refl _⟩
theorem Fx.trans {B:Nat}{a b c:World}(h:Fx B a b)(k:Fx B b c):Fx B a c:=
 ⟨k.os.trans h.os,k.tape.trans h.tape,k.output.trans h.output,Nat.le_trans h.size k.size,fun i hi=>(k.block i hi).trans (h.block i hi),Nat.le_trans h.drawn k.drawn⟩
theorem Fx.kit {B:Nat}{w w':World}(h:Fx B w w'):Go.RowKit.Below B w w':=⟨h.os,h.tape,h.output,h.size,h.block⟩
def B0.fresh (B:B0) (b:Nat):Prop:=B.w0.heap.size≤b∨B.may b
structure AS.is (s:AS) (B:B0) (E:Cz) (a:Act) (w:World):Prop where
 defers:a.defers=[]
 links:∀p∈s.links,p.1<s.next∧E.ov p.1=p.2
 size:a.tmps.size=s.slots.length
 slots:∀i x,s.slots[i]? =some x→Cu E w (s.avoid E) s.next x (a.tmps.getD i undef)
 boxes:∀x∈s.boxes,x.key<s.next∧∃vs ty,w.heap[E.β x.key]? =some (.cells vs ty (0,0))∧vs.size=x.cells.length∧
  ∀i y,x.cells[i]? =some y→Cu E w (s.avoid E) s.next y (vs.getD i undef)
 boxes2:∀x∈s.boxes,∀y∈s.boxes,E.β x.key=E.β y.key→x.key=y.key
 keys:(s.boxes.map (·.key)).Nodup
 own:∀y∈s.own,y.key<s.next∧C1 w y.cell (E.ov y.key) (E.fp y.key)∧(E.fp y.key).Nodup
 ownkeys:(s.own.map (·.key)).Nodup
 sep:∀y∈s.own,∀z∈s.own,y.key≠z.key→∀b∈E.fp y.key,b∉E.fp z.key
 sepB:∀x∈s.boxes,∀y∈s.own,E.β x.key∉E.fp y.key
 one:∀k,k<s.next→(E.ov k).oneCell'=true
 base:B.rel w
 fresh:∀b,s.avoid E b→B.fresh b
theorem AS.is.avoid_lt {s:AS}{B:B0}{E:Cz}{a:Act}{w:World}(h:s.is B E a w){b:Nat}(hb:s.avoid E b):b<w.heap.size:=by
 rcases hb with ⟨x,hx,rfl⟩|⟨y,hy,hb⟩
 ·obtain ⟨_,vs,ty,h1,_⟩:=h.boxes x hx
  exact (Array.getElem?_eq_some_iff.1 h1).1
 exact (h.own y hy).2.1.lt b hb
theorem Ci (l:List AV)(i:Nat)(x:AV):(Cm l i x).length=l.length:=by
 induction l generalizing i with
 |nil=>rfl
 |cons y r ih=>cases i<;>simp [Cm,ih]
theorem Dh (l:List AV)(i:Nat)(x:AV)(j:Nat):(Cm l i x)[j]? =if i=j∧j<l.length then some x else l[j]? :=by
 induction l generalizing i j with
 |nil=>simp [Cm]
 |cons y r ih=>
  cases i with
  |zero=>cases j<;>simp [Cm]
  |succ i=>cases j with
   |zero=>simp [Cm]
   |succ j=>simp [Cm,ih]
theorem Co (l:List AV)(i:Nat):Gm l i=(l[i]?).getD .any:=by
 induction l generalizing i with
 |nil=>simp [Gm]
 |cons y r ih=>cases i<;>simp [Gm,ih]
theorem AS.is.put {s:AS}{B:B0}{E:Cz}{a:Act}{w:World}(h:s.is B E a w)(d:Option Tmp){x:AV}{v:Value}(hx:Cu E w (s.avoid E) s.next x v):
  (s.put d x).is B E (a.put d v) w:=by
 cases d with
 |none=>exact h
 |some d=>
  refine ⟨h.defers,h.links,?_,?_,h.boxes,h.boxes2,h.keys,h.own,h.ownkeys,h.sep,h.sepB,h.one,h.base,h.fresh⟩
  ·simp [Act.put,AS.put,Ci,h.size]
  intro i y hy
  simp only [AS.put,Dh] at hy
  simp only [Act.put]
  by_cases hi:d=i∧i<s.slots.length
  ·rw [if_pos hi] at hy
   obtain ⟨rfl,hl⟩:=hi
   obtain rfl:x=y:=by simpa using hy
   have:d<a.tmps.size:=by rw [h.size];exact hl
   change Cu E w (s.avoid E) s.next x _
   simpa [Array.getD,Array.size_setIfInBounds,this] using hx
  rw [if_neg hi] at hy
  have hl:i<s.slots.length:=(List.getElem?_eq_some_iff.1 hy).1
  have hne:d≠i:=fun e=>hi ⟨e,hl⟩
  have hsz:i<a.tmps.size:=by rw [h.size];exact hl
  have:=h.slots i y hy
  change Cu E w (s.avoid E) s.next y _
  simpa [Array.getD,Array.size_setIfInBounds,hsz,Array.getElem_setIfInBounds,hne] using this
theorem AS.is.ev {s:AS}{B:B0}{E:Cz}{a:Act}{w:World}(h:s.is B E a w)(o:Operand):Cu E w (s.avoid E) s.next (s.ev o) (a.eval o):=by
 cases o with
 |tmp t=>
  simp only [AS.ev,Act.eval,Co]
  by_cases hl:t<s.slots.length
  ·rw [List.getElem?_eq_getElem hl]
   exact h.slots t _ (List.getElem?_eq_getElem hl)
  rw [List.getElem?_eq_none (Nat.le_of_not_lt hl)];exact .any _
 |const v=>
  simp only [AS.ev,Act.eval]
  cases v<;>first|exact .any _|exact .c (.val _ rfl)
 |global g=>exact .any _
 |func f=>exact .fn [] rfl Cg
end Go.Sx
namespace Go.Sx
def Cn (P:Program) (T:List (TypeId×TI)):Prop:=∀t i,E9 T t=some i→TI.of P t=some i
structure TI.Spec (P:Program) (t:TypeId) (i:TI) (f:TypeInfo) (d:TypeDesc) (z:Value):Prop where
 hf:P.info? t=some f
 hd:P.underlying t=some d
 hz:f.zero=some z
 size:f.size=i.size
 bytes:f.bytes=i.bytes
 cells:z.cells.toList=i.zero
 agg:i.agg=Gt d
 fields:i.fields=(match d with| .struct fs=>fs.toList.map fun F=>(F.offset,F.type)|_=>[])
 elem:i.elem=(match d with| .slice e=>some e|_=>none)
 str:i.str=(match d with| .string=>true|_=>false)
 flat:i.flat=(match P.eqGuardType P.depth t with|true=>none|false=>Kk P 10 t)
 one:Gt d=false→i.size=1
 zlen:i.zero.length=i.size
 zone:Ft i.zero=true
theorem TI.of_spec {P:Program}{t:TypeId}{i:TI}(h:TI.of P t=some i):∃f d z,TI.Spec P t i f d z:=by
 unfold TI.of at h
 split at h
 ·rename_i f d hf hd
  split at h
  ·simp at h
  ·simp at h
  ·simp at h
  rename_i z hz h1 h2
  simp only [Option.some.injEq] at h
  subst h
  simp only [hz,Option.map_some,Option.getD_some,Bool.and_eq_true] at h2
  refine ⟨f,d,z,hf,hd,hz,rfl,rfl,rfl,rfl,by cases d<;>rfl,by cases d<;>rfl,by cases d<;>rfl,rfl,fun ha=>?_,by simpa using h2.1,h2.2⟩
  rw [ha] at h1
  simpa using h1
 simp at h
variable {P : Program} {T : List (TypeId × TI)}
theorem C6 {t:TypeId}{i:TI}(h:TI.of P t=some i)(w:World):(sizeOf t).run P w= .ok i.size w:=by
 obtain ⟨f,d,z,S⟩:=TI.of_spec h
 simp [sizeOf,typeInfo,S.hf,S.size]
theorem S6 {t:TypeId}{i:TI}(h:TI.of P t=some i):∃z,z.cells.toList=i.zero∧∀w,(zeroValue t).run P w= .ok z w:=by
 obtain ⟨f,d,z,S⟩:=TI.of_spec h
 exact ⟨z,S.cells,fun w=>by simp [zeroValue,typeInfo,S.hf,S.hz]⟩
theorem Z0 {t:TypeId}{i:TI}(h:TI.of P t=some i)(w:World):(isAgg t).run P w= .ok i.agg w:=by
 obtain ⟨f,d,z,S⟩:=TI.of_spec h
 have hd:=S.hd
 rw [S.agg]
 cases d<;>simp [isAgg,run_underlying hd,Gt]
theorem Dm {t e:TypeId}{i:TI}(h:TI.of P t=some i)(he:i.elem=some e):P.underlying t=some (.slice e):=by
 obtain ⟨f,d,z,S⟩:=TI.of_spec h
 have hd:=S.hd
 rw [S.elem] at he
 cases d<;>simp at he
 subst he
 exact hd
theorem P8 {t:TypeId}{i:TI}(h:TI.of P t=some i)(hs:i.str=true):P.underlying t=some .string:=by
 obtain ⟨f,d,z,S⟩:=TI.of_spec h
 have hd:=S.hd
 rw [S.str] at hs
 cases d<;>simp at hs
 exact hd
theorem Hx (b o n:Nat):(⟨b,o,none⟩:Addr).add n=⟨b,o+n,none⟩:=by
 unfold Addr.add
 split<;>simp_all
theorem Fv {t:TypeId}{i:TI}(h:TI.of P t=some i)(w:World)(b o:Nat)(vs:List Value)(hl:vs.length=i.size)
  (hc:∀j,j<i.size→w.cell? ⟨b,o+j,none⟩=some (vs.getD j undef)):
  (loadVar t ⟨b,o,none⟩).run P w= .ok (match i.agg with|true=> .agg vs.toArray|false=>vs.getD 0 undef) w:=by
 simp only [loadVar,Sem.run_bind,Z0 h,Result.andThen_ok]
 cases hag:i.agg with
 |true=>
  have:(loadCells ⟨b,o,none⟩ vs.length).run P w= .ok vs.toArray w:=by
   refine run_loadCells_list (P:=P) w _ vs (fun j v hv=>?_)
   have hj:j<vs.length:=(List.getElem?_eq_some_iff.1 hv).1
   rw [Hx,hc j Ab]
   simp [List.getD,hv]
  simp [C6 h,←hl,this]
 |false=>
  obtain ⟨f,d,z,S⟩:=TI.of_spec h
  have h1:=S.one (by rw [←S.agg];exact hag)
  have:=hc 0 Ab
  simp only [Nat.add_zero] at this
  simp [this]
theorem V4 (l:List AV)(off n:Nat)(h:off+n≤l.length):(seg l off n).length=n:=by
 simp [seg];omega
theorem B3i (l:List AV)(off n j:Nat)(h:j<n):(seg l off n)[j]? =l[off+j]? :=by
 simp [seg,h]
theorem N3 {E:Cz}{w:World}{A:Nat→Prop}{N:Nat}(cells:List AV)(vs:List Value)(off:Nat)(i:TI)(hl:off+i.size≤cells.length)
  (h:∀j x,cells[j]? =some x→Cu E w A N x (vs.getD j undef)):
  Cu E w A N (Ij i cells off) (match i.agg with|true=> .agg ((List.range i.size).map fun j=>vs.getD (off+j) undef).toArray|false=>vs.getD off undef):=by
 unfold Ij
 cases hag:i.agg with
 |true=>
  refine .agg _ (by simp [V4 _ _ _ hl]) (fun j x hj=>?_)
  have hj':j<i.size:=by
   have:=(List.getElem?_eq_some_iff.1 hj).1
   rwa [V4 _ _ _ hl] at this
  rw [B3i _ _ _ _ hj'] at hj
  have:=h _ _ hj
  simpa [List.getD,hj'] using this
 |false=>
  simp only [Co]
  by_cases ho:off<cells.length
  ·rw [List.getElem?_eq_getElem ho]
   exact h off _ (List.getElem?_eq_getElem ho)
  rw [List.getElem?_eq_none (Nat.le_of_not_lt ho)];exact .any _
theorem Ex {l:List Bx}{k:Nat}{b:Bx}(h:Gj l k=some b):b∈l∧b.key=k:=by
 induction l with
 |nil=>simp [Gj] at h
 |cons x r ih=>
  unfold Gj at h
  split at h
  ·rename_i hk
   obtain rfl:=Option.some.inj h
   exact ⟨by simp,Nat.eq_of_beq_eq_true hk⟩
  exact ⟨List.mem_cons_of_mem _ (ih h).1,(ih h).2⟩
theorem Ck {l:List Ow}{k:Nat}{c:Ae}(h:Bw l k=some c):⟨k,c⟩∈l:=by
 induction l with
 |nil=>simp [Bw] at h
 |cons x r ih=>
  unfold Bw at h
  split at h
  ·rename_i hk
   obtain rfl:=Option.some.inj h
   obtain rfl:=Nat.eq_of_beq_eq_true hk
   simp
  exact List.mem_cons_of_mem _ (ih h)
theorem C2 (vs:Array Value)(j:Nat)(d:Value):vs.toList.getD j d=vs.getD j d:=by
 simp only [Array.getD,List.getD]
 split<;>simp_all
theorem AS.is.load {s:AS}{B:B0}{E:Cz}{a:Act}{w:World}(h:s.is B E a w){t:TypeId}{i:TI}(ht:TI.of P t=some i){k off:Nat}{b:Bx}(hb:Gj s.boxes k=some b)
  (hl:off+i.size≤b.cells.length):∃v,(∀w',Dr w w'→(Instr.loadAt t (.pointer (some ⟨E.β k,off,none⟩))).run P w'= .ok v w')∧Cu E w (s.avoid E) s.next (Ij i b.cells off) v:=by
 obtain ⟨hm,rfl⟩:=Ex hb
 obtain ⟨_,vs,ty,hh,hs,hd⟩:=h.boxes b hm
 refine ⟨_,fun w' hw'=>?_,N3 b.cells vs.toList off i hl (fun j x hj=>by rw [C2];exact hd j x hj)⟩
 have:=Fv ht w' (E.β b.key) off ((List.range i.size).map fun j=>vs.toList.getD (off+j) undef) Cg (fun j hj=>by
  refine hw'.cell ?_
  rw [cell_of_row w _ _ vs ty (0,0) hh]
  have:off+j<vs.size:=by omega
  simp [List.getD,this,hj])
 simp only [Instr.loadAt,Instr.sureAddr,Sem.run_bind,Sem.run_pure,Result.andThen_ok,this]
 cases hag:i.agg with
 |true=>rfl
 |false=>
  obtain ⟨f,d,z,S⟩:=TI.of_spec ht
  have h1:=S.one (by rw [←S.agg];exact hag)
  simp [h1,List.getD]
theorem B2m {E:Cz}{w:World}{A:Nat→Prop}{N:Nat}{t:TypeId}{i:TI}(ht:TI.of P t=some i){n es:Nat}{row:Nat→List Ae}{j:Int}{off b o cap:Nat}
  (hs:Mh w A (.sl n es row) (.slice (some ⟨b,o,none⟩) n cap))(h0:0≤j)(hj:j<(n:Int))(hl:off+i.size≤(row j.toNat).length):
  ∃v,(∀w',Dr w w'→(Instr.loadAt t (.pointer (some ⟨b,o+j.toNat * es+off,none⟩))).run P w'= .ok v w')∧Cu E w A N (Ij i ((row j.toNat).map AV.ofCell) off) v:=by
 obtain ⟨m,rfl⟩:=Int.eq_ofNat_of_zero_le h0
 simp only [Int.toNat_natCast,Int.ofNat_lt] at *
 cases hs with
 |emp=>omega
 |sl _ _ _ _ _ _ u hA hn hc hll hu hr=>
  have hes:=hll m hj
  refine ⟨_,fun w' hw'=>?_,N3 ((row m).map AV.ofCell) ((List.range es).map (u m)) off i (by simpa using hl) (fun k x hk=>?_)⟩
  ·have:=Fv ht w' b (o+m * es+off) ((List.range i.size).map fun k=>((List.range es).map (u m)).getD (off+k) undef) Cg (fun k hk=>by
    have h1:off+k<es:=by omega
    have:=hw'.cell (hu m (off+k) hj h1)
    rw [show o+m * es+off+k=o+m * es+(off+k) by omega,this]
    simp [List.getD,hk,h1])
   simp only [Instr.loadAt,Instr.sureAddr,Sem.run_bind,Sem.run_pure,Result.andThen_ok,this]
   cases hag:i.agg with
   |true=>rfl
   |false=>
    obtain ⟨f,d,z,S⟩:=TI.of_spec ht
    have h1:=S.one (by rw [←S.agg];exact hag)
    simp [h1,List.getD]
  simp only [List.getElem?_map,Option.map_eq_some_iff] at hk
  obtain ⟨c,hc',rfl⟩:=hk
  have hk':k<es:=by have:=(List.getElem?_eq_some_iff.1 hc').1;omega
  have:=hr m k c hj hc'
  simpa [List.getD,hk',AV.ofCell] using Cu.c (E:=E) (N:=N) this
theorem Kh {E:Cz}{w:World}{A:Nat→Prop}{N:Nat}{x:AV}{v:Value}(h:Cu E w A N x v)(hc:Hg x.cellsOf=true)(hO:∀k,k<N→(E.ov k).oneCell'=true):
  v.cells.size=x.cellsOf.length∧(∀j y,x.cellsOf[j]? =some y→Cu E w A N y (v.cells.getD j undef))∧∀y∈v.cells.toList,y.oneCell'=true:=by
 have all:∀(l:List AV),Hg l=true→∀y∈l,y.cellLike=true:=by
  intro l
  induction l with
  |nil=>simp
  |cons x r ih=>
   intro h
   unfold Hg at h
   split at h
   ·rename_i hx
    intro y hy
    rcases List.mem_cons.1 hy with rfl|hy
    ·exact hx
    exact ih h y hy
   simp at h
 have hall:=all _ hc
 have single:x.cellsOf=[x]→v.cells= #[v]→v.cells.size=x.cellsOf.length∧(∀j y,x.cellsOf[j]? =some y→Cu E w A N y (v.cells.getD j undef))∧∀y∈v.cells.toList,y.oneCell'=true:=by
  intro e1 e2
  rw [e1] at hall
  have h1:=h.cell1 (hall x Cg) hO
  rw [e1,e2]
  refine ⟨rfl,fun j y hj=>?_,by simpa using h1⟩
  cases j with
  |zero=>obtain rfl:=Option.some.inj hj;simpa [Array.getD] using h
  |succ j=>simp at hj
 cases h with
 |any v=>simp [AV.cellsOf,Hg,AV.cellLike] at hc
 | @agg xs vs hl h=>
  simp only [AV.cellsOf] at *
  refine ⟨by simp [Value.cells,hl],fun j y hj=>?_,?_⟩
  ·have e:(Value.agg vs.toArray).cells.getD j undef=vs.getD j undef:=by rw [←C2];rfl
   rw [e]
   exact h j y hj
  intro y hy
  simp only [Value.cells] at hy
  obtain ⟨j,hj⟩:=List.mem_iff_getElem?.1 hy
  have hj':j<xs.length:=by rw [←hl];exact (List.getElem?_eq_some_iff.1 (by simpa using hj)).1
  have:=h j _ (List.getElem?_eq_getElem hj')
  have h1:=this.cell1 (hall _ (List.getElem_mem hj')) hO
  simpa [List.getD,(show vs[j]? =some y by simpa using hj)] using h1
 |tup vs hl h=>simp [AV.cellsOf,Hg,AV.cellLike] at hc
 |c h=>exact single rfl (by have:=h.one;cases v<;>first|rfl|simp [Value.oneCell'] at this)
 |own hk=>exact single rfl (by have:=hO _ hk;revert this;generalize E.ov _=v;intro this;cases v<;>first|rfl|simp [Value.oneCell'] at this)
 |box off hk=>exact single rfl rfl
 |el off b o cap hs h0 hi=>exact single rfl rfl
 |oel off b o n cap hk hv h0 hi=>exact single rfl rfl
 |fn vs hl h=>exact single rfl rfl
end Go.Sx
namespace Go.Sx
variable {P : Program} {T : List (TypeId × TI)}
def Cz.with (E:Cz) (n b:Nat):Cz:= {E with ov:=fun k=>if k=n then .pointer (some ⟨b,0,none⟩) else E.ov k}
theorem Cz.with_self (E:Cz)(n b:Nat):(E.with n b).β n=b:=by simp [Cz.with,Cz.β,B5z]
theorem Cz.with_keep (E:Cz)(n b:Nat):∀k,k<n→(E.with n b).β k=E.β k∧(E.with n b).ov k=E.ov k:=by
 intro k hk
 have:k≠n:=by omega
 have h:(E.with n b).ov k=E.ov k:=by simp [Cz.with,this]
 exact ⟨Cz.β_of h,h⟩
theorem Ee (w:World)(o:Obj)(b:Nat)(h:b<w.heap.size):(w.alloc o).heap[b]? =w.heap[b]? :=by
 show (w.heap.push o)[b]? =_
 rw [Array.getElem?_push,if_neg Ab]
def AS.newBox (s:AS) (cells:List AV):AS:= {s with boxes:= {key:=s.next,cells}::s.boxes,next:=s.next+1}
theorem AS.is.newBox {s:AS}{B:B0}{E:Cz}{a:Act}{w:World}(h:s.is B E a w)(cells:List AV)(vs:Array Value)(ty:TypeId)
  (hs:vs.size=cells.length)(hd:∀j y,cells[j]? =some y→Cu E w (s.avoid E) s.next y (vs.getD j undef)):
  (s.newBox cells).is B (E.with s.next w.heap.size) a (w.alloc (.cells vs ty))∧
   Cu (E.with s.next w.heap.size) (w.alloc (.cells vs ty)) ((s.newBox cells).avoid (E.with s.next w.heap.size)) (s.newBox cells).next (.box s.next 0) (.pointer (some ⟨w.heap.size,0,none⟩)):=by
 have kb:∀x∈s.boxes,(E.with s.next w.heap.size).β x.key=E.β x.key:=fun x hx=>(Cz.with_keep E _ _ _ (h.boxes x hx).1).1
 have av:∀b,(s.newBox cells).avoid (E.with s.next w.heap.size) b↔b=w.heap.size∨s.avoid E b:=by
  intro b
  constructor
  ·rintro (⟨x,hx,rfl⟩|⟨y,hy,hb⟩)
   ·rcases List.mem_cons.1 hx with rfl|hx
    ·left;exact Cz.with_self _ _ _
    right;left;exact ⟨x,hx,(kb x hx).symm⟩
   right;right;exact ⟨y,hy,hb⟩
  rintro (rfl|⟨x,hx,rfl⟩|⟨y,hy,hb⟩)
  ·left;exact ⟨_,List.mem_cons_self,Cz.with_self _ _ _⟩
  ·left;exact ⟨x,List.mem_cons_of_mem _ hx,kb x hx⟩
  right;exact ⟨y,hy,hb⟩
 have mv:∀x v,Cu E w (s.avoid E) s.next x v→Cu (E.with s.next w.heap.size) (w.alloc (.cells vs ty)) ((s.newBox cells).avoid (E.with s.next w.heap.size)) (s.newBox cells).next x v:=
  fun x v hx=>hx.move (Nat.le_succ _) (Cz.with_keep E _ _) (fun b _ hb=>Ee w _ b hb) (fun b hb hav=>by
   rcases (av b).1 hav with rfl|h
   ·omega
   exact h)
 refine ⟨⟨h.defers,fun p hp=>⟨Nat.lt_succ_of_lt (h.links p hp).1,(Cz.with_keep E _ _ _ (h.links p hp).1).2.trans (h.links p hp).2⟩,h.size,fun i x hx=>mv _ _ (h.slots i x hx),?_,?_,?_,?_,h.ownkeys,?_,?_,?_,?_,?_⟩,?_⟩
 ·intro x hx
  rcases List.mem_cons.1 hx with rfl|hx
  ·refine ⟨Nat.lt_succ_self _,vs,ty,?_,hs,fun j y hj=>mv _ _ (hd j y hj)⟩
   have:(E.with s.next w.heap.size).β s.next=w.heap.size:=Cz.with_self _ _ _
   rw [this]
   exact heap_alloc_new w _
  obtain ⟨h1,vs',ty',h2,h3,h4⟩:=h.boxes x hx
  refine ⟨Nat.lt_succ_of_lt h1,vs',ty',?_,h3,fun j y hj=>mv _ _ (h4 j y hj)⟩
  rw [kb x hx,Ee w _ _ (Array.getElem?_eq_some_iff.1 h2).1]
  exact h2
 ·intro x hx y hy he
  rcases List.mem_cons.1 hx with rfl|hx<;>rcases List.mem_cons.1 hy with rfl|hy
  ·rfl
  ·exfalso
   rw [kb y hy] at he
   simp only [Cz.with_self] at he
   have:=h.avoid_lt (.inl ⟨y,hy,rfl⟩)
   omega
  ·exfalso
   rw [kb x hx] at he
   simp only [Cz.with_self] at he
   have:=h.avoid_lt (.inl ⟨x,hx,rfl⟩)
   omega
  rw [kb x hx,kb y hy] at he
  exact h.boxes2 x hx y hy he
 ·simp only [AS.newBox,List.map_cons,List.nodup_cons]
  refine ⟨fun hm=>?_,h.keys⟩
  obtain ⟨x,hx,e⟩:=List.mem_map.1 hm
  have:=(h.boxes x hx).1
  omega
 ·intro y hy
  obtain ⟨h1,h2,h3⟩:=h.own y hy
  refine ⟨Nat.lt_succ_of_lt h1,?_,h3⟩
  rw [(Cz.with_keep E _ _ _ h1).2]
  exact h2.move (fun b hb=>Ee w _ b (h2.lt b hb))
 ·exact h.sep
 ·intro x hx y hy hb
  rcases List.mem_cons.1 hx with rfl|hx
  ·simp only [Cz.with_self] at hb
   have:=(h.own y hy).2.1.lt _ hb
   omega
  rw [kb x hx] at hb
  exact h.sepB x hx y hy hb
 ·intro k hk
  by_cases e:k=s.next
  ·subst e;simp [Cz.with,Value.oneCell']
  have hk':k<s.next:=by have:k<s.next+1:=hk;omega
  rw [(Cz.with_keep E _ _ _ hk').2]
  exact h.one k hk'
 ·refine ⟨h.base.os,h.base.tape,h.base.output,by simp;have:=h.base.size;omega,fun k hk hm=>?_,h.base.drawn⟩
  rw [Ee w _ _ (Nat.lt_of_lt_of_le hk h.base.size)]
  exact h.base.block k hk hm
 ·intro b hb
  rcases (av b).1 hb with rfl|hb
  ·exact .inl h.base.size
  exact h.fresh b hb
 have e:(E.with s.next w.heap.size).β s.next=w.heap.size:=Cz.with_self _ _ _
 have:=Cu.box (E:=E.with s.next w.heap.size) (w:=w.alloc (.cells vs ty)) (A:=(s.newBox cells).avoid (E.with s.next w.heap.size)) (N:=s.next+1) (k:=s.next) 0 (Nat.lt_succ_self _)
 rw [e] at this
 exact this
theorem Dq {l:List Bx}{k:Nat}{cs:List AV}{x:Bx}(hx:x∈E8 l k cs)(hn:(l.map (·.key)).Nodup):(x.key=k∧x.cells=cs∧∃y∈l,y.key=k)∨(x∈l∧x.key≠k):=by
 induction l with
 |nil=>simp [E8] at hx
 |cons y r ih=>
  simp only [List.map_cons,List.nodup_cons] at hn
  unfold E8 at hx
  split at hx
  ·rename_i hk
   have hk:=Nat.eq_of_beq_eq_true hk
   rcases List.mem_cons.1 hx with rfl|hx
   ·exact .inl ⟨hk,rfl,y,by simp,hk⟩
   refine .inr ⟨List.mem_cons_of_mem _ hx,fun e=>hn.1 ?_⟩
   exact List.mem_map.2 ⟨x,hx,by rw [e,hk]⟩
  rename_i hk
  rcases List.mem_cons.1 hx with rfl|hx
  ·exact .inr ⟨by simp,fun e=>by rw [e] at hk;simp at hk⟩
  rcases ih hx hn.2 with ⟨h1,h2,z,hz,h3⟩|⟨h1,h2⟩
  ·exact .inl ⟨h1,h2,z,List.mem_cons_of_mem _ hz,h3⟩
  exact .inr ⟨List.mem_cons_of_mem _ h1,h2⟩
theorem K1 (l:List Bx)(k:Nat)(cs:List AV):(E8 l k cs).map (·.key)=l.map (·.key):=by
 induction l with
 |nil=>rfl
 |cons y r ih=>
  unfold E8
  split
  ·rfl
  simp [ih]
theorem Xk {l:List Bx}{k:Nat}{cs:List AV}{x:Bx}(hx:x∈l):∃y∈E8 l k cs,y.key=x.key:=by
 have:x.key∈(E8 l k cs).map (·.key):=by rw [K1];exact List.mem_map.2 ⟨x,hx,rfl⟩
 obtain ⟨y,hy,e⟩:=List.mem_map.1 this
 exact ⟨y,hy,e⟩
theorem E3 (w:World)(g k:Nat)(cs:Array Value)(h:k≠g):(w.setRow g cs).heap[k]? =w.heap[k]? :=by
 simp only [World.setRow,Array.getElem?_modify]
 rw [if_neg Ab]
theorem AS.is.setBox {s:AS}{B:B0}{E:Cz}{a:Act}{w:World}(h:s.is B E a w){k:Nat}{b:Bx}(hb:Gj s.boxes k=some b)(cells:List AV)(vs:Array Value)
  (hs:vs.size=cells.length)(hd:∀j y,cells[j]? =some y→Cu E w (s.avoid E) s.next y (vs.getD j undef)):
  ({s with boxes:=E8 s.boxes k cells}:AS).is B E a (w.setRow (E.β k) vs):=by
 obtain ⟨hm,rfl⟩:=Ex hb
 obtain ⟨hlt,vs0,ty0,hh0,_,_⟩:=h.boxes b hm
 have av:∀c,({s with boxes:=E8 s.boxes b.key cells}:AS).avoid E c↔s.avoid E c:=by
  intro c
  constructor
  ·rintro (⟨x,hx,rfl⟩|h)
   ·rcases Dq hx h.keys with ⟨h1,_,y,hy,h2⟩|⟨h1,_⟩
    ·exact .inl ⟨y,hy,by rw [h1,h2]⟩
    exact .inl ⟨x,h1,rfl⟩
   exact .inr h
  rintro (⟨x,hx,rfl⟩|h)
  ·obtain ⟨y,hy,e⟩:=Xk (k:=b.key) (cs:=cells) hx
   exact .inl ⟨y,hy,by rw [e]⟩
  exact .inr h
 have hav:s.avoid E (E.β b.key):= .inl ⟨b,hm,rfl⟩
 have mv:∀x v,Cu E w (s.avoid E) s.next x v→Cu E (w.setRow (E.β b.key) vs) (({s with boxes:=E8 s.boxes b.key cells}:AS).avoid E) s.next x v:=
  fun x v hx=>hx.move (Nat.le_refl _) (fun _ _=>⟨rfl,rfl⟩) (fun c hc _=>E3 w _ _ _ (fun e=>hc (e▸hav))) (fun c _ hc=>(av c).1 hc)
 refine ⟨h.defers,h.links,h.size,fun i x hx=>mv _ _ (h.slots i x hx),?_,?_,?_,?_,h.ownkeys,h.sep,?_,h.one,?_,?_⟩
 ·intro x hx
  rcases Dq hx h.keys with ⟨h1,h2,_⟩|⟨h1,h2⟩
  ·refine ⟨h1▸hlt,vs,ty0,?_,by rw [h2];exact hs,fun j y hj=>mv _ _ (hd j y (by rw [←h2];exact hj))⟩
   rw [h1]
   exact setRow_heap w _ vs0 vs ty0 (0,0) hh0
  obtain ⟨g1,vs',ty',g2,g3,g4⟩:=h.boxes x h1
  refine ⟨g1,vs',ty',?_,g3,fun j y hj=>mv _ _ (g4 j y hj)⟩
  rw [E3 w _ _ _ (fun e=>h2 (h.boxes2 x h1 b hm e))]
  exact g2
 ·intro x hx y hy he
  rcases Dq hx h.keys with ⟨h1,_⟩|⟨h1,h2⟩<;>rcases Dq hy h.keys with ⟨g1,_⟩|⟨g1,g2⟩
  ·rw [h1,g1]
  ·rw [h1] at he ⊢
   exact h.boxes2 b hm y g1 he
  ·rw [g1] at he ⊢
   exact h.boxes2 x h1 b hm he
  exact h.boxes2 x h1 y g1 he
 ·show ((E8 s.boxes b.key cells).map (·.key)).Nodup
  rw [K1]
  exact h.keys
 ·intro y hy
  obtain ⟨g1,g2,g3⟩:=h.own y hy
  refine ⟨g1,g2.move (fun c hc=>E3 w _ _ _ (fun e=>?_)),g3⟩
  exact h.sepB b hm y hy (e▸hc)
 ·intro x hx y hy
  rcases Dq hx h.keys with ⟨h1,_⟩|⟨h1,_⟩
  ·rw [h1];exact h.sepB b hm y hy
  exact h.sepB x h1 y hy
 ·refine ⟨h.base.os,h.base.tape,h.base.output,by simpa using h.base.size,fun k hk hm'=>?_,h.base.drawn⟩
  have hne:k≠E.β b.key:=by
   intro e
   rcases h.fresh _ hav with h1|h1
   ·omega
   exact hm' (e▸h1)
  rw [E3 w _ _ _ hne]
  exact h.base.block k hk hm'
 intro c hc
 exact h.fresh c ((av c).1 hc)
theorem Oh (l:List AV)(off:Nat)(xs:List AV):(L5 l off xs).length=l.length:=by
 induction xs generalizing l off with
 |nil=>rfl
 |cons x r ih=>simp [L5,ih,Ci]
theorem A3q (l:List AV)(off:Nat)(xs:List AV)(j:Nat):(L5 l off xs)[j]? =if off≤j∧j<off+xs.length∧j<l.length then xs[j-off]? else l[j]? :=by
 induction xs generalizing l off with
 |nil=>simp [L5];intro h1 h2;omega
 |cons x r ih=>
  simp only [L5,ih,Ci,Dh,List.length_cons]
  by_cases h1:off=j
  ·subst h1
   by_cases hl:off<l.length
   ·rw [if_neg Ab,if_pos ⟨rfl,hl⟩,if_pos Ab];simp
   rw [if_neg Ab,if_neg Ab,if_neg Ab]
  by_cases h2:off+1≤j∧j<off+1+r.length∧j<l.length
  ·rw [if_pos h2,if_pos Ab]
   obtain ⟨m,rfl⟩:∃m,j=off+1+m:=⟨j-(off+1),by omega⟩
   simp [show off+1+m-off=m+1 by omega]
  rw [if_neg h2,if_neg Ab,if_neg Ab]
end Go.Sx
namespace Go.Sx
variable {P : Program} {T : List (TypeId × TI)}
def W3 (ks:List CK) (xs ys:List Value):Option Bool:=
 match ks,xs,ys with
 | [],[],[]=>some true
 | .int k::ks,.int i a::xs,.int j b::ys=>
  match Ii i k,Ii j k with
  |true,true=>Zy (a==b) (W3 ks xs ys)
  |_,_=>none
 | .bool::ks,.bool a::xs,.bool b::ys=>Zy (a==b) (W3 ks xs ys)
 |_,_,_=>none
theorem Nq {a:Bool}{o:Option Bool}{r:Bool}(h:Zy a o=some r):∃b,o=some b∧r=(a&&b):=by
 unfold Zy at h
 split at h
 ·rename_i b;exact ⟨b,rfl,by simpa using h.symm⟩
 simp at h
theorem Kj {ks:List CK}{xs ys:List Value}{r:Bool}(h:W3 ks xs ys=some r):
  (ks=[]∧xs=[]∧ys=[]∧r=true)∨(∃k a b ks' xs' ys' q,ks= .int k::ks'∧xs= .int k a::xs'∧ys= .int k b::ys'∧W3 ks' xs' ys'=some q∧r=(a==b&&q))∨
  (∃a b ks' xs' ys' q,ks= .bool::ks'∧xs= .bool a::xs'∧ys= .bool b::ys'∧W3 ks' xs' ys'=some q∧r=(a==b&&q)):=by
 unfold W3 at h
 split at h
 ·exact .inl ⟨rfl,rfl,rfl,by simpa using h.symm⟩
 ·rename_i k ks i a xs j b ys
  split at h
  ·rename_i h1 h2
   obtain rfl:i=k:=by simpa [Ii] using h1
   obtain rfl:j=i:=by simpa [Ii] using h2
   obtain ⟨q,hq,rfl⟩:=Nq h
   exact .inr (.inl ⟨j,a,b,ks,xs,ys,q,rfl,rfl,rfl,hq,rfl⟩)
  simp at h
 ·rename_i ks a xs b ys
  obtain ⟨q,hq,rfl⟩:=Nq h
  exact .inr (.inr ⟨a,b,ks,xs,ys,q,rfl,rfl,rfl,hq,rfl⟩)
 simp at h
theorem A4k {k:IntKind}{a b:Int}{ks:List CK}{xs ys:List Value}{q:Bool}(h:W3 ks xs ys=some q):W3 (.int k::ks) (.int k a::xs) (.int k b::ys)=some (a==b&&q):=by
 simp [W3,Ii,h,Zy]
theorem A0k {a b:Bool}{ks:List CK}{xs ys:List Value}{q:Bool}(h:W3 ks xs ys=some q):W3 (.bool::ks) (.bool a::xs) (.bool b::ys)=some (a==b&&q):=by
 simp [W3,h,Zy]
theorem A2m {ks:List CK}{xs ys:List Value}{r:Bool}(h:W3 ks xs ys=some r):xs.length=ks.length∧ys.length=ks.length:=by
 induction ks generalizing xs ys r with
 |nil=>
  rcases Kj h with ⟨_,rfl,rfl,_⟩|⟨_,_,_,_,_,_,_,h,_⟩|⟨_,_,_,_,_,_,h,_⟩<;>simp_all
 |cons c ks ih=>
  rcases Kj h with ⟨h,_⟩|⟨k,a,b,ks',xs',ys',q,e,rfl,rfl,hq,_⟩|⟨a,b,ks',xs',ys',q,e,rfl,rfl,hq,_⟩
  ·simp at h
  ·simp only [List.cons.injEq] at e;obtain ⟨_,rfl⟩:=e;have:=ih hq;simp [this]
  simp only [List.cons.injEq] at e;obtain ⟨_,rfl⟩:=e;have:=ih hq;simp [this]
theorem A6e {ks js:List CK}{xs ys:List Value}{r:Bool}(h:W3 (ks++js) xs ys=some r):
  ∃r1 r2,W3 ks (xs.take ks.length) (ys.take ks.length)=some r1∧W3 js (xs.drop ks.length) (ys.drop ks.length)=some r2∧r=(r1&&r2):=by
 induction ks generalizing xs ys r with
 |nil=>exact ⟨true,r,by simp [W3],by simpa using h,by simp⟩
 |cons c ks ih=>
  rcases Kj h with ⟨h,_⟩|⟨k,a,b,ks',xs',ys',q,e,rfl,rfl,hq,rfl⟩|⟨a,b,ks',xs',ys',q,e,rfl,rfl,hq,rfl⟩
  ·simp at h
  ·simp only [List.cons_append,List.cons.injEq] at e
   obtain ⟨rfl,rfl⟩:=e
   obtain ⟨r1,r2,h1,h2,rfl⟩:=ih hq
   exact ⟨a==b&&r1,r2,by simpa using A4k h1,by simpa using h2,by simp [Bool.and_assoc]⟩
  simp only [List.cons_append,List.cons.injEq] at e
  obtain ⟨rfl,rfl⟩:=e
  obtain ⟨r1,r2,h1,h2,rfl⟩:=ih hq
  exact ⟨a==b&&r1,r2,by simpa using A0k h1,by simpa using h2,by simp [Bool.and_assoc]⟩
theorem Bn {E:Cz}{w:World}{A:Nat→Prop}{N:Nat}{x v:Value}(h:Cu E w A N (.v x) v):v=x:=by
 cases h with|c h=>cases h;rfl
theorem A0i {ks:List CK}{xs ys:List AV}{r:Bool}(h:W2 ks xs ys=some r):
  (ks=[]∧xs=[]∧ys=[]∧r=true)∨(∃k a b ks' xs' ys' q,ks= .int k::ks'∧xs= .v (.int k a)::xs'∧ys= .v (.int k b)::ys'∧W2 ks' xs' ys'=some q∧r=(a==b&&q))∨
  (∃a b ks' xs' ys' q,ks= .bool::ks'∧xs= .v (.bool a)::xs'∧ys= .v (.bool b)::ys'∧W2 ks' xs' ys'=some q∧r=(a==b&&q)):=by
 unfold W2 at h
 split at h
 ·exact .inl ⟨rfl,rfl,rfl,by simpa using h.symm⟩
 ·rename_i k ks i a xs j b ys
  split at h
  ·rename_i h1 h2
   obtain rfl:i=k:=by simpa [Ii] using h1
   obtain rfl:j=i:=by simpa [Ii] using h2
   obtain ⟨q,hq,rfl⟩:=Nq h
   exact .inr (.inl ⟨j,a,b,ks,xs,ys,q,rfl,rfl,rfl,hq,rfl⟩)
  simp at h
 ·rename_i ks a xs b ys
  obtain ⟨q,hq,rfl⟩:=Nq h
  exact .inr (.inr ⟨a,b,ks,xs,ys,q,rfl,rfl,rfl,hq,rfl⟩)
 simp at h
theorem A6d {E:Cz}{w:World}{A:Nat→Prop}{N:Nat}{ks:List CK}{xs ys:List AV}{r:Bool}(h:W2 ks xs ys=some r){us vs:List Value}
  (lu:us.length=xs.length)(lv:vs.length=ys.length)
  (hx:∀i x,xs[i]? =some x→Cu E w A N x (us.getD i undef))(hy:∀i y,ys[i]? =some y→Cu E w A N y (vs.getD i undef)):
  W3 ks us vs=some r:=by
 induction ks generalizing xs ys us vs r with
 |nil=>
  rcases A0i h with ⟨_,rfl,rfl,rfl⟩|⟨_,_,_,_,_,_,_,h,_⟩|⟨_,_,_,_,_,_,h,_⟩
  ·obtain rfl:=List.eq_nil_of_length_eq_zero lu
   obtain rfl:=List.eq_nil_of_length_eq_zero lv
   rfl
  ·simp at h
  simp at h
 |cons c ks ih=>
  have step:∀{x y:AV} {xs' ys':List AV} {u v:Value} {us' vs':List Value} {q:Bool},xs=x::xs'→ys=y::ys'→us=u::us'→vs=v::vs'→W2 ks xs' ys'=some q→
    Cu E w A N x u∧Cu E w A N y v∧W3 ks us' vs'=some q:=by
   rintro x y xs' ys' u v us' vs' q rfl rfl rfl rfl hq
   refine ⟨by simpa using hx 0 _ rfl,by simpa using hy 0 _ rfl,ih hq (by simpa using lu) (by simpa using lv) (fun i x hi=>by simpa using hx (i+1) x (by simpa using hi)) (fun i x hi=>by simpa using hy (i+1) x (by simpa using hi))⟩
  have ex:∀{α:Type} {l:List Value} {x:α} {m:List α},l.length=(x::m).length→∃u us',l=u::us':=by
   intro α l x m h
   cases l with
   |nil=>simp at h
   |cons u us'=>exact ⟨u,us',rfl⟩
  rcases A0i h with ⟨h,_⟩|⟨k,a,b,ks',xs',ys',q,e,e1,e2,hq,rfl⟩|⟨a,b,ks',xs',ys',q,e,e1,e2,hq,rfl⟩
  ·simp at h
  ·simp only [List.cons.injEq] at e
   obtain ⟨rfl,rfl⟩:=e
   obtain ⟨u,us',eu⟩:=ex (by rw [lu,e1])
   obtain ⟨v,vs',ev⟩:=ex (by rw [lv,e2])
   obtain ⟨d1,d2,hq'⟩:=step e1 e2 eu ev hq
   obtain rfl:=Bn d1
   obtain rfl:=Bn d2
   rw [eu,ev]
   exact A4k hq'
  simp only [List.cons.injEq] at e
  obtain ⟨rfl,rfl⟩:=e
  obtain ⟨u,us',eu⟩:=ex (by rw [lu,e1])
  obtain ⟨v,vs',ev⟩:=ex (by rw [lv,e2])
  obtain ⟨d1,d2,hq'⟩:=step e1 e2 eu ev hq
  obtain rfl:=Bn d1
  obtain rfl:=Bn d2
  rw [eu,ev]
  exact A0k hq'
def Mr (P:Program) (t:TypeId) (us:List Value):Value:=
 match (P.underlying t).map Gt with
 |some true=> .agg us.toArray
 |_=>us.getD 0 undef
theorem V2 (t:TypeId)(us:List Value)(off:Nat)(w:World)(hd:(P.underlying t).isSome=true)(hi:(P.info? t).isSome=true)(hl:off+P.cellsOf t≤us.length)(h1:0<P.cellsOf t):
  (part t us.toArray off).run P w= .ok (Mr P t ((us.drop off).take (P.cellsOf t))) w:=by
 obtain ⟨d,hd⟩:=Option.isSome_iff_exists.1 hd
 obtain ⟨i,hi⟩:=Option.isSome_iff_exists.1 hi
 have hs:P.cellsOf t=i.size:=by simp [Program.cellsOf,hi]
 have hag:∀w,(isAgg t).run P w= .ok (Gt d) w:=by intro w;cases d<;>simp [isAgg,run_underlying hd,Gt]
 simp only [part,Sem.run_bind,hag,Result.andThen_ok,Mr,hd,Option.map_some]
 cases hda:Gt d with
 |true=>
  simp only [if_true,Sem.run_bind,sizeOf,typeInfo,run_program,Result.andThen_ok,hi,Sem.run_pure,hs]
  congr 2
  apply Array.ext'
  simp [List.extract_eq_take_drop]
 |false=>
  have:off<us.length:=by omega
  simp only [Bool.false_eq_true,if_false]
  rw [show us.toArray[off]? =some us[off] by simp [this]]
  simp [List.getD,h1,this]
structure A7v (P:Program) (d:Nat) (t:TypeId) (ks:List CK):Prop where
 len:ks.length=P.cellsOf t
 info:(P.info? t).isSome=true
 pos:0<ks.length
 desc:P.underlying t=some (.int (match ks with| [.int k]=>k|_=> .i64))∧(∃k,ks=[.int k])∨(P.underlying t=some .bool∧ks=[.bool])∨
  ∃fs,P.underlying t=some (.struct fs)∧P.stoodInHeld t=false∧Wy (Kk P d) fs.toList 0=some ks
theorem Lt {d:Nat}{t:TypeId}{ks:List CK}(h:Kk P (d+1) t=some ks):A7v P d t ks:=by
 unfold Kk at h
 split at h
 ·rename_i js hj
  split at h
  ·rename_i h1 h2 h3
   obtain rfl:=Option.some.inj h
   refine ⟨Nat.eq_of_beq_eq_true h1,h2,Nat.le_of_ble_eq_true h3,?_⟩
   split at hj
   ·rename_i k hk
    obtain rfl:=Option.some.inj hj
    exact .inl ⟨hk,k,rfl⟩
   ·rename_i hk
    obtain rfl:=Option.some.inj hj
    exact .inr (.inl ⟨hk,rfl⟩)
   ·rename_i fs hk
    split at hj
    ·simp at hj
    rename_i hs
    exact .inr (.inr ⟨fs,hk,hs,hj⟩)
   simp at hj
  simp at h
 simp at h
theorem B2b:∀(d:Nat) (t:TypeId) (ks:List CK),Kk P d t=some ks→∀(us vs:List Value) (r:Bool),W3 ks us vs=some r→∀(m:Nat),d≤m→∀w,
  (Op.equalIn m t (Mr P t us) (Mr P t vs)).run P w= .ok r w:=by
 intro d
 induction d with
 |zero=>intro t ks h;simp [Kk] at h
 |succ d ih=>
  intro t ks h us vs r he m hm w
  obtain ⟨m,rfl⟩:∃k,m=k+1:=⟨m-1,by omega⟩
  have S:=Lt h
  rcases S.desc with ⟨hk,k,rfl⟩|⟨hk,rfl⟩|⟨fs,hk,hst,hf⟩
  ·rcases Kj he with ⟨h,_⟩|⟨k',a,b,ks',xs',ys',q,e,rfl,rfl,hq,rfl⟩|⟨a,b,ks',xs',ys',q,e,_⟩
   ·simp at h
   ·simp only [List.cons.injEq,CK.int.injEq] at e
    obtain ⟨rfl,rfl⟩:=e
    rcases Kj hq with ⟨_,rfl,rfl,rfl⟩|⟨_,_,_,_,_,_,_,h,_⟩|⟨_,_,_,_,_,_,h,_⟩
    ·simp only [Mr,hk,Option.map_some,Gt,List.getD_cons_zero]
     rw [run_equalIn_int w m t k k a b hk]
     simp
    ·simp at h
    simp at h
   simp at e
  ·rcases Kj he with ⟨h,_⟩|⟨k',a,b,ks',xs',ys',q,e,_⟩|⟨a,b,ks',xs',ys',q,e,rfl,rfl,hq,rfl⟩
   ·simp at h
   ·simp at e
   simp only [List.cons.injEq] at e
   obtain ⟨_,rfl⟩:=e
   rcases Kj hq with ⟨_,rfl,rfl,rfl⟩|⟨_,_,_,_,_,_,_,h,_⟩|⟨_,_,_,_,_,_,h,_⟩
   ·simp only [Mr,hk,Option.map_some,Gt,List.getD_cons_zero]
    rw [run_equalIn_bool' w m t a b hk]
    simp
   ·simp at h
   simp at h
  have hfo:P.fieldsOf t=fs:=by simp [Program.fieldsOf,hk]
  have key:∀(l:List Field) (off:Nat) (js:List CK) (q:Bool),Wy (Kk P d) l off=some js→W3 js (us.drop off) (vs.drop off)=some q→∀w,
    (Op.eqFields m us.toArray vs.toArray l).run P w= .ok q w:=by
   intro l
   induction l with
   |nil=>
    intro off js q hj hq w
    obtain rfl:[]=js:=by simpa [Wy] using hj
    rcases Kj hq with ⟨_,_,_,rfl⟩|⟨_,_,_,_,_,_,_,h,_⟩|⟨_,_,_,_,_,_,h,_⟩
    ·simp [Op.eqFields]
    ·simp at h
    simp at h
   |cons f l ihl=>
    intro off js q hj hq w
    unfold Wy at hj
    split at hj
    ·rename_i hnm hof
     obtain rfl:=Nat.eq_of_beq_eq_true hof
     split at hj
     ·rename_i k1 hk1
      split at hj
      ·rename_i k2 hk2
       obtain rfl:=Option.some.inj hj
       obtain ⟨r1,r2,h1,h2,rfl⟩:=A6e hq
       simp only [List.drop_drop] at h2
       obtain ⟨dd,rfl⟩:∃dd,d=dd+1:=by
        cases d with
        |zero=>simp [Kk] at hk1
        |succ dd=>exact ⟨dd,rfl⟩
       have S1:=Lt hk1
       have hund:(P.underlying f.type).isSome=true:=by
        rcases S1.desc with ⟨h,_⟩|⟨h,_⟩|⟨_,h,_⟩<;>simp [h]
       have l1:=A2m h1
       have hp:=S1.pos
       simp only [List.length_take,List.length_drop] at l1
       have hne:f.name≠ "_" :=by simpa using hnm
       have p1:=V2 (P:=P) f.type us f.offset w hund S1.info (by rw [←S1.len];omega) (by rw [←S1.len];omega)
       have p2:=V2 (P:=P) f.type vs f.offset w hund S1.info (by rw [←S1.len];omega) (by rw [←S1.len];omega)
       rw [←S1.len] at p1 p2
       have p3:=ih f.type k1 hk1 _ _ r1 h1 m Ab w
       simp only [Op.eqFields,hne,ne_eq,not_false_eq_true,if_true,Sem.run_bind,p1,p2,p3,Result.andThen_ok,Sem.run_ite,Sem.run_pure]
       cases r1 with
       |true=>simpa using ihl _ _ _ hk2 h2 w
       |false=>simp
      simp at hj
     simp at hj
    simp at hj
  have:=key fs.toList 0 ks r hf (by simpa using he) w
  simp only [Mr,hk,Option.map_some,Gt]
  rw [run_equalIn_struct w m t us.toArray vs.toArray (by rw [hfo];exact hk) hst,hfo]
  exact this
end Go.Sx
namespace Go.Sx
variable {P : Program} {T : List (TypeId × TI)}
theorem Gw {k:IntKind}{n:Int}(h:Et k n):k.wrap n=n:=by
 cases k<;>simp only [Et] at h<;>simp only [IntKind.wrap,IntKind.bits,IntKind.signed]<;>simp<;>omega
theorem Ki (op:BinOp)(t:TypeId)(x y:Operand)(k j:IntKind)(a b:Int)(w:World):(eqGuard op t x y (.int k a) (.int j b)).run P w= .ok () w:=by
 cases op<;>simp [eqGuard]
theorem Py (op:BinOp)(t:TypeId)(x y:Operand)(a b:Bool)(w:World):(eqGuard op t x y (.bool a) (.bool b)).run P w= .ok () w:=by
 cases op<;>simp [eqGuard]
theorem A0j (op:BinOp)(t:TypeId)(x y:Operand)(a b:ByteArray)(w:World):(eqGuard op t x y (.string a) (.string b)).run P w= .ok () w:=by
 cases op<;>simp [eqGuard]
theorem A8e (hT:Cn P T){wr:Bool}{op:BinOp}{t:TypeId}{x y z:AV}{ps:List Prop}(hs:Tg wr T op t x y= .ok ps z)(hp:∀p∈ps,p)
  {E:Cz}{w:World}{A:Nat→Prop}{N:Nat}{u v:Value}(hu:Cu E w A N x u)(hv:Cu E w A N y v)(ox oy:Operand):
  ∃r,(∀w,(do eqGuard op t ox oy u v;binOp op t u v:Sem Value).run P w= .ok r w)∧Cu E w A N z r:=by
 have den:∀(r:Value),r.oneCell'=true→Cu E w A N (.v r) r:=fun r h=> .c (.val r h)
 unfold Tg at hs
 split at hs
 ·rename_i k a j b
  obtain rfl:=Bn hu
  obtain rfl:=Bn hv
  split at hs
  ·simp at hs
  rename_i hk
  obtain rfl:k=j:=by simpa [Ii] using hk
  have hb:binOp op t (.int k a) (.int k b)=(match op with
    | .shl=>Op.shift .shl k a k b| .shr=>Op.shift .shr k a k b
    | .add| .sub| .mul=>Op.intArith op k a b
    | .quo| .rem=>Op.intDiv op k a b
    | .and| .or| .xor| .andNot=>Op.intBits op k a b
    |_=>Op.intCmp op a b):=by cases op<;>simp [binOp]
  cases op<;>simp only [reduceCtorEq] at hs<;>simp only [Sem.run_bind,Ki,Result.andThen_ok,hb]<;>
   first
    |(simp only [Ec.ok.injEq] at hs;obtain ⟨rfl,rfl⟩:=hs;refine ⟨_,fun _=>rfl,den _ rfl⟩)
    |skip
  ·cases wr<;>simp only [Ec.ok.injEq] at hs<;>obtain ⟨rfl,rfl⟩:=hs
   ·have h1:Et k (a+b):=hp _ Cg
    exact ⟨.int k (a+b),fun _=>by simp [Op.intArith,Gw h1],den _ rfl⟩
   exact ⟨.int k (k.wrap (a+b)),fun _=>by simp [Op.intArith],den _ rfl⟩
  ·cases wr<;>simp only [Ec.ok.injEq] at hs<;>obtain ⟨rfl,rfl⟩:=hs
   ·have h1:Et k (a-b):=hp _ Cg
    exact ⟨.int k (a-b),fun _=>by simp [Op.intArith,Gw h1],den _ rfl⟩
   exact ⟨.int k (k.wrap (a-b)),fun _=>by simp [Op.intArith],den _ rfl⟩
  ·cases wr<;>simp only [Ec.ok.injEq] at hs<;>obtain ⟨rfl,rfl⟩:=hs
   ·have h1:Et k (a * b):=hp _ Cg
    exact ⟨.int k (a * b),fun _=>by simp [Op.intArith,Gw h1],den _ rfl⟩
   exact ⟨.int k (k.wrap (a * b)),fun _=>by simp [Op.intArith],den _ rfl⟩
  ·simp only [Ec.ok.injEq] at hs
   obtain ⟨rfl,rfl⟩:=hs
   have h1:b≠0:=hp _ Cg
   have h2:Et k (a.tdiv b):=hp _ Cg
   exact ⟨.int k (a.tdiv b),fun _=>by simp [Op.intDiv,h1,Gw h2],den _ rfl⟩
  simp only [Ec.ok.injEq] at hs
  obtain ⟨rfl,rfl⟩:=hs
  have h1:b≠0:=hp _ Cg
  exact ⟨.int k (a.tmod b),fun _=>by simp [Op.intDiv,h1],den _ rfl⟩
 ·rename_i a b
  obtain rfl:=Bn hu
  obtain rfl:=Bn hv
  have hb:binOp op t (.string a) (.string b)=Op.stringOp op a b:=by cases op<;>simp [binOp]
  cases op<;>simp only [reduceCtorEq] at hs<;>simp only [Sem.run_bind,A0j,Result.andThen_ok,hb]<;>simp only [Ec.ok.injEq] at hs<;>obtain ⟨rfl,rfl⟩:=hs
  ·have h1:a.size+b.size≤9223372036854775807:=hp _ Cg
   have h2:¬ (((a.size+b.size:Nat):Int)>IntKind.i64.max):=by
    simp only [IntKind.max,IntKind.signed,IntKind.bits]
    simp
    omega
   refine ⟨.string (a++b),?_,den _ rfl⟩
   simp only [Op.stringOp,if_neg h2]
   exact fun _=>rfl
  ·exact ⟨.bool (a==b),fun _=>by rw [beq_toListBytes];rfl,den _ rfl⟩
  exact ⟨.bool !(a==b),fun _=>by rw [beq_toListBytes];rfl,den _ rfl⟩
 ·rename_i a b
  obtain rfl:=Bn hu
  obtain rfl:=Bn hv
  have hfl:A8g T t=true→P.underlying t=some .bool:=by
   intro h
   unfold A8g at h
   split at h
   ·rename_i i hi
    split at h
    ·rename_i hag hf
     obtain ⟨f,d,z,S⟩:=TI.of_spec (hT t i hi)
     have:=S.flat
     rw [hf] at this
     split at this
     ·simp at this
     have:=Lt this.symm
     rcases this.desc with ⟨_,k,h⟩|⟨h,_⟩|⟨fs,h,_,_⟩
     ·simp at h
     ·exact h
     have e:=S.hd.symm.trans h
     simp only [Option.some.injEq] at e
     subst e
     rw [S.agg] at hag
     simp [Gt] at hag
    simp at h
   simp at h
  split at hs
  ·rename_i hf
   simp only [Ec.ok.injEq] at hs
   obtain ⟨rfl,rfl⟩:=hs
   refine ⟨.bool (a==b),fun w=>?_,den _ rfl⟩
   simp [Py,binOp,Op.equal,Op.maxDepth,run_equalIn_bool' w 9999 t a b (hfl hf)]
  ·rename_i hf
   simp only [Ec.ok.injEq] at hs
   obtain ⟨rfl,rfl⟩:=hs
   refine ⟨.bool !(a==b),fun w=>?_,den _ rfl⟩
   simp [Py,binOp,Op.equal,Op.maxDepth,run_equalIn_bool' w 9999 t a b (hfl hf)]
  simp at hs
 ·rename_i xs ys
  split at hs
  ·rename_i ks hf
   unfold B3x at hf
   split at hf
   ·rename_i i hi
    split at hf
    ·rename_i hag
     obtain ⟨f,d,z,S⟩:=TI.of_spec (hT t i hi)
     have hfl:=S.flat
     rw [hf] at hfl
     have hd:Gt d=true:=by rw [←S.agg];exact hag
     split at hfl
     ·simp at hfl
     rename_i hg
     cases hu with
     |agg us lu hu=>
      cases hv with
      |agg vs lv hv=>
       have gd:∀w,(eqGuard op t ox oy (.agg us.toArray) (.agg vs.toArray)).run P w= .ok () w:=fun w=>run_eqGuard_agg w op t ox oy _ _ hg
       have hval:∀us:List Value,Mr P t us= .agg us.toArray:=by
        intro us
        simp [Mr,S.hd,hd]
       have main:∀r w,W2 ks xs ys=some r→(Op.equalIn 10000 t (.agg us.toArray) (.agg vs.toArray)).run P w= .ok r w:=by
        intro r w hr
        have:=B2b 10 t ks hfl.symm us vs r (A6d hr lu lv hu hv) 10000 Ab w
        rwa [hval us,hval vs] at this
       split at hs
       ·rename_i r hr
        simp only [Ec.ok.injEq] at hs
        obtain ⟨rfl,rfl⟩:=hs
        refine ⟨.bool r,fun w=>?_,den _ rfl⟩
        simp only [Sem.run_bind,gd,Result.andThen_ok,run_eql_struct,main r w hr]
       ·rename_i r hr
        simp only [Ec.ok.injEq] at hs
        obtain ⟨rfl,rfl⟩:=hs
        refine ⟨.bool !r,fun w=>?_,den _ rfl⟩
        simp only [Sem.run_bind,gd,Result.andThen_ok,run_neq_struct,main r w hr]
       simp at hs
    simp at hf
   simp at hf
  simp at hs
 simp at hs
end Go.Sx
namespace Go.Sx
variable {P : Program} {T : List (TypeId × TI)}
theorem Q0 (hT:Cn P T){t:TypeId}{f o:Nat}{u:TypeId}(h:Pz T t f=some (o,u)):
  ∃fs F,P.underlying t=some (.struct fs)∧fs[f]? =some F∧F.offset=o∧F.type=u:=by
 unfold Pz at h
 split at h
 ·rename_i i hi
  obtain ⟨g,d,z,S⟩:=TI.of_spec (hT t i hi)
  rw [S.fields] at h
  have hd:=S.hd
  cases d<;>simp only [List.getElem?_nil,reduceCtorEq] at h
  rename_i fs
  simp only [List.getElem?_map,Option.map_eq_some_iff,Prod.mk.injEq,Array.getElem?_toList] at h
  obtain ⟨F,hF,h1,h2⟩:=h
  exact ⟨fs,F,hd,hF,h1,h2⟩
 simp at h
theorem A86 (hT:Cn P T){u:TypeId}{j:TI}{k:IntKind}(hj:E9 T u=some j)(ha:j.agg=false)(hf:j.flat=some [.int k]):P.underlying u=some (.int k):=by
 obtain ⟨f,d,z,S⟩:=TI.of_spec (hT u j hj)
 have:=S.flat
 rw [hf] at this
 split at this
 ·simp at this
 have:=Lt this.symm
 rcases this.desc with ⟨h,_⟩|⟨h,h'⟩|⟨fs,h,_,_⟩
 ·exact h
 ·simp at h'
 have e:=S.hd.symm.trans h
 simp only [Option.some.injEq] at e
 subst e
 rw [S.agg] at ha
 simp [Gt] at ha
theorem Hq (hT:Cn P T){t:TypeId}{f o:Nat}{u:TypeId}{j:TI}(h:Pz T t f=some (o,u))(hj:E9 T u=some j)(hp:0<j.size)(b off:Nat)(w:World):
  (Instr.fieldAt t (.pointer (some ⟨b,off,none⟩)) f).run P w= .ok (.pointer (some ⟨b,off+o,none⟩)) w:=by
 obtain ⟨fs,F,h1,h2,h3,h4⟩:=Q0 hT h
 subst h3 h4
 have hs:=C6 (hT _ _ hj) w
 have:j.size≠0:=by omega
 simp [Instr.fieldAt,run_underlying h1,h2,Instr.sureAddr,fieldPlace,hs,this,Hx]
def DL (E:Cz) (w:World) (A:Nat→Prop) (N:Nat) (acc:List AV) (cs:Array Value):Prop:=
 cs.size=acc.length∧∀i y,acc[i]? =some y→Cu E w A N y (cs.getD i undef)
theorem DL.set {E:Cz}{w:World}{A:Nat→Prop}{N:Nat}{acc:List AV}{cs:Array Value}(h:DL E w A N acc cs)(p:Nat){x:AV}{v:Value}(hx:Cu E w A N x v):
  DL E w A N (Cm acc p x) (cs.setIfInBounds p v):=by
 refine ⟨by simp [Ci,h.1],fun i y hy=>?_⟩
 rw [Dh] at hy
 by_cases hi:p=i∧i<acc.length
 ·rw [if_pos hi] at hy
  obtain rfl:=Option.some.inj hy
  obtain ⟨rfl,hl⟩:=hi
  have:p<cs.size:=by rw [h.1];exact hl
  simpa [Array.getD,this] using hx
 rw [if_neg hi] at hy
 have hl:i<acc.length:=(List.getElem?_eq_some_iff.1 hy).1
 have hne:p≠i:=fun e=>hi ⟨e,hl⟩
 have:i<cs.size:=by rw [h.1];exact hl
 have:=h.2 i y hy
 simpa [Array.getD,‹i<cs.size›,Array.getElem_setIfInBounds,hne] using this
theorem DL.fold {E:Cz}{w:World}{A:Nat→Prop}{N:Nat}(off:Nat):∀(vs:List Value) (xs:List AV) (k:Nat) (acc:List AV) (cs:Array Value),DL E w A N acc cs→
  vs.length=xs.length→(∀i x,xs[i]? =some x→Cu E w A N x (vs.getD i undef))→
  DL E w A N (L5 acc (off+k) xs) ((vs.zipIdx k).foldl (fun cs (p:Value×Nat)=>cs.setIfInBounds (off+p.2) p.1) cs):=by
 intro vs
 induction vs with
 |nil=>
  intro xs k acc cs h hl _
  obtain rfl:=List.eq_nil_of_length_eq_zero hl.symm
  exact h
 |cons v vs ih=>
  intro xs k acc cs h hl hx
  match xs,hl with
  |x::xs,hl=>
   simp only [List.zipIdx_cons,List.foldl_cons,L5]
   have:=ih xs (k+1) _ _ (h.set (off+k) (by simpa using hx 0 x rfl)) (by simpa using hl) (fun i x hi=>by simpa using hx (i+1) x (by simpa using hi))
   simpa [Nat.add_assoc] using this
theorem Yc (_hT:Cn P T){B:B0}{E:Cz}{s:AS}{a:Act}{w:World}(h:s.is B E a w)(fields:List (Nat×TypeId))(place:Nat→Option (Nat×Nat))
  (hpl:∀k o u,fields[k]? =some (o,u)→∀j,E9 T u=some j→place k=some (o,j.size)):∀(ps:List (Nat×Operand)) (acc:List AV) (cs:Array Value) (out:List AV),
  Ls T fields s ps acc=some out→DL E w (s.avoid E) s.next acc cs→
  ∃cs',Instr.fill place cs (ps.map fun p=>(p.1,a.eval p.2))=some cs'∧DL E w (s.avoid E) s.next out cs':=by
 intro ps
 induction ps with
 |nil=>
  intro acc cs out ho hd
  obtain rfl:=Option.some.inj ho
  exact ⟨cs,rfl,hd⟩
 |cons p ps ih=>
  intro acc cs out ho hd
  obtain ⟨f,x⟩:=p
  unfold Ls at ho
  split at ho
  ·simp at ho
  rename_i off u hf
  split at ho
  ·simp at ho
  rename_i j hj
  split at ho
  ·rename_i hc
   simp only [Bool.and_eq_true] at hc
   obtain ⟨⟨h1,h2⟩,h3⟩:=hc
   have h1:=Nat.eq_of_beq_eq_true h1
   have h2:=Nat.le_of_ble_eq_true h2
   obtain ⟨c1,c2,c3⟩:=Kh (h.ev x) h3 h.one
   have hp:=hpl f off u hf j hj
   have hsz:(a.eval x).cells.size=j.size:=by rw [c1,h1]
   have hfit:¬ (off+(a.eval x).cells.size>cs.size):=by rw [hd.1,hsz];omega
   have hd2:=DL.fold (E:=E) (w:=w) (A:=s.avoid E) (N:=s.next) off (a.eval x).cells.toList (s.ev x).cellsOf 0 acc cs hd (by simpa using c1) (fun i y hi=>by rw [C2];exact c2 i y hi)
   obtain ⟨cs',e,hd'⟩:=ih _ _ out ho hd2
   refine ⟨cs',?_,hd'⟩
   simp only [List.map_cons,Instr.fill,hp]
   rw [if_neg (by simp [hsz];rw [←hsz];omega)]
   rw [←e]
   congr 1
   rw [←Array.foldl_toList,Array.toList_zipIdx]
  simp at ho
end Go.Sx
namespace Go.Sx
variable {P : Program} {T : List (TypeId × TI)}
theorem A0x (P:Program)(w:World)(g:Field→Sem (Nat×Nat)):∀(fs:List Field),(∀F∈fs,(g F).run P w= .ok (F.offset,P.cellsOf F.type) w)→
  (fs.mapM g).run P w= .ok (fs.map fun F=>(F.offset,P.cellsOf F.type)) w:=by
 intro fs
 induction fs with
 |nil=>intro _;rfl
 |cons F fs ih=>
  intro h
  simp only [List.mapM_cons,Sem.run_bind,h F Cg,ih (fun G hG=>h G (by simp [hG])),Result.andThen_ok,Sem.run_pure,List.map_cons]
theorem Is {l:List Value}(h:Ft l=true):∀v∈l,v.oneCell'=true:=by
 induction l with
 |nil=>simp
 |cons v l ih=>
  intro u hu
  rcases List.mem_cons.1 hu with rfl|hu
  ·cases u<;>first|rfl|simp [Ft] at h
  refine ih ?_ u hu
  cases v<;>first|exact h|simp [Ft] at h
theorem A2d {l:List (Nat×TypeId)}(h:A39 T l=true):∀p∈l,∃j,E9 T p.2=some j:=by
 induction l with
 |nil=>simp
 |cons p l ih=>
  obtain ⟨o,u⟩:=p
  unfold A39 at h
  split at h
  ·rename_i j hj
   intro q hq
   rcases List.mem_cons.1 hq with rfl|hq
   ·exact ⟨j,hj⟩
   exact ih h q hq
  simp at h
theorem Ox {u:TypeId}{j:TI}(h:TI.of P u=some j):P.cellsOf u=j.size:=by
 obtain ⟨f,d,z,S⟩:=TI.of_spec h
 simp [Program.cellsOf,S.hf,S.size]
theorem T3 {t:TypeId}{i:TI}(ht:TI.of P t=some i){z:Value}(hz:z.cells.toList=i.zero)(E:Cz)(w:World)(A:Nat→Prop)(N:Nat):DL E w A N (G3 i) z.cells:=by
 obtain ⟨f,d,z',S⟩:=TI.of_spec ht
 refine ⟨by simp [G3,←hz],fun k y hy=>?_⟩
 simp only [G3,List.getElem?_map,Option.map_eq_some_iff] at hy
 obtain ⟨v,hv,rfl⟩:=hy
 have hm:v∈i.zero:=List.mem_of_getElem? hv
 rw [←C2,hz]
 simp only [List.getD,hv,Option.getD_some]
 exact .c (.val v (Is S.zone v hm))
theorem Sr (vs:List Value)(off n:Nat)(h:off+n≤vs.length):(vs.drop off).take n=(List.range n).map fun k=>vs.getD (off+k) undef:=by
 apply List.ext_getElem?
 intro i
 simp only [List.getElem?_take,List.getElem?_drop,List.getElem?_map]
 by_cases hi:i<n
 ·have:off+i<vs.length:=by omega
  simp [hi,List.getD,this]
 simp [hi]
theorem A7m (hT:Cn P T){t:TypeId}(h:B40 T t=true):P.underlying t=some .string:=by
 unfold B40 at h
 split at h
 ·rename_i i hi;exact P8 (hT t i hi) h
 simp at h
theorem Rp {l:List Ae}{xs:List AV}(h:J9 l=some xs):xs.length=l.length∧∀(k:Nat) (x:AV),xs[k]? =some x→∃v,l[k]? =some (.val v)∧x= .v v:=by
 induction l generalizing xs with
 |nil=>obtain rfl:=Option.some.inj h;simp
 |cons c l ih=>
  cases c with
  |val v=>
   unfold J9 at h
   split at h
   ·rename_i cs hcs
    obtain rfl:=Option.some.inj h
    obtain ⟨h1,h2⟩:=ih hcs
    refine ⟨by simp [h1],fun k x hk=>?_⟩
    cases k with
    |zero=>simp only [List.getElem?_cons_zero,Option.some.injEq] at hk;subst hk;exact ⟨v,by simp,rfl⟩
    |succ k=>simpa using h2 k x (by simpa using hk)
   simp at h
  |sl n es row=>simp [J9] at h
theorem Z9 (hT:Cn P T){wr:Bool}{s:AS}{op:Op}{ps:List Prop}{x:AV}(hs:step T wr s op= .ok ps x)(hp:∀p∈ps,p){B:B0}{E:Cz}{a:Act}{w:World}(h:s.is B E a w)
  (o:Oper)(ho:o.op=op):∃v,(∀w',Dr w w'→(execOp a.eval o).run P w'= .ok (.value v) w')∧Cu E w (s.avoid E) s.next x v:=by
 have den:∀(r:Value),r.oneCell'=true→Cu E w (s.avoid E) s.next (.v r) r:=fun r h=> .c (.val r h)
 obtain ⟨dst,op',ty,pos,after,guard⟩:=o
 simp only at ho
 subst ho
 unfold step at hs
 split at hs
 ·rename_i y
  simp only [Ec.ok.injEq] at hs
  obtain ⟨rfl,rfl⟩:=hs
  exact ⟨a.eval y,fun _ _=>rfl,h.ev y⟩
 ·rename_i y
  simp only [Ec.ok.injEq] at hs
  obtain ⟨rfl,rfl⟩:=hs
  exact ⟨a.eval y,fun _ _=>rfl,h.ev y⟩
 ·rename_i b t x' y z
  obtain ⟨r,h1,h2⟩:=A8e hT hs hp (h.ev x') (h.ev y) x' y
  refine ⟨r,fun w' _=>?_,h2⟩
  have h1:=h1 w'
  simp only [execOp,Sem.run_bind]
  simp only [Sem.run_bind] at h1
  rw [h1]
  rfl
 ·rename_i u t y
  have hy:=h.ev y
  split at hs
  ·rename_i b e
   rw [e] at hy
   have e1:=Bn hy
   simp only [Ec.ok.injEq] at hs
   obtain ⟨rfl,rfl⟩:=hs
   exact ⟨.bool !b,fun w' _=>by simp [execOp,e1,Op.unary],den _ rfl⟩
  ·rename_i k n e
   rw [e] at hy
   have e1:=Bn hy
   cases wr<;>simp only [Ec.ok.injEq] at hs<;>obtain ⟨rfl,rfl⟩:=hs
   ·have h1:Et k (0-n):=hp _ Cg
    exact ⟨.int k (0-n),fun w' _=>by simp [execOp,e1,Op.unary,Op.intArith];simpa using Gw h1,den _ rfl⟩
   exact ⟨.int k (k.wrap (0-n)),fun w' _=>by simp [execOp,e1,Op.unary,Op.intArith],den _ rfl⟩
  simp at hs
 ·split at hs<;>simp at hs
 ·split at hs<;>simp at hs
 ·rename_i t parts
  split at hs
  ·rename_i i hi
   split at hs
   ·rename_i p0 r0 cs hf0 hall hcs
    simp only [Ec.ok.injEq] at hs
    obtain ⟨rfl,rfl⟩:=hs
    have ht:=hT t i hi
    obtain ⟨f,d,z,S⟩:=TI.of_spec ht
    have hd:=S.hd
    have hfs:=S.fields
    cases d<;>simp only [hf0,reduceCtorEq] at hfs
    rename_i fs
    have hfs:=hf0.trans hfs
    obtain ⟨z',hz',hrun⟩:=S6 ht
    have hplaces:∀F∈fs.toList,∃j,E9 T F.type=some j:=by
     intro F hF
     have:(F.offset,F.type)∈i.fields:=by rw [hfs];exact List.mem_map.2 ⟨F,hF,rfl⟩
     exact A2d hall _ this
    have hm:∀w,(fs.toList.mapM (fun f=>do pure (f.offset,←sizeOf f.type):Field→Sem (Nat×Nat))).run P w= .ok (fs.toList.map fun F=>(F.offset,P.cellsOf F.type)) w:=by
     intro w
     refine A0x P w _ _ (fun F hF=>?_)
     obtain ⟨j,hj⟩:=hplaces F hF
     simp [C6 (hT _ _ hj),Ox (hT _ _ hj)]
    obtain ⟨cs',hfill,hDL⟩:=Yc hT h i.fields (fun k=>(fs.toList.map fun F=>(F.offset,P.cellsOf F.type))[k]?) (fun k o u hk j hj=>by
     rw [hfs] at hk
     simp only [List.getElem?_map,Option.map_eq_some_iff,Prod.mk.injEq] at hk ⊢
     obtain ⟨F,hF,rfl,rfl⟩:=hk
     exact ⟨F,hF,rfl,Ox (hT _ _ hj)⟩) parts.toList (G3 i) z'.cells cs hcs (T3 ht hz' E w _ _)
    refine ⟨.agg cs',fun w' _=>?_,?_⟩
    ·simp only [execOp,Instr.build,Sem.run_bind,hrun,Result.andThen_ok,run_underlying hd]
     have hm2:(fs.mapM (fun f=>do pure (f.offset,←sizeOf f.type):Field→Sem (Nat×Nat))).run P w'= .ok (fs.toList.map fun F=>(F.offset,P.cellsOf F.type)).toArray w':=by
      rw [Array.mapM_eq_mapM_toList]
      simp only [map_eq_pure_bind,Sem.run_bind,hm,Result.andThen_ok,Sem.run_pure]
     simp only [hm2,Result.andThen_ok,Array.toList_map,List.getElem?_toArray,hfill,Sem.run_pure]
    have:=Cu.agg (E:=E) (w:=w) (A:=s.avoid E) (N:=s.next) (xs:=cs) cs'.toList (by simpa using hDL.1) (fun k y hk=>by rw [C2];exact hDL.2 k y hk)
    simpa using this
   simp at hs
  simp at hs
 ·rename_i t y
  have hy:=h.ev y
  split at hs
  ·rename_i i k off hi e
   rw [e] at hy
   split at hs
   ·rename_i b hb
    split at hs
    ·rename_i hle
     simp only [Ec.ok.injEq] at hs
     obtain ⟨rfl,rfl⟩:=hs
     generalize hv:a.eval y=v at hy
     cases hy with
     |box _ hk=>
      obtain ⟨r,h1,h2⟩:=h.load (hT t i hi) hb (Nat.le_of_ble_eq_true hle)
      exact ⟨r,fun w' hk=>by simp only [execOp,hv,Sem.run_bind,h1 w' hk,Result.andThen_ok];rfl,h2⟩
    simp at hs
   simp at hs
  ·rename_i i k es j off hi e
   rw [e] at hy
   split at hs
   ·rename_i n es' row hg
    split at hs
    ·simp at hs
    split at hs
    ·rename_i cs hle hcs
     simp only [Bool.and_eq_true] at hle
     obtain rfl:=Nat.eq_of_beq_eq_true hle.1
     have hle2:=Nat.le_of_ble_eq_true hle.2
     simp only [Ec.ok.injEq] at hs
     obtain ⟨rfl,rfl⟩:=hs
     generalize hv:a.eval y=v at hy
     cases hy with
     |oel _ b o n' cap hk hov h0 hj=>
      have hown:=(h.own _ (Ck hg)).2.1
      simp only at hown
      rw [hov] at hown
      generalize hfp:E.fp k=fp at hown
      obtain ⟨m,rfl⟩:=Int.eq_ofNat_of_zero_le h0
      simp only [Int.toNat_natCast,Int.ofNat_lt] at *
      cases hown with
      |emp=>exact absurd hj (Nat.not_lt_zero _)
      |sl _ _ _ _ offb _ ty cells fps hn hc hb hsz hl hr=>
       have hrl:=hl m hj
       obtain ⟨f1,f2⟩:=Rp hcs
       have hlt:∀k,k<es→(offb+m) * es+k<cells.size:=fun k hk=>by
        have:=Fb (show offb+m<offb+cap by omega) hk
        omega
       have hd:∀k x,cs[k]? =some x→Cu E w (s.avoid E) s.next x (((List.range es).map fun k=>cells.getD ((offb+m) * es+k) undef).getD k undef):=by
        intro k x hk'
        obtain ⟨v',hv1,rfl⟩:=f2 k x hk'
        have hkl:k<es:=by rw [←hrl];exact (List.getElem?_eq_some_iff.1 hv1).1
        have:=hr m k _ hj hv1
        simp only [List.getD,List.getElem?_map,List.getElem?_range,hkl,Option.map_some,Option.getD_some]
        generalize cells.getD ((offb+m) * es+k) undef=u,fps (m * es+k)=g at this
        cases this with
        |val _ h1=>exact .c (.val _ h1)
       have hread:=N3 cs ((List.range es).map fun k=>cells.getD ((offb+m) * es+k) undef) off i (by rw [f1,hrl];exact hle2) hd
       have hrun:∀w',Dr w w'→_:=fun w' hkw=>Fv (hT t i hi) w' b (offb * es+m * es+off) ((List.range i.size).map fun k=>((List.range es).map fun k=>cells.getD ((offb+m) * es+k) undef).getD (off+k) undef) Cg (fun k hk=>by
        have h1:off+k<es:=by omega
        have:=hlt (off+k) h1
        rw [show offb * es+m * es+off+k=(offb+m) * es+(off+k) by rw [Nat.add_mul];omega]
        refine hkw.cell ?_
        rw [cell_of_row w b _ cells ty (0,0) hb]
        simp [List.getD,hk,h1,Array.getD,this])
       refine ⟨_,fun w' hkw=>?_,hread⟩
       simp only [execOp,hv,Instr.loadAt,Instr.sureAddr,Sem.run_bind,Sem.run_pure,Result.andThen_ok,hrun w' hkw]
       cases hag:i.agg with
       |true=>rfl
       |false=>
        obtain ⟨f,d,z,S⟩:=TI.of_spec (hT t i hi)
        have h1:=S.one (by rw [←S.agg];exact hag)
        simp [h1,List.getD]
    simp at hs
   simp at hs
  ·rename_i i n es row j off hi e
   rw [e] at hy
   split at hs
   ·rename_i hle
    simp only [Ec.ok.injEq] at hs
    obtain ⟨rfl,rfl⟩:=hs
    generalize hv:a.eval y=v at hy
    cases hy with
    |el _ b o cap hr h0 hj=>
     have hlen:(row j.toNat).length=es:=by
      cases hr with
      |emp=>omega
      |sl _ _ _ _ _ _ u hA hn hc hl hu hr=>exact hl _ Ab
     obtain ⟨r,h1,h2⟩:=B2m (E:=E) (N:=s.next) (hT t i hi) hr h0 hj (off:=off) (by rw [hlen];exact Nat.le_of_ble_eq_true hle)
     exact ⟨r,fun w' hk=>by simp only [execOp,hv,Sem.run_bind,h1 w' hk,Result.andThen_ok];rfl,h2⟩
   simp at hs
  simp at hs
 ·split at hs
  ·split at hs
   ·split at hs<;>simp at hs
   simp at hs
  simp at hs
 ·rename_i t y f
  have hy:=h.ev y
  split at hs
  ·rename_i o u hf
   split at hs
   ·rename_i k off hsz e
    obtain ⟨j,hj,hjs⟩:=Option.map_eq_some_iff.1 hsz
    rw [e] at hy
    simp only [Ec.ok.injEq] at hs
    obtain ⟨rfl,rfl⟩:=hs
    generalize hv:a.eval y=v at hy
    cases hy with
    |box _ hk=>exact ⟨_,fun w' _=>by simp only [execOp,hv,Sem.run_bind,Hq hT hf hj (Nat.le_of_ble_eq_true hjs),Result.andThen_ok];rfl,.box _ hk⟩
   ·rename_i n es row j' off hsz e
    obtain ⟨j,hj,hjs⟩:=Option.map_eq_some_iff.1 hsz
    rw [e] at hy
    simp only [Ec.ok.injEq] at hs
    obtain ⟨rfl,rfl⟩:=hs
    generalize hv:a.eval y=v at hy
    cases hy with
    |el _ b o' cap hr h0 hi=>exact ⟨_,fun w' _=>by simp only [execOp,hv,Sem.run_bind,Hq hT hf hj (Nat.le_of_ble_eq_true hjs),Result.andThen_ok];rfl,by rw [Nat.add_assoc];exact .el _ b o' cap hr h0 hi⟩
   ·rename_i k es j' off hsz e
    obtain ⟨j,hj,hjs⟩:=Option.map_eq_some_iff.1 hsz
    rw [e] at hy
    simp only [Ec.ok.injEq] at hs
    obtain ⟨rfl,rfl⟩:=hs
    generalize hv:a.eval y=v at hy
    cases hy with
    |oel _ b o' n cap hk hov h0 hi=>exact ⟨_,fun w' _=>by simp only [execOp,hv,Sem.run_bind,Hq hT hf hj (Nat.le_of_ble_eq_true hjs),Result.andThen_ok];rfl,by rw [Nat.add_assoc];exact .oel _ b o' n cap hk hov h0 hi⟩
   simp at hs
  simp at hs
 ·rename_i t y f
  have hy:=h.ev y
  split at hs
  ·rename_i o u cs hf e
   rw [e] at hy
   split at hs
   ·rename_i j hj
    split at hs
    ·rename_i hle
     simp only [Ec.ok.injEq] at hs
     obtain ⟨rfl,rfl⟩:=hs
     generalize hv:a.eval y=v at hy
     cases hy with
     |agg vs hl hx=>
      obtain ⟨fs,F,h1,h2,h3,h4⟩:=Q0 hT hf
      subst h3 h4
      have htj:=hT _ _ hj
      obtain ⟨f',d,z,S⟩:=TI.of_spec htj
      simp only [Bool.and_eq_true] at hle
      have hle1:=Nat.le_of_ble_eq_true hle.1
      have hle2:=Nat.le_of_ble_eq_true hle.2
      have hsz:=Ox htj
      have hp:=fun w=>V2 (P:=P) F.type vs F.offset w (by simp [S.hd]) (by simp [S.hf]) (by rw [hsz,hl];exact hle1) (by rw [hsz];exact hle2)
      have hd:=N3 cs vs F.offset j hle1 hx
      have heq:Mr P F.type ((vs.drop F.offset).take (P.cellsOf F.type))=(match j.agg with|true=> .agg ((List.range j.size).map fun k=>vs.getD (F.offset+k) undef).toArray|false=>vs.getD F.offset undef):=by
       rw [hsz,S.agg]
       simp only [Mr,S.hd,Option.map_some]
       cases Gt d with
       |true=>
        congr 2
        rw [Sr vs F.offset j.size (by rw [hl];exact hle1)]
       |false=>
        have:F.offset<vs.length:=by rw [hl];omega
        simp [List.getD,show 0<j.size by omega]
      refine ⟨_,fun w' _=>?_,(by rw [heq];exact hd:Cu E w (s.avoid E) s.next (Ij j cs F.offset) (Mr P F.type ((vs.drop F.offset).take (P.cellsOf F.type))))⟩
      simp only [execOp,hv,Instr.field,Sem.run_bind,run_underlying h1,Result.andThen_ok,h2,asAgg,Sem.run_pure,hp]
    simp at hs
   simp at hs
  simp at hs
 ·rename_i t y z
  have hy:=h.ev y
  have hz:=h.ev z
  split at hs
  ·rename_i e n es row k j he ey ez
   obtain ⟨i,hi,hie⟩:=Option.bind_eq_some_iff.1 he
   rw [ey] at hy
   rw [ez] at hz
   split at hs
   ·rename_i hes
    obtain ⟨i',hi',hb⟩:=Option.map_eq_some_iff.1 hes
    have hes:=Nat.eq_of_beq_eq_true hb
    simp only [Ec.ok.injEq] at hs
    obtain ⟨rfl,rfl⟩:=hs
    obtain ⟨h0,h1⟩:0≤j∧j<(n:Int):=hp _ Cg
    generalize hv:a.eval y=v at hy
    have hw:=Bn hz
    have hund:=Dm (hT t i hi) hie
    have hel:P.elem t=e:=by simp [Program.elem,hund]
    cases hy with
    |c hr=>
     cases hr with
     |nil=>simp at h1;omega
     |emp=>simp at h1;omega
     |sl _ _ _ b off cap u hA hn hc hl hu hr=>
      refine ⟨.pointer (some ⟨b,off+j.toNat * es+0,none⟩),fun w _=>?_,.el 0 b off cap (.sl n es row b off cap u hA hn hc hl hu hr) h0 h1⟩
      have:=run_indexAt_slice (P:=P) w t ⟨b,off,none⟩ n cap k j (by rw [hel];exact hund)
      rw [if_pos ⟨h0,h1⟩,hel,C6 (hT _ _ hi')] at this
      simp only [Result.andThen_ok,Hx] at this
      simp only [execOp,hv,hw,Sem.run_bind,this,Result.andThen_ok,hes]
      rfl
   simp at hs
  ·rename_i e k ik j he ey ez
   obtain ⟨i,hi,hie⟩:=Option.bind_eq_some_iff.1 he
   rw [ey] at hy
   rw [ez] at hz
   split at hs
   ·rename_i n es row hg
    split at hs
    ·rename_i hes
     obtain ⟨i',hi',hb⟩:=Option.map_eq_some_iff.1 hes
     have hes:=Nat.eq_of_beq_eq_true hb
     simp only [Ec.ok.injEq] at hs
     obtain ⟨rfl,rfl⟩:=hs
     obtain ⟨h0,h1⟩:0≤j∧j<(n:Int):=hp _ Cg
     generalize hv:a.eval y=v at hy
     have hw:=Bn hz
     have hund:=Dm (hT t i hi) hie
     have hel:P.elem t=e:=by simp [Program.elem,hund]
     cases hy with
     |own hk=>
      have hown:=(h.own _ (Ck hg)).2.1
      simp only at hown
      generalize hov:E.ov k=u,hfp:E.fp k=fp at hown
      cases hown with
      |nil=>simp at h1;omega
      |emp=>simp at h1;omega
      |sl _ _ _ b offb cap ty cells fps hn hc hb' hsz hl hr=>
       refine ⟨.pointer (some ⟨b,offb * es+j.toNat * es+0,none⟩),fun w _=>?_,.oel 0 b (offb * es) n cap hk hov h0 h1⟩
       have:=run_indexAt_slice (P:=P) w t ⟨b,offb * es,none⟩ n cap ik j (by rw [hel];exact hund)
       rw [if_pos ⟨h0,h1⟩,hel,C6 (hT _ _ hi')] at this
       simp only [Result.andThen_ok,Hx] at this
       simp only [execOp,hv,hov,hw,Sem.run_bind,this,Result.andThen_ok,hes]
       rfl
    simp at hs
   simp at hs
  simp at hs
 ·rename_i t y z
  have hy:=h.ev y
  have hz:=h.ev z
  split at hs
  ·rename_i b k j hst ey ez
   rw [ey] at hy
   rw [ez] at hz
   have e1:=Bn hy
   have e2:=Bn hz
   simp only [Ec.ok.injEq] at hs
   obtain ⟨rfl,rfl⟩:=hs
   obtain ⟨h0,h1⟩:0≤j∧j<(b.size:Int):=hp _ Cg
   have hlt:j.toNat<b.size:=by omega
   have hg:b[j.toNat]? =some (b.data.getD j.toNat 0):=by
    rw [getElem?_pos b j.toNat hlt]
    have h2:j.toNat<b.data.size:=hlt
    simp only [Array.getD,h2,dif_pos]
    rfl
   exact ⟨.int .u8 (b.data.getD j.toNat 0).toNat,fun w' _=>by simp [execOp,e1,e2,Instr.index,asIntOf,h0,hg,run_underlying (A7m hT hst)],den _ rfl⟩
  simp at hs
 ·rename_i y i
  have hy:=h.ev y
  split at hs
  ·rename_i xs e
   rw [e] at hy
   split at hs
   ·rename_i hlt
    simp only [Ec.ok.injEq] at hs
    obtain ⟨rfl,rfl⟩:=hs
    generalize hv:a.eval y=v at hy
    cases hy with
    |tup vs hl hx=>
     rw [Co]
     have hi:i<xs.length:=by simp [Nat.blt] at hlt;omega
     have hi':i<vs.length:=by omega
     have:=hx i _ (List.getElem?_eq_getElem hi)
     refine ⟨vs[i],fun w' _=>by simp [execOp,hv,Instr.extract,hi'],?_⟩
     rw [List.getElem?_eq_getElem hi]
     simpa [List.getD,hi'] using this
   simp at hs
  simp at hs
 ·rename_i y
  have hy:=h.ev y
  split at hs
  ·rename_i k off e
   rw [e] at hy
   simp only [Ec.ok.injEq] at hs
   obtain ⟨rfl,rfl⟩:=hs
   generalize hv:a.eval y=v at hy
   cases hy with
   |box _ hk=>exact ⟨_,fun w' _=>by simp only [execOp,hv];rfl,.box _ hk⟩
  ·rename_i n es row j off e
   rw [e] at hy
   simp only [Ec.ok.injEq] at hs
   obtain ⟨rfl,rfl⟩:=hs
   generalize hv:a.eval y=v at hy
   cases hy with
   |el _ b o' cap hr h0 hi=>exact ⟨_,fun w' _=>by simp only [execOp,hv];rfl,.el _ b o' cap hr h0 hi⟩
  ·rename_i k es j off e
   rw [e] at hy
   simp only [Ec.ok.injEq] at hs
   obtain ⟨rfl,rfl⟩:=hs
   generalize hv:a.eval y=v at hy
   cases hy with
   |oel _ b o' n cap hk hov h0 hi=>exact ⟨_,fun w' _=>by simp only [execOp,hv];rfl,.oel _ b o' n cap hk hov h0 hi⟩
  simp at hs
 ·rename_i args ats
  split at hs
  ·rename_i x' t ea et
   split at hs
   ·rename_i i hi
    have hy:=h.ev x'
    obtain rfl:args= #[x']:=by cases args;simp at ea;simp [ea]
    obtain rfl:ats= #[t]:=by cases ats;simp at et;simp [et]
    split at hs
    ·rename_i b hst e
     rw [e] at hy
     have e1:=Bn hy
     simp only [Ec.ok.injEq] at hs
     obtain ⟨rfl,rfl⟩:=hs
     exact ⟨.int .i64 b.size,fun w' _=>by simp [execOp,resolve,invoke,builtin,e1,Builtin.len_,run_underlying (P8 (hT t i hi) hst),goInt],den _ rfl⟩
    ·rename_i el a0 n c hst hel e
     rw [e] at hy
     have e1:=Bn hy
     simp only [Ec.ok.injEq] at hs
     obtain ⟨rfl,rfl⟩:=hs
     exact ⟨.int .i64 n,fun w' _=>by simp [execOp,resolve,invoke,builtin,e1,Builtin.len_,run_underlying (Dm (hT t i hi) hel),goInt],den _ rfl⟩
    ·rename_i el n es row hst hel e
     rw [e] at hy
     simp only [Ec.ok.injEq] at hs
     obtain ⟨rfl,rfl⟩:=hs
     have hsl:∃a0 c,a.eval x'= .slice a0 n c:=by
      generalize a.eval x'=v at hy
      cases hy with
      |c hr=>cases hr<;>exact ⟨_,_,rfl⟩
     obtain ⟨a0,c,e1⟩:=hsl
     exact ⟨.int .i64 n,fun w' _=>by simp [execOp,resolve,invoke,builtin,e1,Builtin.len_,run_underlying (Dm (hT t i hi) hel),goInt],den _ rfl⟩
    ·rename_i el k hst hel e
     rw [e] at hy
     split at hs
     ·rename_i n es row hg
      simp only [Ec.ok.injEq] at hs
      obtain ⟨rfl,rfl⟩:=hs
      have hsl:∃a0 c,a.eval x'= .slice a0 n c:=by
       generalize a.eval x'=v at hy
       cases hy with
       |own hk=>
        have:=(h.own _ (Ck hg)).2.1
        simp only at this
        generalize E.ov k=v,E.fp k=fp at this
        cases this<;>exact ⟨_,_,rfl⟩
      obtain ⟨a0,c,e1⟩:=hsl
      exact ⟨.int .i64 n,fun w' _=>by simp [execOp,resolve,invoke,builtin,e1,Builtin.len_,run_underlying (Dm (hT t i hi) hel),goInt],den _ rfl⟩
     simp at hs
    simp at hs
   simp at hs
  simp at hs
 ·rename_i args ats
  split at hs
  ·rename_i x' y' ea
   obtain rfl:args= #[x',y']:=by cases args;simp at ea;simp [ea]
   have hy:=h.ev x'
   have hz:=h.ev y'
   split at hs
   ·rename_i k m j n ex ey
    rw [ex] at hy
    rw [ey] at hz
    have e1:=Bn hy
    have e2:=Bn hz
    split at hs
    ·rename_i hk
     simp only [Ec.ok.injEq] at hs
     obtain ⟨rfl,rfl⟩:=hs
     exact ⟨_,fun w' _=>by simp [execOp,resolve,invoke,builtin,e1,e2,Builtin.max_,Builtin.max2],den _ rfl⟩
    simp at hs
   simp at hs
  simp at hs
 ·rename_i args ats
  split at hs
  ·rename_i x' y' ea
   obtain rfl:args= #[x',y']:=by cases args;simp at ea;simp [ea]
   have hy:=h.ev x'
   have hz:=h.ev y'
   split at hs
   ·rename_i k m j n ex ey
    rw [ex] at hy
    rw [ey] at hz
    have e1:=Bn hy
    have e2:=Bn hz
    split at hs
    ·rename_i hk
     simp only [Ec.ok.injEq] at hs
     obtain ⟨rfl,rfl⟩:=hs
     exact ⟨_,fun w' _=>by simp [execOp,resolve,invoke,builtin,e1,e2,Builtin.min_,Builtin.min2],den _ rfl⟩
    simp at hs
   simp at hs
  simp at hs
 ·rename_i t u y
  split at hs
  ·rename_i i j hi hj
   obtain ⟨f1,d1,z1,S1⟩:=TI.of_spec (hT t i hi)
   have hy:=h.ev y
   split at hs
   ·rename_i b e
    rw [e] at hy
    have e1:=Bn hy
    split at hs
    ·rename_i hst
     simp only [Ec.ok.injEq] at hs
     obtain ⟨rfl,rfl⟩:=hs
     exact ⟨.string b,fun w' _=>by simp [execOp,convert,e1,run_underlying S1.hd,run_underlying (P8 (hT u j hj) hst)],den _ rfl⟩
    simp at hs
   ·rename_i k0 n e
    rw [e] at hy
    have e1:=Bn hy
    split at hs
    ·rename_i k hag hfl
     have hund:=A86 hT hj hag hfl
     cases wr<;>simp only [Ec.ok.injEq] at hs<;>obtain ⟨rfl,rfl⟩:=hs
     ·have h1:Et k n:=hp _ Cg
      exact ⟨.int k n,fun w' _=>by simp [execOp,convert,e1,run_underlying S1.hd,run_underlying hund,Conv.intToInt,Gw h1],den _ rfl⟩
     exact ⟨.int k (k.wrap n),fun w' _=>by simp [execOp,convert,e1,run_underlying S1.hd,run_underlying hund,Conv.intToInt],den _ rfl⟩
    simp at hs
   simp at hs
  simp at hs
 ·(repeat' (split at hs))<;>simp at hs
 ·(repeat' (split at hs))<;>simp at hs
 ·rename_i f first caps
  split at hs
  ·rename_i ef
   simp only [Ec.ok.injEq] at hs
   obtain ⟨rfl,rfl⟩:=hs
   obtain rfl:first= #[]:=by cases first;simp at ef;simp [ef]
   refine ⟨.func (.func f) #[] (caps.toList.map a.eval).toArray,fun w' _=>?_,.fn _ Cg (fun i x hx=>?_)⟩
   ·obtain ⟨caps⟩:=caps
    simp [execOp,Instr.makeFunc]
   simp only [List.getElem?_map,Option.map_eq_some_iff] at hx
   obtain ⟨c,hc,rfl⟩:=hx
   simpa [List.getD,hc] using h.ev c
  simp at hs
 simp at hs
end Go.Sx
namespace Go.Sx
variable {P : Program} {ops : Array Oper}
def Du:Op→Nat
 | .alloc _=>1
 | .box _ _=>1
 | .makeSlice _ _ _=>1
 | .buildSlice _ _ _=>1
 | .store _ _ _=>2
 | .call {callee:= .value _,..}=>1
 | .call {callee:= .builtin .append,..}=>2
 | .call {callee:= .builtin .copy,..}=>2
 | .call {callee:= .builtin .clear,..}=>2
 |_=>0
def Ju:Op→Bool
 | .move _=>true
 | .assign _=>true
 |_=>false
theorem Nr {o:Oper}(h:Ju o.op=true)(ρ:Operand→Value){w w':World}{v:Value}(hr:(execOp ρ o).run P w= .ok (.value v) w):(execOp ρ o).run P w'= .ok (.value v) w':=by
 obtain ⟨dst,op,ty,pos,after,guard⟩:=o
 cases op<;>simp [Ju] at h
 all_goals
  rename_i x
  simp only [execOp] at hr ⊢
  have:ρ x=v:=by simpa using hr
  rw [this];rfl
def Oi (P:Program) (N:Value→World→Prop):Result Next→Prop
 | .ok (.value v) w=>N v w
 | .ok .skip w=>N undef w
 | .ok (.enter f args) w=>Calls P f args w fun e w'=>∃v,e= .returned v∧N v w'
 |_=>False
theorem Oi.mono {N N':Value→World→Prop}(h:∀v w,N v w→N' v w){r:Result Next}(hr:Oi P N r):Oi P N' r:=by
 cases r with
 |ok n w=>cases n<;>first|exact h _ _ hr|exact hr|exact Calls.mono hr fun e w' ⟨v,h1,h2⟩=>⟨v,h1,h _ _ h2⟩
 |halt x w=>exact hr
def H4 (P:Program) (o:Oper) (a:Act) (w:World) (K:Act→World→Prop):Prop:=
 Oi P (fun v w'=>(Du o.op≤1→Dr w w')∧K (a.put o.dst v) w') ((execOp a.eval o).run P w)
theorem H4.mono {o:Oper}{a:Act}{w:World}{K K':Act→World→Prop}(h:∀a w,K a w→K' a w)(hd:H4 P o a w K):H4 P o a w K':=
 Oi.mono (fun _ _ ⟨h1,h2⟩=>⟨h1,h _ _ h2⟩) hd
theorem H4.wp {o:Oper}{a:Act}{w:World}{K:Act→World→Prop}{Q:Exit→Act→World→Prop}(hd:H4 P o a w K):o.wp P a w K Q:=by
 unfold H4 at hd
 unfold Oper.wp
 generalize (execOp a.eval o).run P w=r at *
 cases r with
 |ok n w'=>
  cases n<;>simp only [Oi] at hd<;>simp only [Oper.upon]
  case value v=>exact hd.2
  case skip=>exact hd.2
  case enter f args=>exact hd.mono fun e w'' ⟨v,he,h⟩=>by subst he;exact h.2
 |halt x w'=>simp only [Oi] at hd
def A73 (P:Program) (o:Oper) (a:Act) (w:World) (v:Value):Prop:=∀w',Ju o.op=true∨Dr w w'→(execOp a.eval o).run P w'= .ok (.value v) w'
def Ew (P:Program) (ops:Array Oper) (Q:Act→World→Prop):List Oper→Act→World→Prop
 | [],a,w=>Q a w
 |o::rest,a,w=>
  if Region.wanted o (yielded ops a.tmps) then
   (∃v,(∀w',Dr w w'→(execOp a.eval o).run P w'= .ok (.value v) w')∧Ew P ops Q rest (a.put o.dst v) w)∨(Du o.op≠0∧H4 P o a w (Ew P ops Q rest))
  else Ew P ops Q rest (a.put o.dst undef) w
def opM (P:Program) (ops:Array Oper) (i:Nat) (K:Act→World→Prop) (a:Act) (w:World):Prop:=
 match ops[i]? with
 |none=>K a w
 |some o=>if Region.wanted o (yielded ops a.tmps) then H4 P o a w K else K (a.put o.dst undef) w
theorem A01 {i:Nat}{a:Act}{w:World}{K K':Act→World→Prop}(h:∀a w,K a w→K' a w)(hh:opM P ops i K a w):opM P ops i K' a w:=by
 unfold opM at *
 split
 ·exact h _ _ (by simpa [*] using hh)
 rename_i o ho
 simp only [ho] at hh
 split
 ·rename_i hw;simp only [hw,if_true] at hh;exact H4.mono h hh
 rename_i hw;simp only [hw] at hh;exact h _ _ hh
def Ll (P:Program) (ops:Array Oper) (Q:Act→World→Prop):Nat→Array Bool→Act→World→Prop
 | 0,listed,a,w=>Region.ready .any ops listed=[]∧Q a w
 |fuel+1,listed,a,w=>(Region.ready .any ops listed=[]→Q a w)∧∀i∈Region.ready .any ops listed,opM P ops i (Ll P ops Q fuel (listed.setIfInBounds i true)) a w
theorem Pp {Q:Act→World→Prop}{Q':Exit→Act→World→Prop}(hQ:∀a w,Q a w→Q' .normal a w):∀(fuel:Nat) (listed:Array Bool) (a:Act) (w:World),
  Ll P ops Q fuel listed a w→wpAny P .any ops Q' fuel listed a w
 | 0,_,_,_,h=>⟨h.1,hQ _ _ h.2⟩
 |fuel+1,listed,a,w,h=>⟨fun h0=>hQ _ _ (h.1 h0),fun i hi=>by
   have:=h.2 i hi
   unfold opM at this
   unfold wpOp
   split
   ·rename_i ho;simp only [ho] at this;exact Pp hQ _ _ _ _ this
   rename_i o ho
   simp only [ho] at this
   split
   ·rename_i hw;simp only [hw,if_true] at this;exact .inl (H4.wp (this.mono fun a' w'=>Pp hQ fuel _ a' w'))
   rename_i hw;simp only [hw] at this;exact Pp hQ fuel _ _ _ this⟩
def Hw (P:Program) (ops:Array Oper) (o:Oper) (v:Value) (a:Act) (w:World):Prop:=
 (Region.wanted o (yielded ops a.tmps)=true∧A73 P o a w v)∨(Region.wanted o (yielded ops a.tmps)=false∧v=undef)
theorem Hw.opM {i:Nat}{o:Oper}{v:Value}{a:Act}{w:World}(hi:ops[i]? =some o)(hy:Hw P ops o v a w){K:Act→World→Prop}(h:K (a.put o.dst v) w):opM P ops i K a w:=by
 unfold Sx.opM
 simp only [hi]
 rcases hy with ⟨hw,hv⟩|⟨hw,rfl⟩
 ·simp only [hw,if_true]
  unfold H4
  rw [hv w (.inr (Dr.refl w))]
  exact ⟨fun _=>Dr.refl w,h⟩
 simp only [hw,Bool.false_eq_true,if_false];exact h
theorem Hw.of_same {o:Oper}{v:Value}{a a':Act}{w w':World}(hy:Hw P ops o v a w)(he:execOp a'.eval o=execOp a.eval o)
  (hw:Region.wanted o (yielded ops a'.tmps)=Region.wanted o (yielded ops a.tmps))(hk:Ju o.op=true∨Dr w w'):Hw P ops o v a' w':=by
 unfold Hw A73 at *
 rw [he,hw]
 refine hy.imp (fun ⟨h1,h2⟩=>⟨h1,fun w'' h=>h2 w'' ?_⟩) id
 rcases hk with hk|hk
 ·exact .inl hk
 exact h.imp id hk.trans
theorem B27 {j:Nat}{oi oj:Oper}{v:Value}(hj:ops[j]? =some oj)(hap:oi.apart ops oj=true)(hkind:Ju oi.op=true∨Du oj.op≤1)
  (hsi:∀cs b,oi.op≠ .select cs b)(hsj:∀cs b,oj.op≠ .select cs b){K:Act→World→Prop}{a:Act}{w:World}
  (hy:Hw P ops oi v a w)(h:opM P ops j K (a.put oi.dst v) w):
  opM P ops j (fun a' w'=>Hw P ops oi v a' w'∧K (a'.put oi.dst v) w') a w:=by
 obtain ⟨h1,h2,h3⟩:=Oper.apart_spec hap
 have keep:∀w',(Ju oi.op=true∨Dr w w')→∀u,Hw P ops oi v (a.put oj.dst u) w':=fun w' hk u=>
  hy.of_same (execOp_put oi hsi a oj.dst u h3) (wanted_put oi a oj.dst u h3) hk
 unfold opM at *
 simp only [hj] at *
 rw [wanted_put oj a oi.dst v h1] at h
 split
 ·rename_i hw
  simp only [hw,if_true] at h
  unfold H4 at *
  rw [execOp_put oj hsj a oi.dst v h1] at h
  refine Oi.mono (fun u w' ⟨k1,k2⟩=>⟨k1,keep w' (hkind.imp id k1) u,?_⟩) h
  rw [←Act.put_comm a v u h2]
  exact k2
 rename_i hw
 simp only [hw] at h
 exact ⟨keep w (.inr (Dr.refl w)) _,by rw [←Act.put_comm a v undef h2];exact h⟩
def Kd (ops:Array Oper) (listed:Array Bool):Prop:=∀j o,ops[j]? =some o→listed.getD j false=true→∀e∈o.after,Region.binds .any e=true→listed.getD e.on false=true
theorem Kd.set {listed:Array Bool}(h:Kd ops listed){i:Nat}(hi:i∈Region.ready .any ops listed):Kd ops (listed.setIfInBounds i true):=by
 intro j o ho hl e he hb
 refine getD_set_true ?_
 by_cases hij:i=j
 ·subst hij
  obtain ⟨_,o',ho',hall⟩:=mem_ready.1 hi
  rw [ho] at ho'
  obtain rfl:=Option.some.inj ho'
  exact hall e he hb
 rw [getD_set_ne false hij] at hl
 exact h j o ho hl e he hb
def inN (i:Nat):List Nat→Bool
 | []=>false
 |j::r=>match Nat.beq i j with
  |true=>true
  |false=>inN i r
theorem A4r {i:Nat}:∀{l:List Nat},inN i l=true→i∈l
 | [],h=>by simp [inN] at h
 |j::r,h=>by
  unfold inN at h
  split at h
  ·rename_i e;rw [Nat.eq_of_beq_eq_true e];exact List.mem_cons_self
  exact List.mem_cons_of_mem _ (A4r h)
def A20:List Edge→List Nat
 | []=>[]
 |e::r=>match Region.binds .any e with
  |true=>e.on::A20 r
  |false=>A20 r
theorem Qb {k:Nat}:∀{l:List Edge},k∈A20 l→∃e∈l,Region.binds .any e=true∧e.on=k
 | [],h=>by simp [A20] at h
 |e::r,h=>by
  unfold A20 at h
  split at h
  ·rename_i hb
   rcases List.mem_cons.1 h with h|h
   ·exact ⟨e,List.mem_cons_self,hb,h.symm⟩
   obtain ⟨e',h1,h2⟩:=Qb h
   exact ⟨e',List.mem_cons_of_mem _ h1,h2⟩
  obtain ⟨e',h1,h2⟩:=Qb h
  exact ⟨e',List.mem_cons_of_mem _ h1,h2⟩
def Nc (ops:Array Oper) (i:Nat):Nat→List Nat→List Nat→Bool
 | 0,_,_=>false
 |_+1,[],_=>false
 |f+1,j::todo,seen=>
  match inN j seen with
  |true=>Nc ops i f todo seen
  |false=>match ops[j]? with
   |some o=>match inN i (A20 o.after.toList) with
    |true=>true
    |false=>Nc ops i f (A20 o.after.toList++todo) (j::seen)
   |none=>Nc ops i f todo seen
theorem Iv {listed:Array Bool}(hc:Kd ops listed){i:Nat}:∀(f:Nat) (todo seen:List Nat),Nc ops i f todo seen=true→
  (∀j∈todo,∀o,ops[j]? =some o→∀e∈o.after,Region.binds .any e=true→listed.getD e.on false=true)→listed.getD i false=true
 | 0,_,_,h,_=>by simp [Nc] at h
 |f+1,[],_,h,_=>by simp [Nc] at h
 |f+1,j::todo,seen,h,hj=>by
  unfold Nc at h
  split at h
  ·exact Iv hc f todo seen h (fun k hk=>hj k (List.mem_cons_of_mem _ hk))
  split at h
  ·rename_i o ho
   have hP:=hj j List.mem_cons_self o ho
   split at h
   ·rename_i hm
    obtain ⟨e,he,hb,hon⟩:=Qb (A4r hm)
    have:=hP e (Array.mem_toList_iff.1 he) hb
    rw [hon] at this
    exact this
   refine Iv hc f _ _ h (fun k hk=>?_)
   rcases List.mem_append.1 hk with hk|hk
   ·obtain ⟨e,he,hb,hon⟩:=Qb hk
    have hl:=hP e (Array.mem_toList_iff.1 he) hb
    rw [hon] at hl
    exact fun o' ho' e' he' hb'=>hc k o' ho' hl e' he' hb'
   exact hj k (List.mem_cons_of_mem _ hk)
  exact Iv hc f todo seen h (fun k hk=>hj k (List.mem_cons_of_mem _ hk))
def Pf (ops:Array Oper) (_ j i:Nat):Bool:=Nc ops i 2000 [j] []
theorem Wi {listed:Array Bool}(hc:Kd ops listed){i:Nat}(f j:Nat)(h:Pf ops f j i=true)(hj:∀o,ops[j]? =some o→∀e∈o.after,Region.binds .any e=true→listed.getD e.on false=true):listed.getD i false=true:=
 Iv hc 2000 [j] [] h (fun k hk=>by rw [List.mem_singleton.1 hk];exact hj)
theorem Nd {listed:Array Bool}{i:Nat}(hi:i∈Region.ready .any ops listed):listed.getD i false=false:=by
 have h0:=(mem_ready.1 hi).1
 rcases Nat.lt_or_ge i listed.size with h'|h'
 ·simp [h'] at h0 ⊢;exact h0
 simp [Array.getElem?_eq_none h']
theorem Jt {Q:Act→World→Prop}{i:Nat}{oi:Oper}{v:Value}(hi:ops[i]? =some oi)(hsel:∀(j:Nat) (o:Oper) cs b,ops[j]? =some o→o.op≠ .select cs b)(n:Nat):
  ∀(fuel:Nat) (listed:Array Bool) (a:Act) (w:World),Kd ops listed→
   (∀j oj,ops[j]? =some oj→j≠i→listed.getD j true=false→Pf ops n j i=true∨(oi.apart ops oj=true∧(Ju oi.op=true∨Du oj.op≤1)))→
   i∈Region.ready .any ops listed→Hw P ops oi v a w→
   Ll P ops Q fuel (listed.setIfInBounds i true) (a.put oi.dst v) w→Ll P ops Q (fuel+1) listed a w:=by
 intro fuel
 induction fuel with
 |zero=>
  intro listed a w _ _ hr hy H
  refine ⟨fun h=>(by rw [h] at hr;cases hr),fun j hj=>?_⟩
  by_cases hji:j=i
  ·subst hji;exact hy.opM hi H
  have:=ready_mono hj hji
  rw [H.1] at this
  cases this
 |succ fuel ih=>
  intro listed a w hcl hfree hr hy H
  refine ⟨fun h=>(by rw [h] at hr;cases hr),fun j hj=>?_⟩
  by_cases hji:j=i
  ·subst hji;exact hy.opM hi H
  have h1:=H.2 j (ready_mono hj hji)
  obtain ⟨hjun,oj,hoj,hall⟩:=mem_ready.1 hj
  have hun:=Nd hr
  have hf:oi.apart ops oj=true∧(Ju oi.op=true∨Du oj.op≤1):=by
   rcases hfree j oj hoj hji hjun with h|h
   ·have:=Wi hcl n j h (fun o ho e he hb=>by rw [hoj] at ho;obtain rfl:=Option.some.inj ho;exact hall e he hb)
    rw [hun] at this
    cases this
   exact h
  have h2:=B27 hoj hf.1 hf.2 (fun cs b=>hsel i oi cs b hi) (fun cs b=>hsel j oj cs b hoj) hy h1
  have hfree':∀k ok,ops[k]? =some ok→k≠i→(listed.setIfInBounds j true).getD k true=false→
    Pf ops n k i=true∨(oi.apart ops ok=true∧(Ju oi.op=true∨Du ok.op≤1)):=fun k ok hk hki hun=>by
   refine hfree k ok hk hki ?_
   by_cases hjk:j=k
   ·subst hjk;exact hjun
   rw [getD_set_ne true hjk] at hun;exact hun
  refine A01 (fun a' w' h3=>ih (listed.setIfInBounds j true) a' w' (hcl.set hj) hfree' (ready_mono hr (Ne.symm hji)) h3.1 ?_) h2
  rw [Array.setIfInBounds_comm _ _ hji]
  exact h3.2
def A88 (ops:Array Oper) (listed:Array Bool) (i:Nat) (oi:Oper):Bool:=
 (List.range ops.size).all fun j=>j==i||listed.getD j true||(match ops[j]? with
  |some oj=>oi.apart ops oj&&(Ju oi.op||Nat.ble (Du oj.op) 1)
  |none=>true)||Pf ops ops.size j i
def Qa (ops:Array Oper):List Nat→Array Bool→Bool
 | [],listed=>(Region.ready .any ops listed).isEmpty
 |i::rest,listed=>(match ops[i]? with
   |some o=>match Du o.op with
    | 0=>(Region.ready .any ops listed).contains i&&A88 ops listed i o
    |_=>match Region.ready .any ops listed with
     | [j]=>j==i
     |_=>false
   |none=>false)&&Qa ops rest (listed.setIfInBounds i true)
def Ym (ops:Array Oper) (ord:List Nat):List Oper:=ord.filterMap fun i=>ops[i]?
def A91 (ops:Array Oper) (ord:List Nat):Bool:=Region.noSelect ops&&(ord.length==ops.size)&&Qa ops ord (Array.replicate ops.size false)
theorem Td {Q:Act→World→Prop}(hsel:∀(j:Nat) (o:Oper) cs b,ops[j]? =some o→o.op≠ .select cs b):∀(ord:List Nat) (listed:Array Bool) (a:Act) (w:World),
  Qa ops ord listed=true→Kd ops listed→Ew P ops Q (ord.filterMap fun i=>ops[i]?) a w→Ll P ops Q ord.length listed a w
 | [],listed,a,w,h,_,hq=>⟨by simpa [Qa] using h,hq⟩
 |i::rest,listed,a,w,h,hc,hq=>by
  unfold Qa at h
  simp only [Bool.and_eq_true] at h
  obtain ⟨h1,h2⟩:=h
  split at h1
  ·rename_i o ho
   have hl:(i::rest).filterMap (fun i=>ops[i]?)=o::rest.filterMap (fun i=>ops[i]?):=by simp [ho]
   rw [hl] at hq
   split at h1
   ·rename_i hk
    simp only [Bool.and_eq_true,List.contains_iff_mem] at h1
    obtain ⟨hr,hf⟩:=h1
    have hfree:∀j oj,ops[j]? =some oj→j≠i→listed.getD j true=false→Pf ops ops.size j i=true∨(o.apart ops oj=true∧(Ju o.op=true∨Du oj.op≤1)):=by
     intro j oj hoj hji hun
     have:=List.all_eq_true.1 hf j (List.mem_range.2 (Array.getElem?_eq_some_iff.1 hoj).1)
     simp only [hoj,hun,Bool.or_false,Bool.or_eq_true,beq_iff_eq,hji,false_or,Bool.and_eq_true] at this
     exact this.symm.imp id fun ⟨h1,h2⟩=>⟨h1,h2.imp id fun h=>Nat.le_of_ble_eq_true h⟩
    have hy:∃v,Hw P ops o v a w∧Ew P ops Q (rest.filterMap fun i=>ops[i]?) (a.put o.dst v) w:=by
     unfold Ew at hq
     by_cases hw:Region.wanted o (yielded ops a.tmps)=true
     ·rw [if_pos hw] at hq
      rcases hq with ⟨v,h1,h2⟩|⟨hn,_⟩
      ·exact ⟨v,.inl ⟨hw,fun w' hk=>hk.elim (fun hb=>Nr hb a.eval (h1 w (Dr.refl w))) (h1 w')⟩,h2⟩
      exact absurd hk hn
     rw [if_neg hw] at hq
     exact ⟨undef,.inr ⟨by simpa using hw,rfl⟩,hq⟩
    obtain ⟨v,hy,hK⟩:=hy
    exact Jt ho hsel ops.size rest.length listed a w hc hfree hr hy (Td hsel rest _ _ _ h2 (hc.set hr) hK)
   split at h1
   ·rename_i j hrd
    obtain rfl:j=i:=by simpa using h1
    have hr:j∈Region.ready .any ops listed:=by rw [hrd];simp
    refine ⟨fun h0=>(by rw [h0] at hrd;cases hrd),fun k hk=>?_⟩
    rw [hrd] at hk
    obtain rfl:k=j:=by simpa using hk
    have ih:=fun a w=>Td (Q:=Q) hsel rest (listed.setIfInBounds k true) a w h2 (hc.set hr)
    unfold opM
    simp only [ho]
    unfold Ew at hq
    split
    ·rename_i hw
     rw [if_pos hw] at hq
     rcases hq with ⟨v,h1,h2⟩|⟨_,hd⟩
     ·unfold H4
      rw [h1 w (Dr.refl w)]
      exact ⟨fun _=>Dr.refl w,ih _ _ h2⟩
     exact hd.mono fun a w h=>ih a w h
    rename_i hw
    rw [if_neg hw] at hq
    exact ih _ _ hq
   simp at h1
  simp at h1
theorem Wj {id:Nat}{Q:Exit→Act→World→Prop}{a:Act}{w:World}{ord:List Nat}(hm:P.follows .mixedOrders=true)(hB:A91 ops ord=true)
  (h:Ew P ops (fun a w=>Q .normal a w) (Ym ops ord) a {w with drawn:=w.drawn+1}):(Code.region id ops true).wp P Q a w:=by
 simp only [A91,Bool.and_eq_true,beq_iff_eq] at hB
 obtain ⟨⟨h1,h2⟩,h3⟩:=hB
 refine wp_region_any hm (Pp (Q:=fun a w=>Q .normal a w) (fun _ _ h=>h) _ _ _ _ ?_)
 have:=Td (Region.noSelect_spec h1) ord (Array.replicate ops.size false) a _ h3 (fun j o _ hl=>by exfalso;by_cases hj:j<ops.size<;>simp [hj] at hl) h
 rwa [h2] at this
end Go.Sx
namespace Go.Sx
variable {P : Program} {T : List (TypeId × TI)}
theorem Ie (wr:Bool)(op:BinOp)(t:TypeId)(x y:AV):(∀c,Tg wr T op t x y≠ .new c)∧(∀c,Tg wr T op t x y≠ .mem c)∧∀p c,Tg wr T op t x y≠ .own p c:=by
 refine ⟨?_,?_,?_⟩<;>intros<;>intro h<;>unfold Tg at h<;>(repeat' (split at h))<;>simp at h
theorem B1d (hT:Cn P T){wr:Bool}{s:AS}{op:Op}{cells:List AV}(hs:step T wr s op= .new cells){B:B0}{E:Cz}{a:Act}{w:World}(h:s.is B E a w)
  (o:Oper)(ho:o.op=op):∃vs ty,(execOp a.eval o).run P w= .ok (.value (.pointer (some ⟨w.heap.size,0,none⟩))) (w.alloc (.cells vs ty))∧vs.size=cells.length∧
   (∀j y,cells[j]? =some y→Cu E w (s.avoid E) s.next y (vs.getD j undef))∧Du op=1:=by
 obtain ⟨dst,op',ty,pos,after,guard⟩:=o
 simp only at ho
 subst ho
 unfold step at hs
 split at hs
 case h_5 t=>
  split at hs
  ·rename_i i hi
   simp only [Ec.new.injEq] at hs
   subst hs
   obtain ⟨z,hz,hrun⟩:=S6 (hT t i hi)
   obtain ⟨h1,h2⟩:=T3 (hT t i hi) hz E w (s.avoid E) s.next
   exact ⟨z.cells,t,by simp [execOp,Instr.alloc,hrun,newVar,newRow],h1,h2,rfl⟩
  simp at hs
 case h_6 t x=>
  split at hs
  ·rename_i hc
   simp only [Ec.new.injEq] at hs
   subst hs
   obtain ⟨h1,h2,h3⟩:=Kh (h.ev x) hc h.one
   exact ⟨(a.eval x).cells,t,by simp [execOp,Instr.box,newVar,newRow],h1,h2,rfl⟩
  simp at hs
 case h_3=>exact absurd hs ((Ie ..).1 _)
 all_goals (exfalso;(repeat' (split at hs))<;>simp at hs)
theorem B1c (hT:Cn P T){wr:Bool}{s:AS}{op:Op}{bx:List Bx}(hs:step T wr s op= .mem bx){B:B0}{E:Cz}{a:Act}{w:World}(h:s.is B E a w)
  (o:Oper)(ho:o.op=op):∃w',(execOp a.eval o).run P w= .ok .skip w'∧({s with boxes:=bx}:AS).is B E a w'∧Du op=2:=by
 obtain ⟨dst,op',ty,pos,after,guard⟩:=o
 simp only at ho
 subst ho
 unfold step at hs
 split at hs
 case h_9 t x y=>
  split at hs
  ·rename_i i k off hi e
   split at hs
   ·rename_i b hb
    split at hs
    ·rename_i h1 h2 h3
     simp only [Ec.mem.injEq] at hs
     subst hs
     have hx:=h.ev x
     rw [e] at hx
     obtain ⟨c1,c2,c3⟩:=Kh (h.ev y) h3 h.one
     have h1:=Nat.le_of_ble_eq_true h1
     have h2:=Nat.eq_of_beq_eq_true h2
     generalize hv:a.eval x=v at hx
     cases hx with
     |box _ hk=>
      obtain ⟨hm,rfl⟩:=Ex hb
      obtain ⟨hlt,vs0,ty0,hh0,hs0,hd0⟩:=h.boxes b hm
      have hst:=run_storeCells_at P (E.β b.key) off ty0 (a.eval y).cells.toList 0 vs0 w hh0 (by simp;omega) c3
      simp only [Nat.add_zero] at hst
      have hrun:(Instr.storeAt t (.pointer (some ⟨E.β b.key,off,none⟩)) (a.eval y)).run P w= .ok () (w.setRow (E.β b.key) (vs0.toList.take off++(a.eval y).cells.toList++vs0.toList.drop (off+(a.eval y).cells.toList.length)).toArray):=by
       simp [Instr.storeAt,Instr.sureAddr,storeVar,C6 (hT t i hi),c1,h2,hst]
      refine ⟨_,by simp only [execOp,hv,Sem.run_bind,hrun,Result.andThen_ok];rfl,?_,rfl⟩
      refine h.setBox hb _ _ ?_ (fun j z hj=>?_)
      ·simp [Oh,c1];omega
      rw [A3q] at hj
      have hlen:(List.take off vs0.toList).length=off:=by simp;omega
      simp only [←C2,List.getD] at hd0 c2 ⊢
      by_cases hr:off≤j∧j<off+(s.ev y).cellsOf.length∧j<b.cells.length
      ·rw [if_pos hr] at hj
       have:=c2 _ _ hj
       rw [List.append_assoc,List.getElem?_append_right Ab,hlen,List.getElem?_append_left (by simp;omega)]
       exact this
      rw [if_neg hr] at hj
      have:=hd0 _ _ hj
      have hjl:j<b.cells.length:=(List.getElem?_eq_some_iff.1 hj).1
      by_cases hlo:j<off
      ·rw [List.append_assoc,List.getElem?_append_left Ab]
       simpa [List.getElem?_take,hlo] using this
      rw [List.getElem?_append_right (by simp;omega)]
      simp only [List.length_append,hlen,List.getElem?_drop]
      rw [show off+(a.eval y).cells.toList.length+(j-(off+(a.eval y).cells.toList.length))=j by simp;omega]
      exact this
    simp at hs
   simp at hs
  simp at hs
 case h_3=>exact absurd hs ((Ie ..).2.1 _)
 all_goals (exfalso;(repeat' (split at hs))<;>simp at hs)
theorem Fj {k n:Nat}(h:Nat.blt k n=true):k<n:=by simp [Nat.blt] at h;omega
theorem Jy (z:Array Value)(n k:Nat)(hk:k<n):(madeCells z n).getD k undef=z[k % z.size]! :=by
 simp [madeCells,Array.getD,hk]
theorem Q2 {α:Type}(l:List α):l.flatMap (fun _=>([]:List Nat))=[]:=by
 induction l with
 |nil=>rfl
 |cons x l ih=>simp
theorem O4 {fields:List (Nat×TypeId)}{s:AS}{ps:List (Nat×Operand)}{acc out:List AV}(h:Ls T fields s ps acc=some out):out.length=acc.length:=by
 induction ps generalizing acc with
 |nil=>obtain rfl:=Option.some.inj h;rfl
 |cons p ps ih=>
  obtain ⟨f,x⟩:=p
  unfold Ls at h
  split at h
  ·simp at h
  split at h
  ·simp at h
  split at h
  ·rw [ih h,Oh]
  simp at h
theorem Iy (w:World)(o:Obj):Fx w.heap.size w (w.alloc o):=⟨rfl,rfl,rfl,by simp,fun k hk=>Ee w _ _ hk,Nat.le_refl _⟩
theorem A13 {l:List AV}{xs:List Ae}(h:Zd l=some xs):xs.length=l.length∧∀(k:Nat) (x:Ae),xs[k]? =some x→∃v,l[k]? =some (.v v)∧x= .val v:=by
 induction l generalizing xs with
 |nil=>obtain rfl:=Option.some.inj h;simp
 |cons c l ih=>
  unfold Zd at h
  split at h
  ·rename_i heq;simp at heq
  ·rename_i v r heq
   simp only [List.cons.injEq] at heq
   obtain ⟨rfl,rfl⟩:=heq
   split at h
   ·rename_i cs hcs
    obtain rfl:=Option.some.inj h
    obtain ⟨h1,h2⟩:=ih hcs
    refine ⟨by simp [h1],fun k x hk=>?_⟩
    cases k with
    |zero=>simp only [List.getElem?_cons_zero,Option.some.injEq] at hk;subst hk;exact ⟨v,by simp,rfl⟩
    |succ k=>simpa using h2 k x (by simpa using hk)
   simp at h
  simp at h
theorem Oc (n i size:Nat)(e:TypeId)(k:Nat)(o:Nat)(u:TypeId)(h:(Gb n i size e)[k]? =some (o,u)):o=(i+k) * size∧u=e:=by
 induction n generalizing i k with
 |zero=>simp [Gb] at h
 |succ n ih=>
  cases k with
  |zero=>simp [Gb] at h;exact ⟨by rw [←h.1];simp,h.2.symm⟩
  |succ k=>
   have:=ih (i+1) k (by simpa [Gb] using h)
   exact ⟨by rw [this.1];congr 1;omega,this.2⟩
theorem Hp {α:Type}(n:Nat)(l:List α):(repL n l).length=n * l.length:=by
 induction n with
 |zero=>simp [repL]
 |succ n ih=>simp [repL,ih,Nat.succ_mul];omega
theorem A1h {α:Type}(n:Nat)(l:List α)(k:Nat)(h:k<n * l.length):(repL n l)[k]? =l[k % l.length]? :=by
 induction n generalizing k with
 |zero=>simp at h
 |succ n ih=>
  simp only [repL]
  by_cases hk:k<l.length
  ·rw [List.getElem?_append_left hk,Nat.mod_eq_of_lt hk]
  rw [List.getElem?_append_right Ab,ih (k-l.length) (by rw [Nat.add_mul,Nat.one_mul] at h;omega)]
  congr 1
  exact (Nat.mod_eq_sub_mod Ab).symm
theorem B1e (hT:Cn P T){wr:Bool}{s:AS}{op:Op}{ps:List Prop}{c:Ae}(hs:step T wr s op= .own ps c)(hp:∀p∈ps,p){B:B0}{E:Cz}{a:Act}{w:World}(h:s.is B E a w)
  (o:Oper)(ho:o.op=op):∃v w' fp,(execOp a.eval o).run P w= .ok (.value v) w'∧C1 w' c v fp∧fp.Nodup∧(∀b∈fp,w.heap.size≤b)∧Fx w.heap.size w w'∧Du op=1:=by
 obtain ⟨dst,op',ty,pos,after,guard⟩:=o
 simp only at ho
 subst ho
 unfold step at hs
 split at hs
 case h_3=>exact absurd hs ((Ie ..).2.2 _ _)
 case h_20 t x y=>
  split at hs
  ·rename_i e kl la kc lb he ex ey
   obtain ⟨i,hi,hie⟩:=Option.bind_eq_some_iff.1 he
   split at hs
   ·rename_i j hj
    split at hs
    ·rename_i hbz
     simp only [Ec.own.injEq] at hs
     obtain ⟨rfl,rfl⟩:=hs
     obtain ⟨h0,h1,h2⟩:0≤la∧la≤lb∧lb≤1099511627776:=hp _ Cg
     have hx:=h.ev x
     have hy:=h.ev y
     rw [ex] at hx
     rw [ey] at hy
     have e1:=Bn hx
     have e2:=Bn hy
     have hbz:=Nat.le_of_ble_eq_true hbz
     obtain ⟨f,d,z,S⟩:=TI.of_spec (hT e j hj)
     have hzs:z.cells.size=j.size:=by have:=S.zlen;rw [←S.cells] at this;simpa using this
     have hbytes:(f.bytes:Int) * lb≤281474976710656:=by
      rw [S.bytes]
      have h3:(j.bytes:Int)≤256:=by omega
      have:(j.bytes:Int) * lb≤256 * 1099511627776:=Int.mul_le_mul h3 h2 Ab Ab
      omega
     have hrun:=run_make (P:=P) w t e f z (Dm (hT t i hi) hie) S.hf S.hz kl kc la lb h0 h1 hbytes Ab
     refine ⟨_,_,[w.heap.size],by simp only [execOp,e1,e2,Sem.run_bind,hrun,Result.andThen_ok];rfl,?_,by simp,by simp,Iy w _,rfl⟩
     have hown:=C1.sl (w:=w.alloc (.cells (madeCells z.cells (lb.toNat * f.size)) e)) la.toNat j.size (fun _=>j.zero.map Ae.val) w.heap.size 0 lb.toNat e (madeCells z.cells (lb.toNat * f.size)) (fun _=>[])
      Ab (by simp only [maxLen];omega) (heap_alloc_new w _) (by rw [S.size];simp [madeCells]) (fun _ _=>by simp [S.zlen]) (fun k m c hk hc=>by
       simp only [List.getElem?_map,Option.map_eq_some_iff] at hc
       obtain ⟨v,hv,rfl⟩:=hc
       have hm:m<j.size:=by rw [←S.zlen];exact (List.getElem?_eq_some_iff.1 hv).1
       have hlt:(0+k) * j.size+m<lb.toNat * f.size:=by rw [S.size];exact Fb Ab hm
       have hv1:(madeCells z.cells (lb.toNat * f.size)).getD ((0+k) * j.size+m) undef=v:=by
        rw [Jy _ _ _ hlt,hzs,Nat.mul_comm,Nat.mul_add_mod,Nat.mod_eq_of_lt hm]
        have h4:m<z.cells.size:=by omega
        have h5:z.cells[m]? =some v:=by rw [←Array.getElem?_toList,S.cells];exact hv
        simp [getElem!_pos,h4]
        rw [Array.getElem?_eq_getElem h4] at h5
        exact Option.some.inj h5
       rw [hv1]
       exact .val v (Is S.zone v (List.mem_of_getElem? hv)))
     rw [Q2] at hown
     simpa using hown
    simp at hs
   simp at hs
  simp at hs
 case h_21 t len parts=>
  split at hs
  ·rename_i e he
   obtain ⟨i,hi,hie⟩:=Option.bind_eq_some_iff.1 he
   split at hs
   ·rename_i j hj
    split at hs
    ·rename_i cs hsmall hcs
     split at hs
     ·rename_i vals hvals
      simp only [Ec.own.injEq] at hs
      obtain ⟨rfl,rfl⟩:=hs
      obtain ⟨f,d,z,S⟩:=TI.of_spec (hT e j hj)
      have hzs:z.cells.size=j.size:=by have:=S.zlen;rw [←S.cells] at this;simpa using this
      simp only [Bool.and_eq_true] at hsmall
      have hpos:=Fj hsmall.2
      have hsmall:=Nat.le_of_ble_eq_true hsmall.1
      have hlen:len≤len * j.size:=Nat.le_mul_of_pos_right _ hpos
      have hz0:DL E w (s.avoid E) s.next (repL len (G3 j)) ((Array.range (len * j.size)).map (z.cells[· % z.cells.size]!)):=by
       refine ⟨by simp [Hp,G3,S.zlen],fun k y hy=>?_⟩
       have hzl:(G3 j).length=j.size:=by simp [G3,S.zlen]
       have hk:k<len * j.size:=by have:=(List.getElem?_eq_some_iff.1 hy).1;rwa [Hp,hzl] at this
       rw [A1h _ _ _ (by rw [hzl];exact hk),hzl] at hy
       have:=(T3 (hT e j hj) S.cells E w (s.avoid E) s.next).2 _ _ hy
       have hm:k % j.size<z.cells.size:=by rw [hzs];exact Nat.mod_lt _ (Nat.pos_of_ne_zero (fun h=>by rw [h] at hk;simp at hk))
       have e1:((Array.range (len * j.size)).map (z.cells[· % z.cells.size]!)).getD k undef=z.cells.getD (k % j.size) undef:=by
        have:=Jy z.cells (len * j.size) k hk
        rw [show (Array.range (len * j.size)).map (z.cells[· % z.cells.size]!)=madeCells z.cells (len * j.size) from rfl,this,hzs]
        rw [getElem!_pos z.cells _ hm]
        simp only [Array.getD,hm,dif_pos]
        rfl
       rw [e1]
       exact this
      obtain ⟨cs',hfill,hDL⟩:=Yc hT h (Gb len 0 j.size e) (fun k=>some (k * j.size,j.size)) (fun k o u hk j' hj'=>by
       obtain ⟨rfl,rfl⟩:=Oc _ _ _ _ _ _ _ hk
       rw [hj] at hj'
       obtain rfl:=Option.some.inj hj'
       simp) parts.toList _ _ cs hcs hz0
      obtain ⟨v1,v2⟩:=A13 hvals
      have hcsl:cs'.size=len * j.size:=by
       have:=hDL.1
       have h2:cs.length=len * j.size:=by
        have:=O4 hcs
        rw [this,Hp]
        simp [G3,S.zlen]
       omega
      have hrun:(Instr.buildSlice t len (parts.map fun p=>(p.1,a.eval p.2))).run P w= .ok (.slice (some ⟨w.heap.size,0,none⟩) len len) (w.alloc (.cells cs' e)):=by
       have hnot:¬ (16777216<len * j.size):=by omega
       have hfill':Instr.fill (fun k=>some (k * j.size,j.size)) ((Array.range (len * j.size)).map (z.cells[· % z.cells.size]!)) (parts.map fun p=>(p.1,a.eval p.2)).toList=some cs':=by
        rw [Array.toList_map];exact hfill
       by_cases h0:len * j.size=0
       ·simp [Instr.buildSlice,run_underlying (Dm (hT t i hi) hie),C6 (hT e j hj),h0,newRow,Array.range_zero']
        simp [h0,Array.range_zero'] at hfill'
        rw [hfill']
        simp
       simp [Instr.buildSlice,run_underlying (Dm (hT t i hi) hie),C6 (hT e j hj),hnot,h0,newRow,zeroValue,typeInfo,S.hf,S.hz]
       simp at hfill'
       rw [hfill']
       simp
      refine ⟨_,_,[w.heap.size],by simp only [execOp,Sem.run_bind,hrun,Result.andThen_ok];rfl,?_,by simp,by simp,Iy w _,rfl⟩
      have hvl:vals.length=len * j.size:=by rw [v1,←hDL.1,hcsl]
      have hown:=C1.sl (w:=w.alloc (.cells cs' e)) len j.size (fun i=>(vals.drop (i * j.size)).take j.size) w.heap.size 0 len e cs' (fun _=>[])
       (Nat.le_refl _) (by simp only [maxLen];omega) (heap_alloc_new w _) (by simp [hcsl]) (fun k hk=>by
        have:=Fb hk (Nat.lt_succ_self 0)
        have h2:k * j.size+j.size≤len * j.size:=by rw [←Nat.succ_mul];exact Nat.mul_le_mul_right _ hk
        simp [hvl];omega) (fun k m c hk hc=>by
        have hm:m<j.size:=by have:=(List.getElem?_eq_some_iff.1 hc).1;simp at this;omega
        rw [List.getElem?_take,if_pos hm,List.getElem?_drop] at hc
        obtain ⟨v,hv,rfl⟩:=v2 _ _ hc
        have hd:=hDL.2 _ _ hv
        have e1:=Bn hd
        rw [show (0+k) * j.size+m=k * j.size+m by rw [Nat.zero_add],e1]
        refine .val v ?_
        rw [←e1]
        cases hd with
        |c hr=>exact hr.one)
      rw [Q2] at hown
      simpa using hown
     simp at hs
    simp at hs
   simp at hs
  simp at hs
 all_goals (exfalso;(repeat' (split at hs))<;>simp at hs)
theorem Wf {wr:Bool}{s:AS}{op:Op}{cells:List AV}(hs:step T wr s op= .new cells):Du op=1:=by
 unfold step at hs
 split at hs
 case h_5=>rfl
 case h_6=>rfl
 case h_3=>exact absurd hs ((Ie ..).1 _)
 all_goals (exfalso;(repeat' (split at hs))<;>simp at hs)
theorem We {wr:Bool}{s:AS}{op:Op}{bx:List Bx}(hs:step T wr s op= .mem bx):Du op=2:=by
 unfold step at hs
 split at hs
 case h_9=>rfl
 case h_3=>exact absurd hs ((Ie ..).2.1 _)
 all_goals (exfalso;(repeat' (split at hs))<;>simp at hs)
theorem Wg {wr:Bool}{s:AS}{op:Op}{ps:List Prop}{c:Ae}(hs:step T wr s op= .own ps c):Du op=1:=by
 unfold step at hs
 split at hs
 case h_20=>rfl
 case h_21=>rfl
 case h_3=>exact absurd hs ((Ie ..).2.2 _ _)
 all_goals (exfalso;(repeat' (split at hs))<;>simp at hs)
def G5 (P:Program) (Q:Exit→Act→World→Prop):List KI→Exit→Act→World→Prop
 | []=>Q
 | .code c::K=>Exit.then (c.wp P (G5 P Q K)) (G5 P Q K)
 | .block id::K=>Exit.inBlock id (G5 P Q K)
 | .loop I::K=>Exit.then I (G5 P Q K)
 | .ops false all l::K=>Exit.then (wpList P all (G5 P Q K) l) (G5 P Q K)
 | .ops true all l::K=>Exit.then (Ew P all (fun a w=>G5 P Q K .normal a w) l) (G5 P Q K)
def G (P:Program) (B:B0) (Q:Exit→Act→World→Prop) (K:List KI) (s:AS):Prop:=∀E a w,s.is B E a w→G5 P Q K .normal a w
def Hu (P:Program) (f:FuncId):Prop:=∃fn,P.funcs[f]? =some fn∧(fn.name== "runtime.NumGoroutine")=false∧fn.body.isNone=false
def A33 (P:Program) (B:B0) (Q:Exit→Act→World→Prop) (q:Bool) (f:FuncId) (xs:List AV) (dst:Option Tmp) (K:List KI) (s:AS):Prop:=
 Hu P f∧∀E a w,s.is B E a w→∀vs:List Value,vs.length=xs.length→(∀i x,xs[i]? =some x→Cu E w (s.avoid E) s.next x (vs.getD i undef))→
  Calls P f vs.toArray w fun e w'=>∃v,e= .returned v∧(q=true→Dr w w')∧G5 P Q K .normal (a.put dst v) w'
def B1t (B:B0) (Q:Exit→Act→World→Prop) (s:AS):Prop:=∀E a w,s.is B E a w→Q .ret a w
def vc (P:Program) (B:B0) (Q:Exit→Act→World→Prop):Out→Prop
 | .at_ K s=>G P B Q K s
 | .call q f xs dst K s=>A33 P B Q q f xs dst K s
 | .ret s=>B1t B Q s
 | .ite b t e=>(b=true→vc P B Q t)∧(b=false→vc P B Q e)
 | .need p o=>p∧vc P B Q o
theorem Gx {α:Type}(n:Nat)(k:Nat→α):Hj n k=k n:=by
 induction n generalizing k with
 |zero=>rfl
 |succ n ih=>simp [Hj,ih]
theorem A6h {α:Type}(x:AV)(k:AV→α):Tv x k=k x:=by cases x<;>simp [Tv,Gx]
theorem P2 {α:Type}(l:List AV)(k:List AV→α):Km l k=k l:=by
 induction l generalizing k with
 |nil=>rfl
 |cons x r ih=>simp [Km,A6h,ih]
theorem Wz {α:Type}(x:AV)(k:AV→α):Ye x k=k x:=by cases x<;>simp [Ye,P2,Tv,Gx]
theorem R1 {α:Type}(l:List AV)(k:List AV→α):Lw l k=k l:=by
 induction l generalizing k with
 |nil=>rfl
 |cons x r ih=>simp [Lw,Wz,ih]
theorem X0 {α:Type}(l:List Bx)(k:List Bx→α):Tw l k=k l:=by
 induction l generalizing k with
 |nil=>rfl
 |cons x r ih=>cases x;simp [Tw,P2,Gx,ih]
theorem A6j {α:Type}(l:List Ow)(k:List Ow→α):Ty l k=k l:=by
 induction l generalizing k with
 |nil=>rfl
 |cons x r ih=>cases x;simp [Ty,Gx,ih]
theorem A6i {α:Type}(l:List (Nat×Value))(k:List (Nat×Value)→α):Tx l k=k l:=by
 induction l generalizing k with
 |nil=>rfl
 |cons x r ih=>obtain ⟨a,v⟩:=x;simp [Tx,Gx,ih]
theorem Dj {α:Type}(s:AS)(k:AS→α):I2 s k=k s:=by cases s;simp [I2,Gx,R1,X0,A6j,A6i]
theorem B3j {α:Type}(l:List AV)(i:Nat)(x:AV)(k:List AV→α):B0y l i x k=k (Cm l i x):=by
 induction l generalizing i k with
 |nil=>simp [B0y,Cm]
 |cons y r ih=>cases i<;>simp [B0y,Cm,ih]
theorem B13 {α:Type}(s:AS)(d:Option Tmp)(x:AV)(k:AS→α):Ht s d x k=k (s.put d x):=by
 cases d<;>simp [Ht,AS.put,Wz,B3j]
theorem A93 {α:Type}(s:AS)(cells:List AV)(k:AS→α):A4x s cells k=k (s.newBox cells):=by
 simp [A4x,AS.newBox,P2,Gx]
theorem B29 {α:Type}(s:AS)(c:Ae)(k:AS→α):Mt s c k=k {s with own:=⟨s.next,c⟩::s.own,next:=s.next+1}:=by
 simp [Mt,Gx]
theorem A9z {α:Type}(s:AS)(bx:List Bx)(k:AS→α):A4v s bx k=k {s with boxes:=bx}:=by
 simp [A4v,X0]
theorem B0o (P:Program)(Q:Exit→Act→World→Prop)(K:List KI)(a:Act)(w:World):G5 P Q K .ret a w=Q .ret a w:=by
 induction K with
 |nil=>rfl
 |cons k K ih=>rcases k with _|_|_|⟨_|_,_,_⟩<;>simpa [G5,Exit.then,Exit.inBlock] using ih
theorem A66 (P:Program)(Q:Exit→Act→World→Prop){id:Nat}{K K':List KI}(h:Ob id K=some K'){a:Act}{w:World}(hp:G5 P Q K' .normal a w):G5 P Q K (.exit id) a w:=by
 induction K with
 |nil=>simp [Ob] at h
 |cons k K ih=>
  cases k with
  |block j=>
   unfold Ob at h
   split at h
   ·rename_i hj
    obtain rfl:=Nat.eq_of_beq_eq_true hj
    obtain rfl:=Option.some.inj h
    simpa [G5,Exit.inBlock] using hp
   rename_i hj
   have hne:¬ id=j:=fun e=>by subst e;simp at hj
   simpa [G5,Exit.inBlock,hne] using ih h
  |code c=>simpa [G5,Exit.then] using ih (by simpa [Ob] using h)
  |loop I=>simpa [G5,Exit.then] using ih (by simpa [Ob] using h)
  |ops q all l=>cases q<;>simpa [G5,Exit.then] using ih (by simpa [Ob] using h)
theorem A15 {B:B0}{Q:Exit→Act→World→Prop}{ps:List Prop}{o:Out}(h:vc P B Q (Uc ps o)):(∀p∈ps,p)∧vc P B Q o:=by
 induction ps with
 |nil=>exact ⟨by simp,h⟩
 |cons p r ih=>
  obtain ⟨h1,h2⟩:p∧vc P B Q (Uc r o):=h
  obtain ⟨h3,h4⟩:=ih h2
  exact ⟨fun q hq=>by rcases List.mem_cons.1 hq with rfl|hq;exact h1;exact h3 q hq,h4⟩
theorem AS.is.setBool {s:AS}{B:B0}{E:Cz}{a:Act}{w:World}(h:s.is B E a w){d:Nat}{b:Bool}(hd:Gm s.slots d= .v (.bool b)):
  ({s with slots:=Cm s.slots d (.v (.bool b))}:AS).is B E a w:=by
 have:Cm s.slots d (.v (.bool b))=s.slots:=by
  apply List.ext_getElem?
  intro i
  rw [Dh]
  split
  ·rename_i hi
   obtain ⟨rfl,hl⟩:=hi
   rw [Co,List.getElem?_eq_getElem hl] at hd
   rw [List.getElem?_eq_getElem hl]
   simpa using hd.symm
  rfl
 rw [this]
 exact h
theorem AS.is.yielded {s:AS}{B:B0}{E:Cz}{a:Act}{w:World}(h:s.is B E a w){all:Array Oper}{j:Nat}{d:Tmp}{b:Bool}(hj:Gy all j=some d)(hd:Gm s.slots d= .v (.bool b)):
  yielded all a.tmps j=some b:=by
 have hl:d<s.slots.length:=by
  rw [Co] at hd
  by_cases hl:d<s.slots.length
  ·exact hl
  rw [List.getElem?_eq_none (Nat.le_of_not_lt hl)] at hd;simp at hd
 have hv:a.tmps.getD d undef= .bool b:=by
  have:=h.slots d (.v (.bool b)) (by rw [Co,List.getElem?_eq_getElem hl] at hd;rw [List.getElem?_eq_getElem hl];simpa using hd)
  exact Bn this
 have hsz:d<a.tmps.size:=by rw [h.size];exact hl
 unfold Gy at hj
 simp only [Array.getD,hsz,dif_pos] at hv
 have h2:a.tmps[d]? =some (.bool b):=by rw [Array.getElem?_eq_getElem hsz];exact congrArg some hv
 unfold Go.yielded
 rw [hj]
 simp [h2]
theorem Pv {E:Cz}{w:World}{A:Nat→Prop}{N:Nat}(all:Array Oper)(d:Option Tmp):Cu E w A N (L1 all d) undef:=by
 have h:Cu E w A N (.tup []) (.tuple ([]:List Value).toArray):= .tup [] rfl (fun i x hx=>by simp at hx)
 unfold L1
 split
 ·exact .any _
 split
 ·exact h
 exact .any _
theorem A8r {E:Cz}{w:World}{A:Nat→Prop}{N:Nat}{v:Value}(h:Cu E w A N (.tup []) v):v=undef:=by
 cases h with
 |tup vs hl h=>
  have:vs=[]:=List.eq_nil_of_length_eq_zero hl
  subst this;rfl
theorem AS.is.yielded0 {s:AS}{B:B0}{E:Cz}{a:Act}{w:World}(h:s.is B E a w){all:Array Oper}{j:Nat}{d:Tmp}(hj:Gy all j=some d)(hd:Gm s.slots d= .tup []):
  Go.yielded all a.tmps j=none:=by
 have hl:d<s.slots.length:=by
  rw [Co] at hd
  by_cases hl:d<s.slots.length
  ·exact hl
  rw [List.getElem?_eq_none (Nat.le_of_not_lt hl)] at hd;simp at hd
 have hv:a.tmps.getD d undef=undef:=by
  have:=h.slots d (.tup []) (by rw [Co,List.getElem?_eq_getElem hl] at hd;rw [List.getElem?_eq_getElem hl];simpa using hd)
  exact A8r this
 have hsz:d<a.tmps.size:=by rw [h.size];exact hl
 unfold Gy at hj
 simp only [Array.getD,hsz,dif_pos] at hv
 have h2:a.tmps[d]? =some undef:=by rw [Array.getElem?_eq_getElem hsz];exact congrArg some hv
 unfold Go.yielded
 rw [hj]
 simp [h2,undef]
end Go.Sx
namespace Go.Sx
variable {P : Program} {T : List (TypeId × TI)}
structure AS.isA (s:AS) (B:B0) (E:Cz) (A:Nat→Prop) (a:Act) (w:World):Prop where
 defers:a.defers=[]
 links:∀p∈s.links,p.1<s.next∧E.ov p.1=p.2
 size:a.tmps.size=s.slots.length
 slots:∀i x,s.slots[i]? =some x→Cu E w A s.next x (a.tmps.getD i undef)
 boxes:∀x∈s.boxes,x.key<s.next∧∃vs ty,w.heap[E.β x.key]? =some (.cells vs ty (0,0))∧vs.size=x.cells.length∧
  ∀i y,x.cells[i]? =some y→Cu E w A s.next y (vs.getD i undef)
 boxes2:∀x∈s.boxes,∀y∈s.boxes,E.β x.key=E.β y.key→x.key=y.key
 keys:(s.boxes.map (·.key)).Nodup
 own:∀y∈s.own,y.key<s.next∧C1 w y.cell (E.ov y.key) (E.fp y.key)∧(E.fp y.key).Nodup
 ownkeys:(s.own.map (·.key)).Nodup
 sep:∀y∈s.own,∀z∈s.own,y.key≠z.key→∀b∈E.fp y.key,b∉E.fp z.key
 sepB:∀x∈s.boxes,∀y∈s.own,E.β x.key∉E.fp y.key
 one:∀k,k<s.next→(E.ov k).oneCell'=true
 base:B.rel w
 fresh:∀b,s.avoid E b→B.fresh b
 sub:∀b,s.avoid E b→A b
theorem AS.isA.is {s:AS}{B:B0}{E:Cz}{A:Nat→Prop}{a:Act}{w:World}(h:s.isA B E A a w):s.is B E a w:=by
 have mv:∀x v,Cu E w A s.next x v→Cu E w (s.avoid E) s.next x v:=fun x v hx=>
  hx.move (Nat.le_refl _) (fun _ _=>⟨rfl,rfl⟩) (fun _ _ _=>rfl) (fun b _ hb=>h.sub b hb)
 refine ⟨h.defers,h.links,h.size,fun i x hx=>mv _ _ (h.slots i x hx),fun x hx=>?_,h.boxes2,h.keys,h.own,h.ownkeys,h.sep,h.sepB,h.one,h.base,h.fresh⟩
 obtain ⟨h1,vs,ty,h2,h3,h4⟩:=h.boxes x hx
 exact ⟨h1,vs,ty,h2,h3,fun i y hy=>mv _ _ (h4 i y hy)⟩
theorem AS.is.call {s:AS}{B:B0}{E:Cz}{a:Act}{w w':World}(h:s.is B E a w)(hb:Fx w.heap.size w w'):s.isA B E (fun b=>s.avoid E b∨w.heap.size≤b) a w':=by
 have mv:∀x v,Cu E w (s.avoid E) s.next x v→Cu E w' (fun b=>s.avoid E b∨w.heap.size≤b) s.next x v:=fun x v hx=>
  hx.move (Nat.le_refl _) (fun _ _=>⟨rfl,rfl⟩) (fun b _ hl=>hb.block b hl) (fun b hl hA=>by
   rcases hA with h|h
   ·exact h
   omega)
 refine ⟨h.defers,h.links,h.size,fun i x hx=>mv _ _ (h.slots i x hx),fun x hx=>?_,h.boxes2,h.keys,fun y hy=>?_,h.ownkeys,h.sep,h.sepB,h.one,?_,h.fresh,fun b hb=> .inl hb⟩
 ·obtain ⟨h1,vs,ty,h2,h3,h4⟩:=h.boxes x hx
  exact ⟨h1,vs,ty,by rw [hb.block _ (Array.getElem?_eq_some_iff.1 h2).1];exact h2,h3,fun i y hy=>mv _ _ (h4 i y hy)⟩
 ·obtain ⟨h1,h2,h3⟩:=h.own y hy
  exact ⟨h1,h2.move (fun b hb'=>hb.block b (h2.lt b hb')),h3⟩
 have hB:=h.base
 refine ⟨hb.os.trans hB.os,hb.tape.trans hB.tape,hb.output.trans hB.output,Nat.le_trans hB.size hb.size,fun k hk hm=>?_,Nat.le_trans hB.drawn hb.drawn⟩
 rw [hb.block k (Nat.lt_of_lt_of_le hk hB.size)]
 exact hB.block k hk hm
def Cz.withOwn (E:Cz) (n:Nat) (v:Value) (fp:List Nat):Cz:=
 {E with ov:=fun k=>if k=n then v else E.ov k,fp:=fun k=>if k=n then fp else E.fp k}
theorem Cz.withOwn_keep (E:Cz)(n:Nat)(v:Value)(fp:List Nat){k:Nat}(h:k≠n):(E.withOwn n v fp).β k=E.β k∧(E.withOwn n v fp).ov k=E.ov k:=by
 have h:(E.withOwn n v fp).ov k=E.ov k:=by simp [Cz.withOwn,h]
 exact ⟨Cz.β_of h,h⟩
def AS.addOwn (s:AS) (c:Ae):AS:= {s with own:=⟨s.next,c⟩::s.own,next:=s.next+1}
theorem AS.isA.addOwn {s:AS}{B:B0}{E:Cz}{A:Nat→Prop}{a:Act}{w:World}(h:s.isA B E A a w){c:Ae}{v:Value}{fp:List Nat}(ho:C1 w c v fp)(hn:fp.Nodup)
  (hA:∀b∈fp,A b∧¬ s.avoid E b∧B.fresh b):
  (s.addOwn c).isA B (E.withOwn s.next v fp) A a w∧Cu (E.withOwn s.next v fp) w A (s.next+1) (.own s.next) v:=by
 have kE:∀k,k<s.next→(E.withOwn s.next v fp).β k=E.β k∧(E.withOwn s.next v fp).ov k=E.ov k:=fun k hk=>by
  have:k≠s.next:=by omega
  have h:(E.withOwn s.next v fp).ov k=E.ov k:=by simp [Cz.withOwn,this]
  exact ⟨Cz.β_of h,h⟩
 have kb:∀x∈s.boxes,(E.withOwn s.next v fp).β x.key=E.β x.key:=fun x hx=>(kE _ (h.boxes x hx).1).1
 have kfp:∀y∈s.own,(E.withOwn s.next v fp).fp y.key=E.fp y.key:=fun y hy=>by
  have:y.key≠s.next:=by have:=(h.own y hy).1;omega
  simp [Cz.withOwn,this]
 have kfn:(E.withOwn s.next v fp).fp s.next=fp:=by simp [Cz.withOwn]
 have av:∀b,(s.addOwn c).avoid (E.withOwn s.next v fp) b↔b∈fp∨s.avoid E b:=by
  intro b
  constructor
  ·rintro (⟨x,hx,rfl⟩|⟨y,hy,hb⟩)
   ·exact .inr (.inl ⟨x,hx,(kb x hx).symm⟩)
   rcases List.mem_cons.1 hy with rfl|hy
   ·rw [kfn] at hb;exact .inl hb
   rw [kfp y hy] at hb;exact .inr (.inr ⟨y,hy,hb⟩)
  rintro (hb|⟨x,hx,rfl⟩|⟨y,hy,hb⟩)
  ·exact .inr ⟨_,List.mem_cons_self,by rw [kfn];exact hb⟩
  ·exact .inl ⟨x,hx,kb x hx⟩
  exact .inr ⟨y,List.mem_cons_of_mem _ hy,by rw [kfp y hy];exact hb⟩
 have mv:∀x v',Cu E w A s.next x v'→Cu (E.withOwn s.next v fp) w A (s.next+1) x v':=fun x v' hx=>hx.move (Nat.le_succ _) kE (fun _ _ _=>rfl) (fun _ _ hb=>hb)
 refine ⟨⟨h.defers,fun p hp=>⟨Nat.lt_succ_of_lt (h.links p hp).1,by rw [(kE _ (h.links p hp).1).2];exact (h.links p hp).2⟩,h.size,fun i x hx=>mv _ _ (h.slots i x hx),fun x hx=>?_,fun x hx y hy e=>h.boxes2 x hx y hy (by rw [←kb x hx,←kb y hy];exact e),h.keys,fun y hy=>?_,?_,?_,?_,?_,h.base,?_,?_⟩,?_⟩
 ·obtain ⟨h1,vs,ty,h2,h3,h4⟩:=h.boxes x hx
  exact ⟨Nat.lt_succ_of_lt h1,vs,ty,by rw [kb x hx];exact h2,h3,fun i y hy=>mv _ _ (h4 i y hy)⟩
 ·rcases List.mem_cons.1 hy with rfl|hy
  ·refine ⟨Nat.lt_succ_self _,?_,?_⟩
   ·rw [kfn];simpa [Cz.withOwn] using ho
   rw [kfn];exact hn
  obtain ⟨h1,h2,h3⟩:=h.own y hy
  rw [kfp y hy,(kE _ h1).2]
  exact ⟨Nat.lt_succ_of_lt h1,h2,h3⟩
 ·simp only [AS.addOwn,List.map_cons,List.nodup_cons]
  refine ⟨fun hm=>?_,h.ownkeys⟩
  obtain ⟨y,hy,e⟩:=List.mem_map.1 hm
  have:=(h.own y hy).1
  omega
 ·intro y hy z hz hne b hb hb'
  rcases List.mem_cons.1 hy with rfl|hy<;>rcases List.mem_cons.1 hz with rfl|hz
  ·exact hne rfl
  ·rw [kfn] at hb
   rw [kfp z hz] at hb'
   exact (hA b hb).2.1 (.inr ⟨z,hz,hb'⟩)
  ·rw [kfp y hy] at hb
   rw [kfn] at hb'
   exact (hA b hb').2.1 (.inr ⟨y,hy,hb⟩)
  rw [kfp y hy] at hb
  rw [kfp z hz] at hb'
  exact h.sep y hy z hz hne b hb hb'
 ·intro x hx y hy hb
  rw [kb x hx] at hb
  rcases List.mem_cons.1 hy with rfl|hy
  ·rw [kfn] at hb
   exact (hA _ hb).2.1 (.inl ⟨x,hx,rfl⟩)
  rw [kfp y hy] at hb
  exact h.sepB x hx y hy hb
 ·intro k hk
  by_cases e:k=s.next
  ·subst e;simpa [Cz.withOwn] using ho.one
  have hk':k<s.next:=by have:k<s.next+1:=hk;omega
  rw [(kE _ hk').2]
  exact h.one k hk'
 ·intro b hb
  rcases (av b).1 hb with hb|hb
  ·exact (hA b hb).2.2
  exact h.fresh b hb
 ·intro b hb
  rcases (av b).1 hb with hb|hb
  ·exact (hA b hb).1
  exact h.sub b hb
 have:=Cu.own (E:=E.withOwn s.next v fp) (w:=w) (A:=A) (N:=s.next+1) (k:=s.next) (Nat.lt_succ_self _)
 simpa [Cz.withOwn] using this
theorem AS.isA.put {s:AS}{B:B0}{E:Cz}{A:Nat→Prop}{a:Act}{w:World}(h:s.isA B E A a w)(d:Option Tmp){x:AV}{v:Value}(hx:Cu E w A s.next x v):
  (s.put d x).isA B E A (a.put d v) w:=by
 cases d with
 |none=>exact h
 |some d=>
  refine ⟨h.defers,h.links,?_,?_,h.boxes,h.boxes2,h.keys,h.own,h.ownkeys,h.sep,h.sepB,h.one,h.base,h.fresh,h.sub⟩
  ·simp [Act.put,AS.put,Ci,h.size]
  intro i y hy
  simp only [AS.put,Dh] at hy
  simp only [Act.put]
  by_cases hi:d=i∧i<s.slots.length
  ·rw [if_pos hi] at hy
   obtain ⟨rfl,hl⟩:=hi
   obtain rfl:x=y:=by simpa using hy
   have:d<a.tmps.size:=by rw [h.size];exact hl
   change Cu E w A s.next x _
   simpa [Array.getD,Array.size_setIfInBounds,this] using hx
  rw [if_neg hi] at hy
  have hl:i<s.slots.length:=(List.getElem?_eq_some_iff.1 hy).1
  have hne:d≠i:=fun e=>hi ⟨e,hl⟩
  have hsz:i<a.tmps.size:=by rw [h.size];exact hl
  have:=h.slots i y hy
  change Cu E w A s.next y _
  simpa [Array.getD,Array.size_setIfInBounds,hsz,Array.getElem_setIfInBounds,hne] using this
end Go.Sx
namespace Go.Sx
variable {P : Program} {T : List (TypeId × TI)}
theorem Dr.of_below {w w':World}(h:Fx w.heap.size w w'):Dr w w':=⟨h.size,h.block⟩
theorem Jo {B:B0}{Q:Exit→Act→World→Prop}{q:Bool}{all:Array Oper}{o:Oper}{rest:List Oper}{K:List KI}{s:AS}(hg:o.guard=none)(hk:Du o.op≠0)
  (h:∀E a w,s.is B E a w→∃v w',((execOp a.eval o).run P w= .ok (.value v) w'∨((execOp a.eval o).run P w= .ok .skip w'∧v=undef))∧(Du o.op=1→Dr w w')∧
   G5 P Q (.ops q all rest::K) .normal (a.put o.dst v) w'):G P B Q (.ops q all (o::rest)::K) s:=by
 intro E a w hs
 obtain ⟨v,w',h1,h2,h3⟩:=h E a w hs
 cases q with
 |false=>
  show wpList P all (G5 P Q K) (o::rest) a w
  unfold wpList
  rw [if_pos (by simp [Region.wanted,hg])]
  refine .inl ?_
  unfold Oper.wp
  rcases h1 with h1|⟨h1,rfl⟩<;>rw [h1]<;>exact h3
 |true=>
  show Ew P all _ (o::rest) a w
  unfold Ew
  rw [if_pos (by simp [Region.wanted,hg])]
  refine .inr ⟨hk,?_⟩
  unfold H4
  rcases h1 with h1|⟨h1,rfl⟩<;>rw [h1]<;>exact ⟨fun h=>h2 Ab,h3⟩
theorem Ei {B:B0}{Q:Exit→Act→World→Prop}{q:Bool}{all:Array Oper}{o:Oper}{rest:List Oper}{K:List KI}{s:AS}(hg:o.guard=none)
  (h:∀E a w,s.is B E a w→∃v,(∀w',Dr w w'→(execOp a.eval o).run P w'= .ok (.value v) w')∧G5 P Q (.ops q all rest::K) .normal (a.put o.dst v) w):G P B Q (.ops q all (o::rest)::K) s:=by
 intro E a w hs
 obtain ⟨v,h1,h3⟩:=h E a w hs
 cases q with
 |false=>
  show wpList P all (G5 P Q K) (o::rest) a w
  unfold wpList
  rw [if_pos (by simp [Region.wanted,hg])]
  refine .inl ?_
  unfold Oper.wp
  rw [h1 w (Dr.refl w)]
  exact h3
 |true=>
  show Ew P all _ (o::rest) a w
  unfold Ew
  rw [if_pos (by simp [Region.wanted,hg])]
  exact .inl ⟨v,h1,h3⟩
theorem Iu {Q:Exit→Act→World→Prop}{q:Bool}{all:Array Oper}{o:Oper}{rest:List Oper}{K:List KI}{a:Act}{w:World}(hw:Region.wanted o (yielded all a.tmps)=false)
  (h:G5 P Q (.ops q all rest::K) .normal (a.put o.dst undef) w):G5 P Q (.ops q all (o::rest)::K) .normal a w:=by
 cases q with
 |false=>
  show wpList P all (G5 P Q K) (o::rest) a w
  unfold wpList
  rw [if_neg (by simp [hw])]
  exact h
 |true=>
  show Ew P all _ (o::rest) a w
  unfold Ew
  rw [if_neg (by simp [hw])]
  exact h
theorem Rz {Q:Exit→Act→World→Prop}{q:Bool}{all:Array Oper}{o:Oper}{rest:List Oper}{K:List KI}{a:Act}{w:World}(hw:Region.wanted o (yielded all a.tmps)=true)
  (h:G5 P Q (.ops q all ({o with guard:=none}::rest)::K) .normal a w):G5 P Q (.ops q all (o::rest)::K) .normal a w:=by
 cases q with
 |false=>
  change wpList P all (G5 P Q K) ({o with guard:=none}::rest) a w at h
  show wpList P all (G5 P Q K) (o::rest) a w
  unfold wpList at h ⊢
  rw [if_pos (by simp [Region.wanted])] at h
  rw [if_pos hw]
  exact h
 |true=>
  change Ew P all _ ({o with guard:=none}::rest) a w at h
  show Ew P all _ (o::rest) a w
  unfold Ew at h ⊢
  rw [if_pos (by simp [Region.wanted])] at h
  rw [if_pos hw]
  exact h
theorem A1j (f:FuncId)(hf:Hu P f)(args:Array Operand)(ats:Array TypeId)(a:Act)(o:Oper)(ho:o.op= .call {callee:= .value (.func f),args,argTypes:=ats})(w:World):
  (execOp a.eval o).run P w= .ok (.enter f (args.map a.eval)) w:=by
 obtain ⟨fn,h1,h2,h3⟩:=hf
 obtain ⟨dst,op',ty,pos,after,guard⟩:=o
 simp only at ho
 subst ho
 have e:a.eval (.func f)= .func (.func f) #[] #[]:=rfl
 have h2':¬ fn.name= "runtime.NumGoroutine" :=by simpa using h2
 have h3':¬ fn.body=none:=by intro e;rw [e] at h3;simp at h3
 simp [execOp,resolve,e,Deferred.ofValue,invoke,callFunc,h1,h2',h3']
theorem Xi (f:FuncId)(hf:Hu P f)(t:Tmp)(vs:List Value)(args:Array Operand)(ats:Array TypeId)(a:Act)(o:Oper)(ho:o.op= .call {callee:= .value (.tmp t),args,argTypes:=ats})
  (hv:a.eval (.tmp t)= .func (.func f) #[] vs.toArray)(w:World):
  (execOp a.eval o).run P w= .ok (.enter f (args.map a.eval++vs.toArray)) w:=by
 obtain ⟨fn,h1,h2,h3⟩:=hf
 obtain ⟨dst,op',ty,pos,after,guard⟩:=o
 simp only at ho
 subst ho
 have h2':¬ fn.name= "runtime.NumGoroutine" :=by simpa using h2
 have h3':¬ fn.body=none:=by intro e;rw [e] at h3;simp at h3
 simp [execOp,resolve,hv,Deferred.ofValue,invoke,callFunc,h1,h2',h3']
theorem A7a (hT:Cn P T){B:B0}{Q:Exit→Act→World→Prop}(wr:Bool):∀(n:Nat) (K:List KI) (s:AS),vc P B Q (run T wr n K s)→G P B Q K s:=by
 intro n
 induction n with
 |zero=>intro K s h;simpa [run,Dj,vc] using h
 |succ n ih=>
  intro K s h
  match K with
  | []=>simpa [run,Dj,vc] using h
  | .block id::K=>exact fun E a w hs=>ih K s (by simpa [run] using h) E a w hs
  | .loop I::K=>simpa [run,Dj,vc] using h
  | .code c::K=>
   cases c with
   |skip=>exact fun E a w hs=>wp_skip (ih K s (by simpa [run] using h) E a w hs)
   |seq x y=>exact fun E a w hs=>wp_seq (ih (.code x:: .code y::K) s (by simpa [run] using h) E a w hs)
   |block id c=>exact fun E a w hs=>wp_block (ih (.code c:: .block id::K) s (by simpa [run] using h) E a w hs)
   |cond o t e=>
    simp only [run] at h
    split at h
    ·rename_i b hb
     intro E a w hs
     have hv:=hs.ev o
     rw [hb] at hv
     have e1:=Bn hv
     obtain ⟨h1,h2⟩:(b=true→_)∧(b=false→_):=h
     exact wp_cond_split e1 (fun hb=>ih (.code t::K) s (h1 hb) E a w hs) (fun hb=>ih (.code e::K) s (h2 hb) E a w hs)
    simpa [Dj,vc] using h
   |exit id=>
    simp only [run] at h
    split at h
    ·rename_i K' hK
     exact fun E a w hs=>wp_exit (A66 P Q hK (ih K' s h E a w hs))
    simpa [Dj,vc] using h
   |ret=>
    simp only [run,Dj,vc] at h
    exact fun E a w hs=>wp_ret (by rw [B0o];exact h E a w hs)
   |region id ops draw=>
    cases draw with
    |false=>exact fun E a w hs=>wp_region_list (ih (.ops false ops ops.toList::K) s (by simpa [run] using h) E a w hs)
    |true=>simpa [run,Dj,vc] using h
   |loop c=>simpa [run,Dj,vc] using h
   |rangeFunc f ps x y=>simpa [run,Dj,vc] using h
   |scope c=>simpa [run,Dj,vc] using h
   |label l=>simpa [run,Dj,vc] using h
   |goto l=>simpa [run,Dj,vc] using h
   |refuse why=>simpa [run,Dj,vc] using h
  | .ops q all []::K=>exact fun E a w hs=>by have:=ih K s (by simpa [run] using h) E a w hs;cases q<;>exact this
  | .ops q all (o::rest)::K=>
   simp only [run,B13,A93,A9z,B29] at h
   split at h
   ·rename_i hg
    split at h
    ·rename_i c x y hop
     split at h
     ·rename_i b hb
      obtain ⟨h1,h2⟩:(b=true→_)∧(b=false→_):=h
      refine Ei hg (fun E a w hs=>?_)
      have hv:=hs.ev c
      rw [hb] at hv
      have e1:=Bn hv
      obtain ⟨dst,op',ty,pos,after,guard⟩:=o
      simp only at hop
      subst hop
      cases b with
      |true=>exact ⟨a.eval x,fun w' _=>by simp [execOp,e1,asBool],ih _ _ (h1 rfl) E _ w (hs.put dst (hs.ev x))⟩
      |false=>exact ⟨a.eval y,fun w' _=>by simp [execOp,e1,asBool],ih _ _ (h2 rfl) E _ w (hs.put dst (hs.ev y))⟩
     simpa [Dj,vc] using h
    ·rename_i f args ats hop
     simp only [R1,Dj,vc] at h
     obtain ⟨hc,h⟩:=h
     intro E a w hs
     have:=h E a w hs (args.toList.map a.eval) Cg (fun i x hx=>by
      simp only [List.getElem?_map,Option.map_eq_some_iff] at hx
      obtain ⟨y,hy,rfl⟩:=hx
      simpa [List.getD,hy] using hs.ev y)
     have e:(args.toList.map a.eval).toArray=args.map a.eval:=by obtain ⟨l⟩:=args;simp
     rw [e] at this
     cases q with
     |false=>
      show wpList P all (G5 P Q K) (o::rest) a w
      unfold wpList
      rw [if_pos (by simp [Region.wanted,hg])]
      refine .inl ?_
      unfold Oper.wp
      rw [A1j f hc args ats a o hop w]
      exact this.mono fun e w' ⟨v,he,_,hp⟩=>by subst he;exact hp
     |true=>
      show Ew P all _ (o::rest) a w
      unfold Ew
      rw [if_pos (by simp [Region.wanted,hg])]
      refine .inr ⟨by rw [hop];simp [Du],?_⟩
      unfold H4
      rw [A1j f hc args ats a o hop w]
      exact this.mono fun e w' ⟨v,he,hk,hp⟩=>⟨v,he,fun _=>hk rfl,hp⟩
    ·rename_i t args ats hop
     split at h
     ·rename_i f caps hn
      simp only [R1,Dj,vc] at h
      obtain ⟨hc,h⟩:=h
      intro E a w hs
      have hv:=hs.ev (.tmp t)
      rw [show s.ev (.tmp t)= .fn f caps from hn] at hv
      generalize hu:a.eval (.tmp t)=u at hv
      cases hv with
      |fn vs hl hv'=>
       have:=h E a w hs (args.toList.map a.eval++vs) (by simp [hl]) (fun i x hx=>by
        by_cases hi:i<args.toList.length
        ·rw [List.getElem?_append_left (by simpa using hi)] at hx
         simp only [List.getElem?_map,Option.map_eq_some_iff] at hx
         obtain ⟨y,hy,rfl⟩:=hx
         rw [List.getD,List.getElem?_append_left (by simpa using hi)]
         simpa [hy] using hs.ev y
        rw [List.getElem?_append_right (by simpa using hi)] at hx
        have:=hv' _ x hx
        rw [List.getD,List.getElem?_append_right (by simpa using hi)]
        simpa [List.getD] using this)
       have e:(args.toList.map a.eval++vs).toArray=args.map a.eval++vs.toArray:=by obtain ⟨l⟩:=args;simp
       rw [e] at this
       cases q with
       |false=>
        show wpList P all (G5 P Q K) (o::rest) a w
        unfold wpList
        rw [if_pos (by simp [Region.wanted,hg])]
        refine .inl ?_
        unfold Oper.wp
        rw [Xi f hc t vs args ats a o hop hu w]
        exact this.mono fun e w' ⟨v,he,_,hp⟩=>by subst he;exact hp
       |true=>
        show Ew P all _ (o::rest) a w
        unfold Ew
        rw [if_pos (by simp [Region.wanted,hg])]
        refine .inr ⟨by rw [hop];simp [Du],?_⟩
        unfold H4
        rw [Xi f hc t vs args ats a o hop hu w]
        exact this.mono fun e w' ⟨v,he,hk,hp⟩=>⟨v,he,fun _=>hk rfl,hp⟩
     simpa [Dj,vc] using h
    rename_i op hn1 hn2 hn3
    split at h
    ·simpa [Dj,vc] using h
    ·rename_i ps x hst
     obtain ⟨hps,h⟩:=A15 h
     refine Ei hg (fun E a w hs=>?_)
     obtain ⟨v,hr,hd⟩:=Z9 hT hst hps hs o rfl
     exact ⟨v,hr,ih _ _ h E _ w (hs.put o.dst hd)⟩
    ·rename_i cells hst
     have hkind:Du o.op=1:=Wf hst
     refine Jo hg Ab (fun E a w hs=>?_)
     obtain ⟨vs,ty,hr,h1,h2⟩:=B1d hT hst hs o rfl
     obtain ⟨k1,k2⟩:=hs.newBox cells vs ty h1 h2.1
     exact ⟨_,_,.inl hr,fun _=> .of_below (Iy w _),ih _ _ h _ _ _ (k1.put o.dst k2)⟩
    ·rename_i ps c hst
     obtain ⟨hps,h⟩:=A15 h
     have hkind:Du o.op=1:=Wg hst
     refine Jo hg Ab (fun E a w hs=>?_)
     obtain ⟨v,w',fp,hr,h1,h2,h3,h4,_⟩:=B1e hT hst hps hs o rfl
     obtain ⟨k1,k2⟩:=(hs.call h4).addOwn h1 h2 (fun b hb=>⟨.inr (h3 b hb),fun hav=>by
      have:=hs.avoid_lt hav
      have:=h3 b hb
      omega,.inl (Nat.le_trans hs.base.size (h3 b hb))⟩)
     exact ⟨_,_,.inl hr,fun _=> .of_below h4,ih _ _ h _ _ _ (k1.put o.dst k2).is⟩
    rename_i bx hst
    have hkind:Du o.op=2:=We hst
    refine Jo hg Ab (fun E a w hs=>?_)
    obtain ⟨w',hr,k1,_⟩:=B1c hT hst hs o rfl
    exact ⟨_,_,.inr ⟨hr,rfl⟩,fun h=>by omega,ih _ _ h _ _ _ (k1.put o.dst (.any _))⟩
   ·rename_i j hg
    split at h
    ·rename_i d hd
     split at h
     ·rename_i b hb
      obtain ⟨h1,h2⟩:(b=true→_)∧(b=false→_):=h
      intro E a w hs
      have hy:=hs.yielded hd hb
      cases b with
      |true=>exact Rz (by simp [Region.wanted,hg,hy]) (ih _ _ (h1 rfl) E a w (hs.setBool hb))
      |false=>exact Iu (by simp [Region.wanted,hg,hy]) (ih _ _ (h2 rfl) E _ w ((hs.setBool hb).put o.dst (Pv all o.dst)))
     ·rename_i hb
      intro E a w hs
      have hy:=hs.yielded0 hd hb
      exact Iu (by simp [Region.wanted,hg,hy]) (ih _ _ h E _ w (hs.put o.dst (Pv all o.dst)))
     simpa [Dj,vc] using h
    simpa [Dj,vc] using h
   rename_i j hg
   split at h
   ·rename_i d hd
    split at h
    ·rename_i b hb
     obtain ⟨h1,h2⟩:(b=true→_)∧(b=false→_):=h
     intro E a w hs
     have hy:=hs.yielded hd hb
     cases b with
     |true=>exact Iu (by simp [Region.wanted,hg,hy]) (ih _ _ (h1 rfl) E _ w ((hs.setBool hb).put o.dst (Pv all o.dst)))
     |false=>exact Rz (by simp [Region.wanted,hg,hy]) (ih _ _ (h2 rfl) E a w (hs.setBool hb))
    ·rename_i hb
     intro E a w hs
     have hy:=hs.yielded0 hd hb
     exact Iu (by simp [Region.wanted,hg,hy]) (ih _ _ h E _ w (hs.put o.dst (Pv all o.dst)))
    simpa [Dj,vc] using h
   simpa [Dj,vc] using h
theorem A57 (hm:P.follows .mixedOrders=true){B:B0}{Q:Exit→Act→World→Prop}{id:Nat}{ops:Array Oper}{K:List KI}{s:AS}(ord:List Nat)(hB:A91 ops ord=true)
  (h:G P B Q (.ops true ops (Ym ops ord)::K) s):G P B Q (.code (.region id ops true)::K) s:=
 fun E a w hs=>Wj hm hB (h E a _ (hs.call (w':= {w with drawn:=w.drawn+1}) ⟨rfl,rfl,rfl,Nat.le_refl _,fun _ _=>rfl,Nat.le_succ _⟩).is)
theorem B02 (hT:Cn P T){B:B0}{Q:Exit→Act→World→Prop}(wr:Bool)(n:Nat)(K:List KI)(s:AS)(h:vc P B Q (Ni T wr n K s)):G P B Q K s:=
 A7a hT wr n K s (by simpa [Ni,Dj] using h)
end Go.Sx
