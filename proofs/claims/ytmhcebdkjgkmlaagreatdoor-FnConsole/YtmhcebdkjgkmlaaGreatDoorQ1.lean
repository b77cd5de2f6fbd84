/- Part 1 of the proof that each of the laws FnConsole returns true for every input. No conditions. -/
import Derived.WalkKit

set_option linter.unusedSimpArgs false
set_option linter.unusedVariables false
namespace Go.Sx
theorem A6:type_of% @congrArg:= @congrArg
theorem Ab:type_of% @if_neg:= @if_neg
theorem Ak:type_of% @if_pos:= @if_pos
theorem Bn:type_of% @of_decide_eq_true:= @of_decide_eq_true
theorem Ch:type_of% @List.mem_cons:= @List.mem_cons
theorem Cv:type_of% @of_decide_eq_false:= @of_decide_eq_false
theorem D3:type_of% @List.length_append:= @List.length_append
theorem Dl:type_of% @List.getElem?_eq_getElem:= @List.getElem?_eq_getElem
theorem Ds:type_of% @Nat.le_refl:= @Nat.le_refl
theorem E6:type_of% @Option.some.inj:= @Option.some.inj
theorem Bv:type_of% @Int.toNat_natCast:= @Int.toNat_natCast
theorem Cd:type_of% @decide_eq_false:= @decide_eq_false
theorem Ci:type_of% @Bool.and_eq_true:= @Bool.and_eq_true
theorem Cr:type_of% @List.append_assoc:= @List.append_assoc
theorem Cx:type_of% @List.getElem?_eq_some_iff:= @List.getElem?_eq_some_iff
theorem Db:type_of% @List.mem_cons_of_mem:= @List.mem_cons_of_mem
theorem Dc:type_of% @decide_eq_true:= @decide_eq_true
theorem Dg:type_of% @Nat.le_of_ble_eq_true:= @Nat.le_of_ble_eq_true
theorem Ee:type_of% @List.mem_flatMap:= @List.mem_flatMap
theorem Ex:type_of% @Option.some.injEq:= @Option.some.injEq
theorem F1:type_of% @Option.map_eq_some_iff:= @Option.map_eq_some_iff
theorem F9:type_of% @List.length_take:= @List.length_take
theorem Fa:type_of% @List.getElem?_map:= @List.getElem?_map
theorem Fb:type_of% @List.length_cons:= @List.length_cons
theorem Fe:type_of% @Nat.zero_le:= @Nat.zero_le
theorem Fi:type_of% @List.getElem?_append_left:= @List.getElem?_append_left
theorem Fk:type_of% @Nat.le_trans:= @Nat.le_trans
theorem Fl:type_of% @Nat.eq_of_beq_eq_true:= @Nat.eq_of_beq_eq_true
theorem Fm:type_of% @List.mem_map:= @List.mem_map
theorem Fo:type_of% @List.getElem?_append_right:= @List.getElem?_append_right
theorem Fz:type_of% @List.mem_range:= @List.mem_range
theorem G7:type_of% @Nat.add_mul:= @Nat.add_mul
theorem Ge:type_of% @List.length_drop:= @List.length_drop
theorem Gq:type_of% @List.size_toArray:= @List.size_toArray
theorem Gr:type_of% @ByteArray.size_append:= @ByteArray.size_append
theorem H3:type_of% @List.length_nil:= @List.length_nil
theorem H4:type_of% @List.take_length:= @List.take_length
theorem Ha:type_of% @List.getElem?_cons_zero:= @List.getElem?_cons_zero
theorem Jc:type_of% @List.all_eq_true:= @List.all_eq_true
theorem I1:type_of% @List.map_cons:= @List.map_cons
theorem I2:type_of% @List.mem_of_getElem? := @List.mem_of_getElem?
theorem I3:type_of% @List.mem_singleton:= @List.mem_singleton
theorem I4:type_of% @List.append_nil:= @List.append_nil
theorem Is:type_of% @List.nodup_cons:= @List.nodup_cons
theorem Jd:type_of% @List.length_map:= @List.length_map
theorem Je:type_of% @Prod.mk.injEq:= @Prod.mk.injEq
theorem K0:type_of% @List.length_set:= @List.length_set
theorem Kg:type_of% @Nat.lt_of_lt_of_le:= @Nat.lt_of_lt_of_le
theorem Kh:type_of% @Nat.mul_le_mul_right:= @Nat.mul_le_mul_right
theorem Ki:type_of% @List.mem_append:= @List.mem_append
theorem L3:type_of% @List.mem_cons_self:= @List.mem_cons_self
theorem L4:type_of% @Nat.not_lt_zero:= @Nat.not_lt_zero
theorem Lx:type_of% @List.length_singleton:= @List.length_singleton
theorem Ly:type_of% @List.length_take_le:= @List.length_take_le
theorem Mp:type_of% @if_true:= @if_true
theorem Mq:type_of% @Bool.not_eq_true':= @Bool.not_eq_true'
theorem Mr:type_of% @Array.length_toList:= @Array.length_toList
theorem Ms:type_of% @List.take_of_length_le:= @List.take_of_length_le
theorem Np:type_of% @decide_eq_true_eq:= @decide_eq_true_eq
theorem Nq:type_of% @List.cons.injEq:= @List.cons.injEq
theorem Nr:type_of% @List.length_filter_le:= @List.length_filter_le
theorem Ph:type_of% @List.not_mem_nil:= @List.not_mem_nil
theorem Pi:type_of% @Nat.succ_mul:= @Nat.succ_mul
theorem Pj:type_of% @List.eq_nil_of_length_eq_zero:= @List.eq_nil_of_length_eq_zero
theorem Pk:type_of% @List.take_append_drop:= @List.take_append_drop
theorem Pl:type_of% @List.length_replicate:= @List.length_replicate
theorem Qr:type_of% @Nat.mul_comm:= @Nat.mul_comm
theorem Qs:type_of% @Option.map_some:= @Option.map_some
theorem Qt:type_of% @beq_iff_eq:= @beq_iff_eq
theorem Qu:type_of% @List.map_append:= @List.map_append
theorem Rx:type_of% @List.length_range:= @List.length_range
theorem Ry:type_of% @Nat.add_zero:= @Nat.add_zero
theorem Rz:type_of% @Nat.lt_succ_self:= @Nat.lt_succ_self
theorem S0:type_of% @Nat.zero_add:= @Nat.zero_add
theorem S2:type_of% @List.pairwise_iff_getElem:= @List.pairwise_iff_getElem
theorem S3:type_of% @Bool.eq_iff_iff:= @Bool.eq_iff_iff
theorem S4:type_of% @List.getElem_of_mem:= @List.getElem_of_mem
theorem T9:type_of% @or_false:= @or_false
theorem Ta:type_of% @decide_eq_false_iff_not:= @decide_eq_false_iff_not
theorem Tb:type_of% @Array.getElem?_eq_some_iff:= @Array.getElem?_eq_some_iff
theorem Tc:type_of% @Nat.lt_succ_of_lt:= @Nat.lt_succ_of_lt
theorem Td:type_of% @Bool.false_eq_true:= @Bool.false_eq_true
theorem Te:type_of% @if_false:= @if_false
theorem Tf:type_of% @List.getElem?_drop:= @List.getElem?_drop
theorem Tg:type_of% @ByteArray.ext:= @ByteArray.ext
theorem Th:type_of% @List.any_eq_true:= @List.any_eq_true
theorem Ti:type_of% @beq_eq_false_iff_ne:= @beq_eq_false_iff_ne
theorem Tj:type_of% @Int.le_refl:= @Int.le_refl
theorem V5:type_of% @Array.getElem?_eq_getElem:= @Array.getElem?_eq_getElem
theorem X4:type_of% @List.cons_append:= @List.cons_append
theorem X5:type_of% @Nat.add_assoc:= @Nat.add_assoc
theorem X6:type_of% @List.getElem?_take:= @List.getElem?_take
theorem X7:type_of% @List.eq_of_mem_replicate:= @List.eq_of_mem_replicate
theorem Yx:type_of% @Bool.or_eq_true:= @Bool.or_eq_true
theorem Yy:type_of% @List.range_succ:= @List.range_succ
theorem A2c:type_of% @Nat.mod_lt:= @Nat.mod_lt
theorem A2d:type_of% @Option.getD_some:= @Option.getD_some
theorem A2e:type_of% @Int.eq_ofNat_of_zero_le:= @Int.eq_ofNat_of_zero_le
theorem A2f:type_of% @List.getD_cons_zero:= @List.getD_cons_zero
theorem A2g:type_of% @Array.mem_toList_iff:= @Array.mem_toList_iff
theorem Uq:type_of% @Nat.lt_or_gt_of_ne:= @Nat.lt_or_gt_of_ne
theorem Ur:type_of% @List.getElem_range:= @List.getElem_range
theorem Us:type_of% @Bool.not_eq_false':= @Bool.not_eq_false'
theorem Ut:type_of% @Nat.le_add_right:= @Nat.le_add_right
theorem Uu:type_of% @List.nil_append:= @List.nil_append
theorem Uv:type_of% @List.mem_filter:= @List.mem_filter
theorem Uw:type_of% @decide_eq_decide:= @decide_eq_decide
theorem Ux:type_of% @List.sum_cons:= @List.sum_cons
theorem A0c:type_of% @Nat.le_of_not_lt:= @Nat.le_of_not_lt
theorem Ws:type_of% @Option.bind_eq_some_iff:= @Option.bind_eq_some_iff
theorem Wt:type_of% @List.flatMap_cons:= @List.flatMap_cons
theorem Wu:type_of% @List.flatMap_append:= @List.flatMap_append
theorem Wv:type_of% @Nat.mul_le_mul:= @Nat.mul_le_mul
theorem Ww:type_of% @List.getElem_map:= @List.getElem_map
theorem Wx:type_of% @List.map_nil:= @List.map_nil
theorem Wy:type_of% @List.all_cons:= @List.all_cons
theorem Wz:type_of% @ByteArray.data_append:= @ByteArray.data_append
theorem X0:type_of% @Bool.eq_false_iff:= @Bool.eq_false_iff
theorem X1:type_of% @List.drop_succ_cons:= @List.drop_succ_cons
theorem X2:type_of% @Int.tmod_lt_of_pos:= @Int.tmod_lt_of_pos
theorem X3:type_of% @Nat.lt_succ_iff_lt_or_eq:= @Nat.lt_succ_iff_lt_or_eq
theorem A0d:type_of% @Nat.pos_of_ne_zero:= @Nat.pos_of_ne_zero
theorem A0e:type_of% @Array.size_setIfInBounds:= @Array.size_setIfInBounds
theorem A0f:type_of% @List.getElem?_eq_none:= @List.getElem?_eq_none
theorem A0g:type_of% @Int.ofNat_lt:= @Int.ofNat_lt
theorem A0h:type_of% @Nat.le_succ:= @Nat.le_succ
theorem A0i:type_of% @List.foldl_cons:= @List.foldl_cons
theorem A0j:type_of% @List.contains_iff_mem:= @List.contains_iff_mem
theorem A0k:type_of% @Array.getD_eq_getD_getElem? := @Array.getD_eq_getD_getElem?
theorem A0l:type_of% @Nat.add_comm:= @Nat.add_comm
theorem A0m:type_of% @bne_eq_false_iff_eq:= @bne_eq_false_iff_eq
theorem A0n:type_of% @Array.toList_inj:= @Array.toList_inj
theorem A0o:type_of% @Bool.false_or:= @Bool.false_or
theorem A0p:type_of% @Go.getD_set_ne:= @Go.getD_set_ne
theorem A0q:type_of% @List.drop_zero:= @List.drop_zero
theorem A3h:type_of% @Bool.or_false:= @Bool.or_false
theorem A3i:type_of% @List.flatMap_map:= @List.flatMap_map
theorem A3j:type_of% @List.any_eq_false:= @List.any_eq_false
theorem A3k:type_of% @Array.toList_append:= @Array.toList_append
theorem A3l:type_of% @List.foldl_append:= @List.foldl_append
theorem A3m:type_of% @List.mem_of_mem_drop:= @List.mem_of_mem_drop
theorem A3n:type_of% @Int.tmod_nonneg:= @Int.tmod_nonneg
theorem A3o:type_of% @Bool.and_true:= @Bool.and_true
theorem A3p:type_of% @List.take_succ_eq_append_getElem:= @List.take_succ_eq_append_getElem
theorem A9f:type_of% @List.getElem_mem:= @List.getElem_mem
theorem A9g:type_of% @Option.isSome_iff_exists:= @Option.isSome_iff_exists
theorem A9h:type_of% @Array.mapM_eq_mapM_toList:= @Array.mapM_eq_mapM_toList
theorem A9i:type_of% @map_eq_pure_bind:= @map_eq_pure_bind
theorem A9j:type_of% @Array.toList_map:= @Array.toList_map
theorem A9k:type_of% @List.getElem?_range:= @List.getElem?_range
theorem A9l:type_of% @Nat.mod_eq_of_lt:= @Nat.mod_eq_of_lt
theorem A9m:type_of% @List.range_succ_eq_map:= @List.range_succ_eq_map
theorem A9n:type_of% @List.nodup_append:= @List.nodup_append
theorem A9o:type_of% @List.mem_append_left:= @List.mem_append_left
theorem A9p:type_of% @List.mem_append_right:= @List.mem_append_right
theorem A9q:type_of% @List.pairwise_cons:= @List.pairwise_cons
theorem A9r:type_of% @List.mem_iff_getElem:= @List.mem_iff_getElem
theorem A9s:type_of% @List.drop_eq_getElem_cons:= @List.drop_eq_getElem_cons
theorem A9t:type_of% @Int.natCast_nonneg:= @Int.natCast_nonneg
theorem A9u:type_of% @ByteArray.append_assoc:= @ByteArray.append_assoc
theorem A9v:type_of% @Bool.true_eq_false:= @Bool.true_eq_false
theorem B40:type_of% @Array.getElem_setIfInBounds:= @Array.getElem_setIfInBounds
theorem B41:type_of% @List.Pairwise.imp_of_mem:= @List.Pairwise.imp_of_mem
theorem B42:type_of% @List.getD_eq_getElem?_getD:= @List.getD_eq_getElem?_getD
variable {p : Prop}
theorem Dt (h:p:=by repeat' (first|exact trivial|exact ⟨_,rfl,rfl,by assumption⟩|exact ⟨_,rfl,rfl,rfl⟩|exact ⟨_,rfl,rfl,huo _ (by simp)⟩|exact ⟨_,rfl,rfl,fun v hv=>huo v (by simp only [Ch,Ph,T9] at hv ⊢;rcases hv with h|h|h<;>simp [h])⟩|refine ⟨?_,?_⟩)):p:=h
theorem J0 (h:p:=by repeat' (first|exact trivial|exact A1p _ _|exact rfl|exact .inr ⟨rfl,rfl,_,_,rfl⟩|refine ⟨?_,?_⟩)):p:=h
theorem A7 (h:p:=by omega):p:=h
theorem Am (h:p:=by kernel_rfl):p:=h
theorem S7 (h:p:=by repeat' (first|exact trivial|exact ⟨_,rfl,rfl⟩|refine ⟨?_,?_⟩)):p:=h
theorem V7 (h:p:=by repeat' (first|exact trivial|exact rfl|refine ⟨?_,?_⟩)):p:=h
theorem Bq (h:p:=by decide):p:=h
theorem Hd (h:p:=by intro h;cases h):p:=h
theorem ab8 (h:p:=by first|exact trivial|exact ⟨rfl,trivial⟩|repeat' (first|exact trivial|exact rfl|refine ⟨?_,?_⟩)):p:=h
theorem Ey (h:p:=by simp):p:=h
theorem A9y (h:p:=by repeat' (first|exact trivial|exact A1p _ _|exact rfl|refine ⟨?_,?_⟩)):p:=h
theorem B49 (h:p:=by first|with_reducible rfl|assumption|(simp only [Np];omega)|simp):p:=h
theorem B8l (h:p:=by first|with_reducible rfl|assumption|(simp only [Ta];omega)|simp):p:=h
theorem C2k (h:p:=by repeat' (first|exact trivial|exact .inl rfl|exact .inr ⟨rfl,_,_,rfl⟩|refine ⟨?_,?_⟩)):p:=h
theorem B8m (h:p:=by repeat' (first|exact trivial|refine ⟨?_,?_⟩|(show _∧_;omega)|omega)):p:=h
theorem Qx (h:p:=by exact Nat.zero_lt_one):p:=h
theorem Pn (h:p:=by simp;omega):p:=h
theorem C9b (h:p:=by (simp only [D3,Jd,Rx,F9];omega)):p:=h
theorem B5a (h:p:=by show L.length-(j.k+1)<_;omega):p:=h
inductive Ag where
 |val (x:Value)
 |sl (n es:Nat) (row:Nat→List Ag)
inductive AV where
 |any
 |c (x:Ag)
 |own (k:Nat)
 |box (k off:Nat)
 |agg (xs:List AV)
 |el (n es:Nat) (row:Nat→List Ag) (i:Int) (off:Nat)
 |oel (k es:Nat) (i:Int) (off:Nat)
 |tup (xs:List AV)
 |fn (f:FuncId) (ai:List AV)
abbrev AV.v (x:Value):AV:= .c (.val x)
structure Bx where
 key:Nat
 cells:List AV
structure Ow where
 key:Nat
 cell:Ag
structure AS where
 next:Nat
 am:List AV
 aw:List Bx
 own:List Ow
 ay:List (Nat×Value):=[]
def Dw (l:List (Nat×Value)) (k:Nat):Option Value:=
 match l with
 | []=>none
 |(a,v)::r=>match Nat.beq a k with
  |true=>some v
  |false=>Dw r k
inductive CK where
 |int (k:IntKind)
 |bool
structure TI where
 agg:Bool
 size:Nat
 bytes:Nat
 zero:List Value
 fields:List (Nat×TypeId)
 elem:Option TypeId
 str:Bool
 flat:Option (List CK)
inductive KI where
 |code (c:Code)
 |block (id:Nat)
 |loop (I:Act→World→Prop)
 |ops (q:Bool) (all:Array Oper) (todo:List Oper)
inductive Out where
 |aj (K:List KI) (s:AS)
 |call (q:Bool) (f:FuncId) (xs:List AV) (dst:Option Tmp) (K:List KI) (s:AS)
 |ret (s:AS)
 |ite (b:Bool) (t e:Out)
 |need (p:Prop) (o:Out)
def B1i (fb:TypeId→Option (List CK)):List Field→Nat→Option (List CK)
 | [],_=>some []
 |f::r,off=>
  match f.name== "_",Nat.beq f.offset off with
  |false,true=>
   match fb f.type with
   |some ks=>match B1i fb r (off+ks.length) with
    |some js=>some (ks++js)
    |none=>none
   |none=>none
  |_,_=>none
def Y5 (P:Program):Nat→TypeId→Option (List CK)
 | 0,_=>none
 |d+1,t=>
  match (match P.underlying t with
   |some (.int k)=>some [CK.int k]
   |some .bool=>some [CK.bool]
   |some (.struct fs)=>match P.stoodInHeld t with
    |true=>none
    |false=>B1i (Y5 P d) fs.toList 0
   |_=>none) with
  |some ks=>match Nat.beq ks.length (P.cellsOf t),(P.info? t).isSome,Nat.ble 1 ks.length with
   |true,true,true=>some ks
   |_,_,_=>none
  |none=>none
def J8 (l:List Value):Bool:=
 match l with
 | []=>true
 | .agg _::_=>false
 | .tuple _::_=>false
 |_::r=>J8 r
def Kq:TypeDesc→Bool
 | .struct _=>true
 | .array _ _=>true
 |_=>false
def TI.of (P:Program) (t:TypeId):Option TI:=
 match P.info? t,P.underlying t with
 |some f,some d=>
  match f.zero,Kq d||Nat.beq f.size 1,Nat.beq ((f.zero.map (·.cells.size)).getD 0) f.size&&J8 ((f.zero.map (·.cells.toList)).getD []) with
  |none,_,_=>none
  |some _,false,_=>none
  |some _,_,false=>none
  |some z,true,true=>some
   {agg:=Kq d
    size:=f.size,bytes:=f.bytes,zero:=z.cells.toList
    fields:=match d with| .struct fs=>fs.toList.map fun F=>(F.offset,F.type)|_=>[]
    elem:=match d with| .slice e=>some e|_=>none
    str:=match d with| .string=>true|_=>false
    flat:=match P.eqGuardType P.depth t with|true=>none|false=>Y5 P 10 t}
 |_,_=>none
def find (T:List (TypeId×TI)) (t:TypeId):Option TI:=
 match T with
 | []=>none
 |(u,i)::r=>match Nat.beq u t with|true=>some i|false=>find r t
def G1 (l:List Bx) (k:Nat):Option Bx:=
 match l with
 | []=>none
 |b::r=>match Nat.beq b.key k with|true=>some b|false=>G1 r k
def Fw (l:List Bx) (k:Nat) (cells:List AV):List Bx:=
 match l with
 | []=>[]
 |b::r=>match Nat.beq b.key k with|true=> {b with cells}::r|false=>b::Fw r k cells
def Bm (l:List Ow) (k:Nat):Option Ag:=
 match l with
 | []=>none
 |o::r=>match Nat.beq o.key k with|true=>some o.cell|false=>Bm r k
def Ik (l:List AV) (i:Nat):AV:=
 match l,i with
 | [],_=> .any
 |x::_,0=>x
 |_::r,i+1=>Ik r i
def C9 (l:List AV) (i:Nat) (x:AV):List AV:=
 match l,i with
 | [],_=>[]
 |_::r,0=>x::r
 |y::r,i+1=>y::C9 r i x
def seg (l:List AV) (off n:Nat):List AV:=(l.drop off).take n
def Sn (l:List AV) (off:Nat) (xs:List AV):List AV:=
 match xs with
 | []=>l
 |x::r=>Sn (C9 l off x) (off+1) r
def C9j (v:Value):AV:=
 match v with
 | .agg _=> .any
 | .tuple _=> .any
 |v=> .v v
def AS.ev (s:AS):Operand→AV
 | .tmp t=>Ik s.am t
 | .const v=>C9j v
 | .global _=> .any
 | .func f=> .fn f []
def AS.put (s:AS) (dst:Option Tmp) (x:AV):AS:=
 match dst with
 |some d=> {s with am:=C9 s.am d x}
 |none=>s
inductive Gs where
 |stop
 |ok (ps:List Prop) (x:AV)
 |new (cells:List AV)
 |mem (bx:List Bx)
 |own (ps:List Prop) (c:Ag)
def AV.cellLike:AV→Bool
 | .any=>false
 | .agg _=>false
 | .tup _=>false
 |_=>true
def M0 (l:List AV):Bool:=
 match l with
 | []=>true
 |x::r=>match x.cellLike with|true=>M0 r|false=>false
def Gv (k:IntKind) (n:Int):Prop:=
 match k with
 | .i8=> -128≤n∧n≤127
 | .i16=> -32768≤n∧n≤32767
 | .i32=> -2147483648≤n∧n≤2147483647
 | .i64=> -9223372036854775808≤n∧n≤9223372036854775807
 | .u8=>0≤n∧n≤255
 | .u16=>0≤n∧n≤65535
 | .u32=>0≤n∧n≤4294967295
 | .u64=>0≤n∧n≤18446744073709551615
def AV.ofCell (x:Ag):AV:= .c x
def Jt (i:TI):List AV:=i.zero.map AV.v
def O5 (i:TI) (cells:List AV) (off:Nat):AV:=
 match i.agg with
 |true=> .agg (seg cells off i.size)
 |false=>Ik cells off
def AV.cellsOf (x:AV):List AV:=
 match x with
 | .agg xs=>xs
 |x=>[x]
def O2 (a b:IntKind):Bool:=decide (a=b)
def B5e (a:Bool) (r:Option Bool):Option Bool:=
 match r with
 |some b=>some (a&&b)
 |none=>none
def A91 (ks:List CK) (xs ys:List AV):Option Bool:=
 match ks,xs,ys with
 | [],[],[]=>some true
 | .int k::ks,.c (.val (.int i a))::xs,.c (.val (.int j b))::ys=>
  match O2 i k,O2 j k with
  |true,true=>B5e (a==b) (A91 ks xs ys)
  |_,_=>none
 | .bool::ks,.c (.val (.bool a))::xs,.c (.val (.bool b))::ys=>B5e (a==b) (A91 ks xs ys)
 |_,_,_=>none
def C5o (T:List (TypeId×TI)) (t:TypeId):Bool:=
 match find T t with
 |some i=>match i.agg,i.flat with
  |false,some [.bool]=>true
  |_,_=>false
 |none=>false
def D2q (T:List (TypeId×TI)) (t:TypeId):Bool:=
 match find T t with
 |some i=>i.str
 |none=>false
def D1l (T:List (TypeId×TI)) (t:TypeId):Option (List CK):=
 match find T t with
 |some i=>match i.agg with
  |true=>i.flat
  |false=>none
 |none=>none
def A6e (wr:Bool) (T:List (TypeId×TI)) (op:BinOp) (t:TypeId) (x y:AV):Gs:=
 match x,y with
 | .c (.val (.int k a)),.c (.val (.int j b))=>
  match O2 k j with
  |false=> .stop
  |true=>
  match op with
  | .add=>match wr with|true=> .ok [] (.v (.int k (k.wrap (a+b))))|false=> .ok [Gv k (a+b)] (.v (.int k (a+b)))
  | .sub=>match wr with|true=> .ok [] (.v (.int k (k.wrap (a-b))))|false=> .ok [Gv k (a-b)] (.v (.int k (a-b)))
  | .mul=>match wr with|true=> .ok [] (.v (.int k (k.wrap (a * b))))|false=> .ok [Gv k (a * b)] (.v (.int k (a * b)))
  | .quo=> .ok [b≠0,Gv k (a.tdiv b)] (.v (.int k (a.tdiv b)))
  | .rem=> .ok [b≠0] (.v (.int k (a.tmod b)))
  | .eql=> .ok [] (.v (.bool (a==b)))
  | .neq=> .ok [] (.v (.bool (a !=b)))
  | .lss=> .ok [] (.v (.bool (decide (a<b))))
  | .leq=> .ok [] (.v (.bool (decide (a≤b))))
  | .gtr=> .ok [] (.v (.bool (decide (a>b))))
  | .geq=> .ok [] (.v (.bool (decide (a≥b))))
  |_=> .stop
 | .c (.val (.string a)),.c (.val (.string b))=>
  match op with
  | .add=> .ok [a.size+b.size≤9223372036854775807] (.v (.string (a++b)))
  | .eql=> .ok [] (.v (.bool (a==b)))
  | .neq=> .ok [] (.v (.bool !(a==b)))
  |_=> .stop
 | .c (.val (.bool a)),.c (.val (.bool b))=>
  match op,C5o T t with
  | .eql,true=> .ok [] (.v (.bool (a==b)))
  | .neq,true=> .ok [] (.v (.bool !(a==b)))
  |_,_=> .stop
 | .agg xs,.agg ys=>
  match D1l T t with
  |some ks=>match op,A91 ks xs ys with
   | .eql,some r=> .ok [] (.v (.bool r))
   | .neq,some r=> .ok [] (.v (.bool !r))
   |_,_=> .stop
  |none=> .stop
 |_,_=> .stop
def A04 (T:List (TypeId×TI)) (t:TypeId) (f:Nat):Option (Nat×TypeId):=
 match find T t with
 |some i=>i.fields[f]?
 |none=>none
def Ts (T:List (TypeId×TI)) (fields:List (Nat×TypeId)) (s:AS):List (Nat×Operand)→List AV→Option (List AV)
 | [],acc=>some acc
 |(f,x)::r,acc=>
  match fields[f]? with
  |none=>none
  |some (off,u)=>
   match find T u with
   |none=>none
   |some j=>
    match Nat.beq (s.ev x).cellsOf.length j.size&&Nat.ble (off+j.size) acc.length&&M0 (s.ev x).cellsOf with
    |true=>Ts T fields s r (Sn acc off (s.ev x).cellsOf)
    |false=>none
def C00 (T:List (TypeId×TI)) (l:List (Nat×TypeId)):Bool:=
 match l with
 | []=>true
 |(_,u)::r=>match find T u with
  |some _=>C00 T r
  |none=>false
def B4y (l:List AV):Option (List Ag):=
 match l with
 | []=>some []
 | .c (.val v)::r=>match B4y r with
  |some cs=>some (.val v::cs)
  |none=>none
 |_=>none
def P6 (l:List Ag):Option (List AV):=
 match l with
 | []=>some []
 | .val v::r=>match P6 r with
  |some cs=>some (.c (.val v)::cs)
  |none=>none
 |_=>none
def K6 (n i size:Nat) (e:TypeId):List (Nat×TypeId):=
 match n with
 | 0=>[]
 |n+1=>(i * size,e)::K6 n (i+1) size e
def repL {α:Type} (n:Nat) (l:List α):List α:=
 match n with
 | 0=>[]
 |n+1=>l++repL n l
def Ll (T:List (TypeId×TI)) (wr:Bool) (s:AS) (op:Op):Gs:=
 match op with
 | .move x=> .ok [] (s.ev x)
 | .assign x=> .ok [] (s.ev x)
 | .binOp b t x y _=>A6e wr T b t (s.ev x) (s.ev y)
 | .unOp u _ x=>
  match u,s.ev x with
  | .not,.c (.val (.bool b))=> .ok [] (.v (.bool !b))
  | .neg,.c (.val (.int k n))=>match wr with|true=> .ok [] (.v (.int k (k.wrap (0-n))))|false=> .ok [Gv k (0-n)] (.v (.int k (0-n)))
  |_,_=> .stop
 | .alloc t=>
  match find T t with
  |some i=> .new (Jt i)
  |none=> .stop
 | .box _t x=>
  match M0 (s.ev x).cellsOf with
  |true=> .new (s.ev x).cellsOf
  |false=> .stop
 | .build t ps=>
  match find T t with
  |some i=>match i.fields,C00 T i.fields,Ts T i.fields s ps.toList (Jt i) with
   |_::_,true,some cs=> .ok [] (.agg cs)
   |_,_,_=> .stop
  |none=> .stop
 | .load t x=>
  match find T t,s.ev x with
  |some i,.box k off=>match G1 s.aw k with
   |some b=>match Nat.ble (off+i.size) b.cells.length with
    |true=> .ok [] (O5 i b.cells off)
    |false=> .stop
   |none=> .stop
  |some i,.oel k es j off=>match Bm s.own k with
   |some (.sl _ es' row)=>match i.flat.isSome||i.str with
    |false=> .stop
    |true=>match Nat.beq es es'&&Nat.ble (off+i.size) es,P6 (row j.toNat) with
     |true,some cs=> .ok [] (O5 i cs off)
     |_,_=> .stop
   |_=> .stop
  |some i,.el _n es row j off=>match Nat.ble (off+i.size) es with
   |true=> .ok [] (O5 i ((row j.toNat).map AV.ofCell) off)
   |false=> .stop
  |_,_=> .stop
 | .store t x y=>
  match find T t,s.ev x with
  |some i,.box k off=>match G1 s.aw k with
   |some b=>match Nat.ble (off+i.size) b.cells.length,Nat.beq (s.ev y).cellsOf.length i.size,M0 (s.ev y).cellsOf with
    |true,true,true=> .mem (Fw s.aw k (Sn b.cells off (s.ev y).cellsOf))
    |_,_,_=> .stop
   |none=> .stop
  |_,_=> .stop
 | .fieldAddr t x f=>
  match A04 T t f with
  |some (o,u)=>
   match (find T u).map (fun j=>Nat.ble 1 j.size),s.ev x with
   |some true,.box k off=> .ok [] (.box k (off+o))
   |some true,.el n es row j off=> .ok [] (.el n es row j (off+o))
   |some true,.oel k es j off=> .ok [] (.oel k es j (off+o))
   |_,_=> .stop
  |none=> .stop
 | .field t x f=>
  match A04 T t f,s.ev x with
  |some (o,u),.agg cs=>match find T u with
   |some j=>match Nat.ble (o+j.size) cs.length&&Nat.ble 1 j.size with
    |true=> .ok [] (O5 j cs o)
    |false=> .stop
   |none=> .stop
  |_,_=> .stop
 | .indexAddr t x y=>
  match (find T t).bind (·.elem),s.ev x,s.ev y with
  |some e,.c (.sl n es row),.c (.val (.int _ j))=>
   match (find T e).map (fun i=>Nat.beq i.size es) with
   |some true=> .ok [0≤j∧j<(n:Int)] (.el n es row j 0)
   |_=> .stop
  |some e,.own k,.c (.val (.int _ j))=>
   match Bm s.own k with
   |some (.sl n es _)=>match (find T e).map (fun i=>Nat.beq i.size es) with
    |some true=> .ok [0≤j∧j<(n:Int)] (.oel k es j 0)
    |_=> .stop
   |_=> .stop
  |_,_,_=> .stop
 | .index t x y=>
  match D2q T t,s.ev x,s.ev y with
  |true,.c (.val (.string b)),.c (.val (.int _ j))=> .ok [0≤j∧j<(b.size:Int)] (.v (.int .u8 (b.data.getD j.toNat 0).toNat))
  |_,_,_=> .stop
 | .extract x i=>
  match s.ev x with
  | .tup xs=>match Nat.blt i xs.length with
   |true=> .ok [] (Ik xs i)
   |false=> .stop
  |_=> .stop
 | .nilCheck x=>
  match s.ev x with
  | .box k off=> .ok [] (.box k off)
  | .el n es row j off=> .ok [] (.el n es row j off)
  | .oel k es j off=> .ok [] (.oel k es j off)
  |_=> .stop
 | .call {callee:= .builtin .len,args,argTypes}=>
  match args.toList,argTypes.toList with
  | [x],[t]=>match find T t with
   |some i=>match i.str,i.elem,s.ev x with
    |true,_,.c (.val (.string b))=> .ok [] (.v (.int .i64 (b.size:Int)))
    |false,some _,.c (.val (.slice _ n _))=> .ok [] (.v (.int .i64 (n:Int)))
    |false,some _,.c (.sl n _ _)=> .ok [] (.v (.int .i64 (n:Int)))
    |false,some _,.own k=>match Bm s.own k with
     |some (.sl n _ _)=> .ok [] (.v (.int .i64 (n:Int)))
     |_=> .stop
    |_,_,_=> .stop
   |none=> .stop
  |_,_=> .stop
 | .call {callee:= .builtin .max,args,..}=>
  match args.toList with
  | [x,y]=>match s.ev x,s.ev y with
   | .c (.val (.int k a)),.c (.val (.int j b))=>match O2 k j with|true=> .ok [] (.v (.int k (if b>a then b else a)))|false=> .stop
   |_,_=> .stop
  |_=> .stop
 | .call {callee:= .builtin .min,args,..}=>
  match args.toList with
  | [x,y]=>match s.ev x,s.ev y with
   | .c (.val (.int k a)),.c (.val (.int j b))=>match O2 k j with|true=> .ok [] (.v (.int k (if b<a then b else a)))|false=> .stop
   |_,_=> .stop
  |_=> .stop
 | .convert t u x=>
  match find T t,find T u with
  |some _,some j=>
   match s.ev x with
   | .c (.val (.string b))=>match j.str with|true=> .ok [] (.v (.string b))|false=> .stop
   | .c (.val (.int _ n))=>match j.agg,j.flat with
    |false,some [.int k]=>match wr with|true=> .ok [] (.v (.int k (k.wrap n)))|false=> .ok [Gv k n] (.v (.int k n))
    |_,_=> .stop
   |_=> .stop
  |_,_=> .stop
 | .makeSlice t x y=>
  match (find T t).bind (·.elem),s.ev x,s.ev y with
  |some e,.c (.val (.int _ a)),.c (.val (.int _ b))=>
   match find T e with
   |some j=>match Nat.ble j.bytes 256 with
    |true=> .own [0≤a∧a≤b∧b≤1099511627776] (.sl a.toNat j.size fun _=>j.zero.map Ag.val)
    |false=> .stop
   |none=> .stop
  |_,_,_=> .stop
 | .buildSlice t len ps=>
  match (find T t).bind (·.elem) with
  |some e=>match find T e with
   |some j=>match Nat.ble (len * j.size) 10000&&Nat.blt 0 j.size,Ts T (K6 len 0 j.size e) s ps.toList (repL len (Jt j)) with
    |true,some cs=>match B4y cs with
     |some vals=> .own [] (.sl len j.size fun i=>(vals.drop (i * j.size)).take j.size)
     |none=> .stop
    |_,_=> .stop
   |none=> .stop
  |none=> .stop
 | .makeFunc (.func f) first ai=>
  match first.toList with
  | []=> .ok [] (.fn f (ai.toList.map s.ev))
  |_=> .stop
 |_=> .stop
def Yo (id:Nat):List KI→Option (List KI)
 | []=>none
 | .block j::K=>match Nat.beq j id with|true=>some K|false=>Yo id K
 |_::K=>Yo id K
def A7w (ps:List Prop) (o:Out):Out:=
 match ps with
 | []=>o
 |p::r=> .need p (A7w r o)
def L9 (all:Array Oper) (j:Nat):Option Tmp:=(all[j]?).bind (·.dst)
def A5o (all:List Oper) (arr:Array Oper) (d:Tmp):Bool:=
 match all with
 | []=>false
 |p::r=>match p.guard with
  |some (j,_)=>match L9 arr j with
   |some e=>match Nat.beq e d with
    |true=>true
    |false=>A5o r arr d
   |none=>A5o r arr d
  |none=>A5o r arr d
def Sk (all:Array Oper) (d:Option Tmp):AV:=
 match d with
 |none=> .any
 |some d=>match A5o all.toList all d with
  |true=> .tup []
  |false=> .any
def Ma {α:Type} (n:Nat) (k:Nat→α):α:=
 match n with
 | 0=>k 0
 |m+1=>Ma m fun r=>k (r+1)
def A63 {α:Type} (x:AV) (k:AV→α):α:=
 match x with
 | .any=>k .any
 | .c c=>k (.c c)
 | .own j=>Ma j fun j=>k (.own j)
 | .box j off=>Ma j fun j=>Ma off fun off=>k (.box j off)
 | .agg xs=>k (.agg xs)
 | .el n es row i off=>k (.el n es row i off)
 | .oel j es i off=>k (.oel j es i off)
 | .tup xs=>k (.tup xs)
 | .fn f ai=>k (.fn f ai)
def Rj {α:Type} (l:List AV) (k:List AV→α):α:=
 match l with
 | []=>k []
 |x::r=>A63 x fun x'=>Rj r fun r'=>k (x'::r')
def B28 {α:Type} (x:AV) (k:AV→α):α:=
 match x with
 | .agg xs=>Rj xs fun xs'=>k (.agg xs')
 | .tup xs=>Rj xs fun xs'=>k (.tup xs')
 | .fn f ai=>Rj ai fun xs'=>k (.fn f xs')
 |x=>A63 x k
def Tv {α:Type} (l:List AV) (k:List AV→α):α:=
 match l with
 | []=>k []
 |x::r=>B28 x fun x'=>Tv r fun r'=>k (x'::r')
def A64 {α:Type} (l:List Bx) (k:List Bx→α):α:=
 match l with
 | []=>k []
 |x::r=>match x with|⟨key,cells⟩=>Ma key fun key=>Rj cells fun cs=>A64 r fun r'=>k (⟨key,cs⟩::r')
def A66 {α:Type} (l:List Ow) (k:List Ow→α):α:=
 match l with
 | []=>k []
 |x::r=>match x with|⟨key,cell⟩=>Ma key fun key=>A66 r fun r'=>k (⟨key,cell⟩::r')
def A65 {α:Type} (l:List (Nat×Value)) (k:List (Nat×Value)→α):α:=
 match l with
 | []=>k []
 |(a,v)::r=>Ma a fun a=>A65 r fun r=>k ((a,v)::r)
def N6 {α:Type} (s:AS) (k:AS→α):α:=
 match s with
 |⟨next,am,aw,own,ay⟩=>Ma next fun next=>Tv am fun am=>A64 aw fun aw=>A66 own fun own=>A65 ay fun ay=>k ⟨next,am,aw,own,ay⟩
def C8a {α:Type} (l:List AV) (i:Nat) (x:AV) (k:List AV→α):α:=
 match l,i with
 | [],_=>k []
 |_::r,0=>k (x::r)
 |y::r,i+1=>C8a r i x fun r'=>k (y::r')
def Mv {α:Type} (s:AS) (dst:Option Tmp) (x:AV) (k:AS→α):α:=
 match dst with
 |none=>k s
 |some d=>B28 x fun x=>match s with
  |⟨next,am,aw,own,ay⟩=>C8a am d x fun am=>k ⟨next,am,aw,own,ay⟩
def C1p {α:Type} (s:AS) (cells:List AV) (k:AS→α):α:=
 Rj cells fun cells=>match s with
  |⟨next,am,aw,own,ay⟩=>Ma (next+1) fun n=>k ⟨n,am,{key:=next,cells}::aw,own,ay⟩
def Qm {α:Type} (s:AS) (c:Ag) (k:AS→α):α:=
 match s with
 |⟨next,am,aw,own,ay⟩=>Ma (next+1) fun n=>k ⟨n,am,aw,⟨next,c⟩::own,ay⟩
def C1l {α:Type} (s:AS) (bx:List Bx) (k:AS→α):α:=
 A64 bx fun bx=>match s with
  |⟨next,am,_,own,ay⟩=>k ⟨next,am,bx,own,ay⟩
def run (T:List (TypeId×TI)) (wr:Bool):Nat→List KI→AS→Out
 | 0,K,s=>N6 s (.aj K)
 |n+1,K,s=>
  match K with
  | []=>N6 s (.aj [])
  | .block _::K=>run T wr n K s
  | .loop I::K=>N6 s (.aj (.loop I::K))
  | .code c::K=>
   match c with
   | .skip=>run T wr n K s
   | .seq a b=>run T wr n (.code a:: .code b::K) s
   | .block id c=>run T wr n (.code c:: .block id::K) s
   | .cond o t e=>
    match s.ev o with
    | .c (.val (.bool b))=> .ite b (run T wr n (.code t::K) s) (run T wr n (.code e::K) s)
    |_=>N6 s (.aj (.code (.cond o t e)::K))
   | .exit id=>match Yo id K with
    |some K'=>run T wr n K' s
    |none=>N6 s (.aj (.code (.exit id)::K))
   | .ret=>N6 s .ret
   | .region _id ops false=>run T wr n (.ops false ops ops.toList::K) s
   |c=>N6 s (.aj (.code c::K))
  | .ops q all l::K=>
   match l with
   | []=>run T wr n K s
   |o::rest=>
    match o.guard with
    |none=>
     match o.op with
     | .pick c x y=>
      match s.ev c with
      | .c (.val (.bool b))=> .ite b (Mv s o.dst (s.ev x) (run T wr n (.ops q all rest::K))) (Mv s o.dst (s.ev y) (run T wr n (.ops q all rest::K)))
      |_=>N6 s (.aj (.ops q all (o::rest)::K))
     | .call {callee:= .value (.func f),args,..}=>Tv (args.toList.map s.ev) fun xs=>N6 s fun s=> .call q f xs o.dst (.ops q all rest::K) s
     | .call {callee:= .value (.tmp t),args,..}=>
      match Ik s.am t with
      | .fn f ai=>Tv (args.toList.map s.ev++ai) fun xs=>N6 s fun s=> .call q f xs o.dst (.ops q all rest::K) s
      |_=>N6 s (.aj (.ops q all (o::rest)::K))
     |op=>
      match Ll T wr s op with
      | .stop=>N6 s (.aj (.ops q all (o::rest)::K))
      | .ok ps x=>A7w ps (Mv s o.dst x (run T wr n (.ops q all rest::K)))
      | .new cells=>C1p s cells fun s'=>Mv s' o.dst (.box s.next 0) (run T wr n (.ops q all rest::K))
      | .own ps c=>A7w ps (Qm s c fun s'=>Mv s' o.dst (.own s.next) (run T wr n (.ops q all rest::K)))
      | .mem bx=>C1l s bx fun s=>Mv s o.dst .any (run T wr n (.ops q all rest::K))
    |some (j,true)=>
     match L9 all j with
     |some d=>match Ik s.am d with
      | .c (.val (.bool b))=> .ite b
        (Mv s (some d) (.v (.bool true)) (run T wr n (.ops q all ({o with guard:=none}::rest)::K)))
        (Mv s (some d) (.v (.bool false)) fun s=>Mv s o.dst (Sk all o.dst) (run T wr n (.ops q all rest::K)))
      | .tup []=>Mv s o.dst (Sk all o.dst) (run T wr n (.ops q all rest::K))
      |_=>N6 s (.aj (.ops q all (o::rest)::K))
     |none=>N6 s (.aj (.ops q all (o::rest)::K))
    |some (j,false)=>
     match L9 all j with
     |some d=>match Ik s.am d with
      | .c (.val (.bool b))=> .ite b
        (Mv s (some d) (.v (.bool true)) fun s=>Mv s o.dst (Sk all o.dst) (run T wr n (.ops q all rest::K)))
        (Mv s (some d) (.v (.bool false)) (run T wr n (.ops q all ({o with guard:=none}::rest)::K)))
      | .tup []=>Mv s o.dst (Sk all o.dst) (run T wr n (.ops q all rest::K))
      |_=>N6 s (.aj (.ops q all (o::rest)::K))
     |none=>N6 s (.aj (.ops q all (o::rest)::K))
def Py (T:List (TypeId×TI)) (wr:Bool) (n:Nat) (K:List KI) (s:AS):Out:=N6 s (run T wr n K)
inductive Qv (w:World) (A:Nat→Prop):Ag→Value→Prop
 |val (x:Value) (h:x.oneCell'=true):Qv w A (.val x) x
 |nil (es:Nat) (row:Nat→List Ag):Qv w A (.sl 0 es row) (.slice none 0 0)
 |emp (es:Nat) (row:Nat→List Ag) (a:Addr):Qv w A (.sl 0 es row) (.slice (some a) 0 0)
 |sl (n es:Nat) (row:Nat→List Ag) (b off cap:Nat) (u:Nat→Nat→Value) (hA:0<n * es→¬ A b) (hn:n≤cap) (hc:cap≤maxLen)
   (hl:∀i,i<n→(row i).length=es) (hu:∀i j,i<n→j<es→w.cell? ⟨b,off+i * es+j,none⟩=some (u i j))
   (hr:∀i j c,i<n→(row i)[j]? =some c→Qv w A c (u i j)):Qv w A (.sl n es row) (.slice (some ⟨b,off,none⟩) n cap)
def En (w w':World):Prop:=w.heap.size≤w'.heap.size∧∀k,k<w.heap.size→w'.heap[k]? =w.heap[k]?
theorem En.refl (w:World):En w w:=⟨Ds _,fun _ _=>rfl⟩
variable {w : World} {w' : World}
theorem En.trans {w'':World}(h:En w w')(h':En w' w''):En w w'':=
 ⟨Fk h.1 h'.1,fun k hk=>(h'.2 k (Kg hk h.1)).trans (h.2 k hk)⟩
theorem En.cell (h:En w w'){a:Addr}{v:Value}(hc:w.cell? a=some v):w'.cell? a=some v:=
 (World.cell?_of_block (h.2 a.block (World.block_lt_of_cell? w a hc))).trans hc
variable {b : Nat}
theorem C9g {o:Nat}{v:Value}(h:w.cell? ⟨b,o,none⟩=some v):b<w.heap.size:=World.block_lt_of_cell? w ⟨b,o,none⟩ h
variable {A : Nat → Prop} {c : Ag}
theorem Qv.move {A':Nat→Prop}{v:Value}(h:Qv w A c v)(hk:∀b,¬ A b→b<w.heap.size→w'.heap[b]? =w.heap[b]?)(hA:∀b,b<w.heap.size→A' b→A b):Qv w' A' c v:=by
 induction h with
 |val x h=>exact .val x h
 |nil es row=>exact .nil es row
 |emp es row a=>exact .emp es row a
 |sl n es row b off cap u hAb hn hc hl hu hr ih=>
  by_cases h0:0<n * es
  ·have hn0:0<n:=Nat.pos_of_mul_pos_right h0
   have he0:0<es:=Nat.pos_of_mul_pos_left h0;have hb:b<w.heap.size:=C9g (hu 0 0 hn0 he0);have hnA:=hAb h0;refine .sl n es row b off cap u (fun _ h=>hnA (hA b hb h)) hn hc hl (fun i j hi hj=>?_) (fun i j c hi hj=>ih i j c hi hj);rw [←hu i j hi hj];exact World.cell?_of_block (hk b hnA hb)
  refine .sl n es row b off cap u (fun h=>absurd h h0) hn hc hl (fun i j hi hj=>?_) (fun i j c hi hj=>ih i j c hi hj);exact absurd (Nat.mul_pos (Nat.lt_of_le_of_lt (Fe _) hi) (Nat.lt_of_le_of_lt (Fe _) hj)) h0
theorem Qv.one {v:Value}(h:Qv w A c v):v.oneCell'=true:=by
 cases h<;>first|assumption|rfl
inductive Bw (w:World):Ag→Value→List Nat→Prop
 |val (x:Value) (h:x.oneCell'=true):Bw w (.val x) x []
 |nil (es:Nat) (row:Nat→List Ag):Bw w (.sl 0 es row) (.slice none 0 0) []
 |emp (es:Nat) (row:Nat→List Ag) (b o:Nat):Bw w (.sl 0 es row) (.slice (some ⟨b,o,none⟩) 0 0) []
 |sl (n es:Nat) (row:Nat→List Ag) (b off cap:Nat) (ty:TypeId) (cells:Array Value) (fps:Nat→List Nat) (hn:n≤cap) (hc:cap≤maxLen)
   (hb:w.heap[b]? =some (.cells cells ty (0,0))) (hs:(off+cap) * es≤cells.size)
   (hl:∀i,i<n→(row i).length=es)
   (hr:∀i j c,i<n→(row i)[j]? =some c→Bw w c (cells.getD ((off+i) * es+j) undef) (fps (i * es+j))):
   Bw w (.sl n es row) (.slice (some ⟨b,off * es,none⟩) n cap) (b::(List.range (n * es)).flatMap fps)
variable {fp : List Nat}
theorem Bw.one {v:Value}(h:Bw w c v fp):v.oneCell'=true:=by
 cases h<;>first|assumption|rfl
variable {n : Nat} {k : Nat}
theorem Dy {fps:Nat→List Nat}(h:k<n)(hb:b∈fps k):b∈(List.range n).flatMap fps:=
 Ee.2 ⟨k,Fz.2 h,hb⟩
variable {i : Nat} {j : Nat}
theorem H1 {es:Nat}(hi:i<n)(hj:j<es):i * es+j<n * es:=by
 have:i * es+es≤n * es:=by rw [←Pi];exact Kh es hi
 omega
theorem Bw.move {v:Value}(h:Bw w c v fp)(hk:∀b∈fp,w'.heap[b]? =w.heap[b]?):Bw w' c v fp:=by
 induction h with
 |val x h=>exact .val x h
 |nil es row=>exact .nil es row
 |emp es row b o=>exact .emp es row b o
 |sl n es row b off cap ty cells fps hn hc hb hs hl hr ih=>
  refine .sl n es row b off cap ty cells fps hn hc (by rw [hk b Ey];exact hb) hs hl (fun i j c hi hj=>ih i j c hi hj ?_);intro b' hb';have hj':j<es:=by have:=(Cx.1 hj).1;rw [hl i hi] at this;exact this
  exact hk b' (Db _ (Dy (H1 hi hj') hb'))
theorem Bw.lt {v:Value}(h:Bw w c v fp):∀b∈fp,b<w.heap.size:=by
 induction h with
 |val x h=>simp
 |nil es row=>simp
 |emp es row b o=>simp
 |sl n es row b off cap ty cells fps hn hc hb hs hl hr ih=>
  intro b' hb'
  rcases Ch.1 hb' with rfl|hb'
  ·exact (Tb.1 hb).1
  obtain ⟨k,hk,hk'⟩:=Ee.1 hb';have hk:=Fz.1 hk;have he:0<es:=A0d (fun h=>by subst h;simp at hk);have hi:k / es<n:=Nat.div_lt_of_lt_mul (by rw [Qr];exact hk);have hj:k % es<(row (k / es)).length:=by rw [hl _ hi];exact A2c _ he
  refine ih (k / es) (k % es) _ hi (Dl hj) b' ?_;rw [Qr,Nat.div_add_mod];exact hk'
theorem Bw.rep {v:Value}(h:Bw w c v fp)(hA:∀b∈fp,¬ A b):Qv w A c v:=by
 induction h with
 |val x h=>exact .val x h
 |nil es row=>exact .nil es row
 |emp es row b o=>exact .emp es row ⟨b,o,none⟩
 |sl n es row b off cap ty cells fps hn hc hb hs hl hr ih=>
  refine .sl n es row b (off * es) cap (fun i j=>cells.getD ((off+i) * es+j) undef) (fun _=>hA b Ey) hn hc hl (fun i j hi hj=>?_) (fun i j c hi hj=>ih i j c hi hj ?_)
  ·have h1:off * es+i * es+j=(off+i) * es+j:=by rw [G7]
   have h2:(off+i) * es+j<cells.size:=by
    have:=H1 (show off+i<off+cap by omega) hj
    omega
   rw [h1,cell_of_row w b _ cells ty (0,0) hb]
   simp [Array.getD,h2]
  intro b' hb';have hj':j<es:=by have:=(Cx.1 hj).1;rw [hl i hi] at this;exact this
  exact hA b' (Db _ (Dy (H1 hi hj') hb'))
structure G0 where
 ov:Nat→Value
 fp:Nat→List Nat
def D3o (v:Value):Nat:=
 match v with
 | .pointer (some a)=>a.block
 |_=>0
def G0.β (E:G0) (k:Nat):Nat:=D3o (E.ov k)
variable {E : G0}
theorem G0.β_of {E':G0}(h:E'.ov k=E.ov j):E'.β k=E.β j:=by unfold G0.β;rw [h]
inductive Cy (E:G0) (w:World) (A:Nat→Prop) (N:Nat):AV→Value→Prop
 |any (v:Value):Cy E w A N .any v
 |c {x:Ag} {v:Value} (h:Qv w A x v):Cy E w A N (.c x) v
 |own {k:Nat} (hk:k<N):Cy E w A N (.own k) (E.ov k)
 |box {k:Nat} (off:Nat) (hk:k<N):Cy E w A N (.box k off) (.pointer (some ⟨E.β k,off,none⟩))
 |agg {xs:List AV} (vs:List Value) (hl:vs.length=xs.length) (h:∀i x,xs[i]? =some x→Cy E w A N x (vs.getD i undef)):Cy E w A N (.agg xs) (.agg vs.toArray)
 |el {n es:Nat} {row:Nat→List Ag} {i:Int} (off b o cap:Nat) (hs:Qv w A (.sl n es row) (.slice (some ⟨b,o,none⟩) n cap)) (h0:0≤i) (hi:i<(n:Int)):
   Cy E w A N (.el n es row i off) (.pointer (some ⟨b,o+i.toNat * es+off,none⟩))
 |oel {k es:Nat} {i:Int} (off b o n cap:Nat) (hk:k<N) (hv:E.ov k= .slice (some ⟨b,o,none⟩) n cap) (h0:0≤i) (hi:i<(n:Int)):
   Cy E w A N (.oel k es i off) (.pointer (some ⟨b,o+i.toNat * es+off,none⟩))
 |tup {xs:List AV} (vs:List Value) (hl:vs.length=xs.length) (h:∀i x,xs[i]? =some x→Cy E w A N x (vs.getD i undef)):Cy E w A N (.tup xs) (.tuple vs.toArray)
 |fn {f:FuncId} {xs:List AV} (vs:List Value) (hl:vs.length=xs.length) (h:∀i x,xs[i]? =some x→Cy E w A N x (vs.getD i undef)):Cy E w A N (.fn f xs) (.func (.func f) #[] vs.toArray)
variable {N : Nat} {x : AV}
theorem Cy.move {E':G0}{A':Nat→Prop}{N':Nat}{v:Value}(h:Cy E w A N x v)(hN:N≤N')(hE:∀k,k<N→E'.β k=E.β k∧E'.ov k=E.ov k)(hk:∀b,¬ A b→b<w.heap.size→w'.heap[b]? =w.heap[b]?)(hA:∀b,b<w.heap.size→A' b→A b):Cy E' w' A' N' x v:=by
 induction h with
 |any v=>exact .any v
 |c h=>exact .c (h.move hk hA)
 |own hk=>rw [←(hE _ hk).2];exact .own (Kg hk hN)
 |box off hk=>rw [←(hE _ hk).1];exact .box off (Kg hk hN)
 |agg vs hl h ih=>exact .agg vs hl ih
 |el off b o cap hs h0 hi=>exact .el off b o cap (hs.move hk hA) h0 hi
 |oel off b o n cap hk hv h0 hi=>exact .oel off b o n cap (Kg hk hN) (by rw [(hE _ hk).2];exact hv) h0 hi
 |tup vs hl h ih=>exact .tup vs hl ih
 |fn vs hl h ih=>exact .fn vs hl ih
theorem Cy.cell1 {v:Value}(h:Cy E w A N x v)(hc:x.cellLike=true)(hO:∀k,k<N→(E.ov k).oneCell'=true):v.oneCell'=true:=by
 cases h<;>first|rfl|(simp [AV.cellLike] at hc;done)|(rename_i h;exact h.one)|(rename_i h;exact hO _ h)
def AS.ag (s:AS) (E:G0) (b:Nat):Prop:=(∃x∈s.aw,E.β x.key=b)∨∃y∈s.own,b∈E.fp y.key
structure Fg where
 w0:World
 may:Nat→Prop
structure Fg.rel (B:Fg) (w:World):Prop where
 os:w.os=B.w0.os
 tape:w.tape=B.w0.tape
 output:w.output=B.w0.output
 size:B.w0.heap.size≤w.heap.size
 block:∀k,k<B.w0.heap.size→¬ B.may k→w.heap[k]? =B.w0.heap[k]?
def Fg.fresh (B:Fg) (b:Nat):Prop:=B.w0.heap.size≤b∨B.may b
structure AS.is (s:AS) (B:Fg) (E:G0) (a:Act) (w:World):Prop where
 defers:a.defers=[]
 ay:∀p∈s.ay,p.1<s.next∧E.ov p.1=p.2
 size:a.tmps.size=s.am.length
 am:∀i x,s.am[i]? =some x→Cy E w (s.ag E) s.next x (a.tmps.getD i undef)
 aw:∀x∈s.aw,x.key<s.next∧∃vs ty,w.heap[E.β x.key]? =some (.cells vs ty (0,0))∧vs.size=x.cells.length∧
  ∀i y,x.cells[i]? =some y→Cy E w (s.ag E) s.next y (vs.getD i undef)
 boxes2:∀x∈s.aw,∀y∈s.aw,E.β x.key=E.β y.key→x.key=y.key
 keys:(s.aw.map (·.key)).Nodup
 own:∀y∈s.own,y.key<s.next∧Bw w y.cell (E.ov y.key) (E.fp y.key)∧(E.fp y.key).Nodup
 ownkeys:(s.own.map (·.key)).Nodup
 sep:∀y∈s.own,∀z∈s.own,y.key≠z.key→∀b∈E.fp y.key,b∉E.fp z.key
 sepB:∀x∈s.aw,∀y∈s.own,E.β x.key∉E.fp y.key
 one:∀k,k<s.next→(E.ov k).oneCell'=true
 base:B.rel w
 fresh:∀b,s.ag E b→B.fresh b
variable {s : AS} {B : Fg} {a : Act}
theorem AS.is.avoid_lt (h:s.is B E a w)(hb:s.ag E b):b<w.heap.size:=by
 rcases hb with ⟨x,hx,rfl⟩|⟨y,hy,hb⟩
 ·obtain ⟨_,vs,ty,h1,_⟩:=h.aw x hx
  exact (Tb.1 h1).1
 exact (h.own y hy).2.1.lt b hb
theorem Bk (l:List AV)(i:Nat)(x:AV):(C9 l i x).length=l.length:=by
 induction l generalizing i with
 |nil=>rfl
 |cons y r ih=>cases i<;>simp [C9,ih]
theorem Co (l:List AV)(i:Nat)(x:AV)(j:Nat):(C9 l i x)[j]? =if i=j∧j<l.length then some x else l[j]? :=by
 induction l generalizing i j with
 |nil=>simp [C9]
 |cons y r ih=>
  cases i with
  |zero=>cases j<;>simp [C9]
  |succ i=>cases j with
   |zero=>simp [C9]
   |succ j=>simp [C9,ih]
theorem Ce (l:List AV)(i:Nat):Ik l i=(l[i]?).getD .any:=by
 induction l generalizing i with
 |nil=>simp [Ik]
 |cons y r ih=>cases i<;>simp [Ik,ih]
theorem AS.is.put (h:s.is B E a w)(d:Option Tmp){v:Value}(hx:Cy E w (s.ag E) s.next x v):
  (s.put d x).is B E (a.put d v) w:=by
 cases d with
 |none=>exact h
 |some d=>
  refine ⟨h.defers,h.ay,?_,?_,h.aw,h.boxes2,h.keys,h.own,h.ownkeys,h.sep,h.sepB,h.one,h.base,h.fresh⟩
  ·simp [Act.put,AS.put,Bk,h.size]
  intro i y hy;simp only [AS.put,Co] at hy;simp only [Act.put]
  by_cases hi:d=i∧i<s.am.length
  ·rw [Ak hi] at hy
   obtain ⟨rfl,hl⟩:=hi;obtain rfl:x=y:=by simpa using hy
   have:d<a.tmps.size:=by rw [h.size];exact hl
   change Cy E w (s.ag E) s.next x _
   simpa [Array.getD,A0e,this] using hx
  rw [Ab hi] at hy;have hl:i<s.am.length:=(Cx.1 hy).1;have hne:d≠i:=fun e=>hi ⟨e,hl⟩
  have hsz:i<a.tmps.size:=by rw [h.size];exact hl
  have:=h.am i y hy
  change Cy E w (s.ag E) s.next y _
  simpa [Array.getD,A0e,hsz,B40,hne] using this
theorem AS.is.ev (h:s.is B E a w)(o:Operand):Cy E w (s.ag E) s.next (s.ev o) (a.eval o):=by
 cases o with
 |tmp t=>
  simp only [AS.ev,Act.eval,Ce]
  by_cases hl:t<s.am.length
  ·rw [Dl hl]
   exact h.am t _ (Dl hl)
  rw [A0f (A0c hl)];exact .any _
 |const v=>
  simp only [AS.ev,Act.eval]
  cases v<;>first|exact .any _|exact .c (.val _ rfl)
 |global g=>exact .any _
 |func f=>exact .fn [] rfl Ey
def Bz (P:Program) (T:List (TypeId×TI)):Prop:=∀t i,find T t=some i→TI.of P t=some i
structure TI.Spec (P:Program) (t:TypeId) (i:TI) (f:TypeInfo) (d:TypeDesc) (z:Value):Prop where
 hf:P.info? t=some f
 hd:P.underlying t=some d
 hz:f.zero=some z
 size:f.size=i.size
 bytes:f.bytes=i.bytes
 cells:z.cells.toList=i.zero
 agg:i.agg=Kq d
 fields:i.fields=(match d with| .struct fs=>fs.toList.map fun F=>(F.offset,F.type)|_=>[])
 elem:i.elem=(match d with| .slice e=>some e|_=>none)
 str:i.str=(match d with| .string=>true|_=>false)
 flat:i.flat=(match P.eqGuardType P.depth t with|true=>none|false=>Y5 P 10 t)
 one:Kq d=false→i.size=1
 zlen:i.zero.length=i.size
 zone:J8 i.zero=true
variable {t : TypeId}
theorem TI.of_spec {P:Program}{i:TI}(h:TI.of P t=some i):∃f d z,TI.Spec P t i f d z:=by
 unfold TI.of at h
 split at h
 ·rename_i f d hf hd
  split at h
  ·simp at h
  ·simp at h
  ·simp at h
  rename_i z hz h1 h2
  simp only [Ex] at h;subst h;simp only [hz,Qs,A2d,Ci] at h2;refine ⟨f,d,z,hf,hd,hz,rfl,rfl,rfl,rfl,by cases d<;>rfl,by cases d<;>rfl,by cases d<;>rfl,rfl,fun ha=>?_,by simpa using h2.1,h2.2⟩
  rw [ha] at h1
  simpa using h1
 simp at h
variable {P : Program} {T : List (TypeId × TI)}
theorem Bc {i:TI}(h:TI.of P t=some i)(w:World):(sizeOf t).run P w= .ok i.size w:=by
 obtain ⟨f,d,z,S⟩:=TI.of_spec h
 simp [sizeOf,typeInfo,S.hf,S.size]
theorem Wl {i:TI}(h:TI.of P t=some i):∃z,z.cells.toList=i.zero∧∀w,(zeroValue t).run P w= .ok z w:=by
 obtain ⟨f,d,z,S⟩:=TI.of_spec h;exact ⟨z,S.cells,fun w=>by simp [zeroValue,typeInfo,S.hf,S.hz]⟩
theorem B4f {i:TI}(h:TI.of P t=some i)(w:World):(isAgg t).run P w= .ok i.agg w:=by
 obtain ⟨f,d,z,S⟩:=TI.of_spec h;have hd:=S.hd;rw [S.agg]
 cases d<;>simp [isAgg,run_underlying hd,Kq]
theorem Bt {e:TypeId}{i:TI}(h:TI.of P t=some i)(he:i.elem=some e):P.underlying t=some (.slice e):=by
 obtain ⟨f,d,z,S⟩:=TI.of_spec h;have hd:=S.hd;rw [S.elem] at he
 cases d<;>simp at he
 subst he;exact hd
theorem O8 {i:TI}(h:TI.of P t=some i)(hs:i.str=true):P.underlying t=some .string:=by
 obtain ⟨f,d,z,S⟩:=TI.of_spec h;have hd:=S.hd;rw [S.str] at hs
 cases d<;>simp at hs
 exact hd
theorem J1 (b o n:Nat):(⟨b,o,none⟩:Addr).add n=⟨b,o+n,none⟩:=by
 unfold Addr.add
 split<;>simp_all
theorem Ja {i:TI}(h:TI.of P t=some i)(w:World)(b o:Nat)(vs:List Value)(hl:vs.length=i.size)(hc:∀j,j<i.size→w.cell? ⟨b,o+j,none⟩=some (vs.getD j undef)):
  (loadVar t ⟨b,o,none⟩).run P w= .ok (match i.agg with|true=> .agg vs.toArray|false=>vs.getD 0 undef) w:=by
 simp only [loadVar,Sem.run_bind,B4f h,Result.andThen_ok]
 cases hag:i.agg with
 |true=>
  have:(loadCells ⟨b,o,none⟩ vs.length).run P w= .ok vs.toArray w:=by
   refine run_loadCells_list (P:=P) w _ vs (fun j v hv=>?_);have hj:j<vs.length:=(Cx.1 hv).1;rw [J1,hc j A7]
   simp [List.getD,hv]
  simp [Bc h,←hl,this]
 |false=>
  obtain ⟨f,d,z,S⟩:=TI.of_spec h;have h1:=S.one (by rw [←S.agg];exact hag)
  have:=hc 0 A7
  simp only [Ry] at this
  simp [this]
theorem A8p (l:List AV)(off n:Nat)(h:off+n≤l.length):(seg l off n).length=n:=by
 simp [seg];omega
theorem D04 (l:List AV)(off n j:Nat)(h:j<n):(seg l off n)[j]? =l[off+j]? :=by
 simp [seg,h]
theorem Vm (cells:List AV)(vs:List Value)(off:Nat)(i:TI)(hl:off+i.size≤cells.length)(h:∀j x,cells[j]? =some x→Cy E w A N x (vs.getD j undef)):
  Cy E w A N (O5 i cells off) (match i.agg with|true=> .agg ((List.range i.size).map fun j=>vs.getD (off+j) undef).toArray|false=>vs.getD off undef):=by
 unfold O5
 cases hag:i.agg with
 |true=>
  refine .agg _ (by simp [A8p _ _ _ hl]) (fun j x hj=>?_)
  have hj':j<i.size:=by
   have:=(Cx.1 hj).1
   rwa [A8p _ _ _ hl] at this
  rw [D04 _ _ _ _ hj'] at hj
  have:=h _ _ hj
  simpa [List.getD,hj'] using this
 |false=>
  simp only [Ce]
  by_cases ho:off<cells.length
  ·rw [Dl ho]
   exact h off _ (Dl ho)
  rw [A0f (A0c ho)];exact .any _
variable {l : List Bx}
theorem Fq {b:Bx}(h:G1 l k=some b):b∈l∧b.key=k:=by
 induction l with
 |nil=>simp [G1] at h
 |cons x r ih=>
  unfold G1 at h
  split at h
  ·rename_i hk
   obtain rfl:=E6 h;exact ⟨by simp,Fl hk⟩
  exact ⟨Db _ (ih h).1,(ih h).2⟩
theorem C5 {l:List Ow}(h:Bm l k=some c):⟨k,c⟩∈l:=by
 induction l with
 |nil=>simp [Bm] at h
 |cons x r ih=>
  unfold Bm at h
  split at h
  ·rename_i hk
   obtain rfl:=E6 h;obtain rfl:=Fl hk
   simp
  exact Db _ (ih h)
theorem Bo (vs:Array Value)(j:Nat)(d:Value):vs.toList.getD j d=vs.getD j d:=by
 simp only [Array.getD,List.getD]
 split<;>simp_all
theorem AS.is.load (h:s.is B E a w){i:TI}(ht:TI.of P t=some i){off:Nat}{b:Bx}(hb:G1 s.aw k=some b)(hl:off+i.size≤b.cells.length):∃v,(∀w',En w w'→(Instr.loadAt t (.pointer (some ⟨E.β k,off,none⟩))).run P w'= .ok v w')∧Cy E w (s.ag E) s.next (O5 i b.cells off) v:=by
 obtain ⟨hm,rfl⟩:=Fq hb;obtain ⟨_,vs,ty,hh,hs,hd⟩:=h.aw b hm;refine ⟨_,fun w' hw'=>?_,Vm b.cells vs.toList off i hl (fun j x hj=>by rw [Bo];exact hd j x hj)⟩
 have:=Ja ht w' (E.β b.key) off ((List.range i.size).map fun j=>vs.toList.getD (off+j) undef) Ey (fun j hj=>by
  refine hw'.cell ?_;rw [cell_of_row w _ _ vs ty (0,0) hh]
  have:off+j<vs.size:=by omega
  simp [List.getD,this,hj])
 simp only [Instr.loadAt,Instr.sureAddr,Sem.run_bind,Sem.run_pure,Result.andThen_ok,this]
 cases hag:i.agg with
 |true=>rfl
 |false=>
  obtain ⟨f,d,z,S⟩:=TI.of_spec ht;have h1:=S.one (by rw [←S.agg];exact hag)
  simp [h1,List.getD]
theorem C98 {i:TI}(ht:TI.of P t=some i){es:Nat}{row:Nat→List Ag}{j:Int}{off o cap:Nat}(hs:Qv w A (.sl n es row) (.slice (some ⟨b,o,none⟩) n cap))(h0:0≤j)(hj:j<(n:Int))(hl:off+i.size≤(row j.toNat).length):
  ∃v,(∀w',En w w'→(Instr.loadAt t (.pointer (some ⟨b,o+j.toNat * es+off,none⟩))).run P w'= .ok v w')∧Cy E w A N (O5 i ((row j.toNat).map AV.ofCell) off) v:=by
 obtain ⟨m,rfl⟩:=A2e h0;simp only [Bv,A0g] at *
 cases hs with
 |emp=>omega
 |sl _ _ _ _ _ _ u hA hn hc hll hu hr=>
  have hes:=hll m hj;refine ⟨_,fun w' hw'=>?_,Vm ((row m).map AV.ofCell) ((List.range es).map (u m)) off i (by simpa using hl) (fun k x hk=>?_)⟩
  ·have:=Ja ht w' b (o+m * es+off) ((List.range i.size).map fun k=>((List.range es).map (u m)).getD (off+k) undef) Ey (fun k hk=>by
    have h1:off+k<es:=by omega
    have:=hw'.cell (hu m (off+k) hj h1)
    rw [show o+m * es+off+k=o+m * es+(off+k) by omega,this]
    simp [List.getD,hk,h1])
   simp only [Instr.loadAt,Instr.sureAddr,Sem.run_bind,Sem.run_pure,Result.andThen_ok,this]
   cases hag:i.agg with
   |true=>rfl
   |false=>
    obtain ⟨f,d,z,S⟩:=TI.of_spec ht;have h1:=S.one (by rw [←S.agg];exact hag)
    simp [h1,List.getD]
  simp only [Fa,F1] at hk;obtain ⟨c,hc',rfl⟩:=hk;have hk':k<es:=by have:=(Cx.1 hc').1;omega
  have:=hr m k c hj hc'
  simpa [List.getD,hk',AV.ofCell] using Cy.c (E:=E) (N:=N) this
theorem R9 {v:Value}(h:Cy E w A N x v)(hc:M0 x.cellsOf=true)(hO:∀k,k<N→(E.ov k).oneCell'=true):
  v.cells.size=x.cellsOf.length∧(∀j y,x.cellsOf[j]? =some y→Cy E w A N y (v.cells.getD j undef))∧∀y∈v.cells.toList,y.oneCell'=true:=by
 have all:∀(l:List AV),M0 l=true→∀y∈l,y.cellLike=true:=by
  intro l
  induction l with
  |nil=>simp
  |cons x r ih=>
   intro h;unfold M0 at h
   split at h
   ·rename_i hx
    intro y hy
    rcases Ch.1 hy with rfl|hy
    ·exact hx
    exact ih h y hy
   simp at h
 have hall:=all _ hc
 have single:x.cellsOf=[x]→v.cells= #[v]→v.cells.size=x.cellsOf.length∧(∀j y,x.cellsOf[j]? =some y→Cy E w A N y (v.cells.getD j undef))∧∀y∈v.cells.toList,y.oneCell'=true:=by
  intro e1 e2;rw [e1] at hall;have h1:=h.cell1 (hall x Ey) hO;rw [e1,e2];refine ⟨rfl,fun j y hj=>?_,by simpa using h1⟩
  cases j with
  |zero=>obtain rfl:=E6 hj;simpa [Array.getD] using h
  |succ j=>simp at hj
 cases h with
 |any v=>simp [AV.cellsOf,M0,AV.cellLike] at hc
 | @agg xs vs hl h=>
  simp only [AV.cellsOf] at *;refine ⟨by simp [Value.cells,hl],fun j y hj=>?_,?_⟩
  ·have e:(Value.agg vs.toArray).cells.getD j undef=vs.getD j undef:=by rw [←Bo];rfl
   rw [e];exact h j y hj
  intro y hy;simp only [Value.cells] at hy;obtain ⟨j,hj⟩:=List.mem_iff_getElem?.1 hy;have hj':j<xs.length:=by rw [←hl];exact (Cx.1 (by simpa using hj)).1
  have:=h j _ (Dl hj')
  have h1:=this.cell1 (hall _ (A9f hj')) hO
  simpa [List.getD,(show vs[j]? =some y by simpa using hj)] using h1
 |tup vs hl h=>simp [AV.cellsOf,M0,AV.cellLike] at hc
 |c h=>exact single rfl (by have:=h.one;cases v<;>first|rfl|simp [Value.oneCell'] at this)
 |own hk=>exact single rfl (by have:=hO _ hk;revert this;generalize E.ov _=v;intro this;cases v<;>first|rfl|simp [Value.oneCell'] at this)
 |box off hk=>exact single rfl rfl
 |el off b o cap hs h0 hi=>exact single rfl rfl
 |oel off b o n cap hk hv h0 hi=>exact single rfl rfl
 |fn vs hl h=>exact single rfl rfl
def G0.with (E:G0) (n b:Nat):G0:= {E with ov:=fun k=>if k=n then .pointer (some ⟨b,0,none⟩) else E.ov k}
theorem G0.with_self (E:G0)(n b:Nat):(E.with n b).β n=b:=by simp [G0.with,G0.β,D3o]
theorem G0.with_keep (E:G0)(n b:Nat):∀k,k<n→(E.with n b).β k=E.β k∧(E.with n b).ov k=E.ov k:=by
 intro k hk
 have:k≠n:=by omega
 have h:(E.with n b).ov k=E.ov k:=by simp [G0.with,this]
 exact ⟨G0.β_of h,h⟩
theorem Hq (w:World)(o:Obj)(b:Nat)(h:b<w.heap.size):(w.alloc o).heap[b]? =w.heap[b]? :=by
 show (w.heap.push o)[b]? =_
 rw [Array.getElem?_push,Ab A7]
def AS.newBox (s:AS) (cells:List AV):AS:= {s with aw:= {key:=s.next,cells}::s.aw,next:=s.next+1}
theorem AS.is.newBox (h:s.is B E a w)(cells:List AV)(vs:Array Value)(ty:TypeId)(hs:vs.size=cells.length)(hd:∀j y,cells[j]? =some y→Cy E w (s.ag E) s.next y (vs.getD j undef)):
  (s.newBox cells).is B (E.with s.next w.heap.size) a (w.alloc (.cells vs ty))∧
   Cy (E.with s.next w.heap.size) (w.alloc (.cells vs ty)) ((s.newBox cells).ag (E.with s.next w.heap.size)) (s.newBox cells).next (.box s.next 0) (.pointer (some ⟨w.heap.size,0,none⟩)):=by
 have kb:∀x∈s.aw,(E.with s.next w.heap.size).β x.key=E.β x.key:=fun x hx=>(G0.with_keep E _ _ _ (h.aw x hx).1).1
 have av:∀b,(s.newBox cells).ag (E.with s.next w.heap.size) b↔b=w.heap.size∨s.ag E b:=by
  intro b
  constructor
  ·rintro (⟨x,hx,rfl⟩|⟨y,hy,hb⟩)
   ·rcases Ch.1 hx with rfl|hx
    ·left;exact G0.with_self _ _ _
    right;left;exact ⟨x,hx,(kb x hx).symm⟩
   right;right;exact ⟨y,hy,hb⟩
  rintro (rfl|⟨x,hx,rfl⟩|⟨y,hy,hb⟩)
  ·left;exact ⟨_,L3,G0.with_self _ _ _⟩
  ·left;exact ⟨x,Db _ hx,kb x hx⟩
  right;exact ⟨y,hy,hb⟩
 have mv:∀x v,Cy E w (s.ag E) s.next x v→Cy (E.with s.next w.heap.size) (w.alloc (.cells vs ty)) ((s.newBox cells).ag (E.with s.next w.heap.size)) (s.newBox cells).next x v:=
  fun x v hx=>hx.move (A0h _) (G0.with_keep E _ _) (fun b _ hb=>Hq w _ b hb) (fun b hb hav=>by
   rcases (av b).1 hav with rfl|h
   ·omega
   exact h)
 refine ⟨⟨h.defers,fun p hp=>⟨Tc (h.ay p hp).1,(G0.with_keep E _ _ _ (h.ay p hp).1).2.trans (h.ay p hp).2⟩,h.size,fun i x hx=>mv _ _ (h.am i x hx),?_,?_,?_,?_,h.ownkeys,?_,?_,?_,?_,?_⟩,?_⟩
 ·intro x hx
  rcases Ch.1 hx with rfl|hx
  ·refine ⟨Rz _,vs,ty,?_,hs,fun j y hj=>mv _ _ (hd j y hj)⟩
   have:(E.with s.next w.heap.size).β s.next=w.heap.size:=G0.with_self _ _ _
   rw [this];exact heap_alloc_new w _
  obtain ⟨h1,vs',ty',h2,h3,h4⟩:=h.aw x hx;refine ⟨Tc h1,vs',ty',?_,h3,fun j y hj=>mv _ _ (h4 j y hj)⟩;rw [kb x hx,Hq w _ _ (Tb.1 h2).1];exact h2
 ·intro x hx y hy he
  rcases Ch.1 hx with rfl|hx<;>rcases Ch.1 hy with rfl|hy
  ·rfl
  ·exfalso
   rw [kb y hy] at he;simp only [G0.with_self] at he
   have:=h.avoid_lt (.inl ⟨y,hy,rfl⟩)
   omega
  ·exfalso
   rw [kb x hx] at he;simp only [G0.with_self] at he
   have:=h.avoid_lt (.inl ⟨x,hx,rfl⟩)
   omega
  rw [kb x hx,kb y hy] at he;exact h.boxes2 x hx y hy he
 ·simp only [AS.newBox,I1,Is]
  refine ⟨fun hm=>?_,h.keys⟩;obtain ⟨x,hx,e⟩:=Fm.1 hm
  have:=(h.aw x hx).1
  omega
 ·intro y hy
  obtain ⟨h1,h2,h3⟩:=h.own y hy;refine ⟨Tc h1,?_,h3⟩;rw [(G0.with_keep E _ _ _ h1).2];exact h2.move (fun b hb=>Hq w _ b (h2.lt b hb))
 ·exact h.sep
 ·intro x hx y hy hb
  rcases Ch.1 hx with rfl|hx
  ·simp only [G0.with_self] at hb
   have:=(h.own y hy).2.1.lt _ hb
   omega
  rw [kb x hx] at hb;exact h.sepB x hx y hy hb
 ·intro k hk
  by_cases e:k=s.next
  ·subst e;simp [G0.with,Value.oneCell']
  have hk':k<s.next:=by have:k<s.next+1:=hk;omega
  rw [(G0.with_keep E _ _ _ hk').2];exact h.one k hk'
 ·refine ⟨h.base.os,h.base.tape,h.base.output,by simp;have:=h.base.size;omega,fun k hk hm=>?_⟩
  rw [Hq w _ _ (Kg hk h.base.size)];exact h.base.block k hk hm
 ·intro b hb
  rcases (av b).1 hb with rfl|hb
  ·exact .inl h.base.size
  exact h.fresh b hb
 have e:(E.with s.next w.heap.size).β s.next=w.heap.size:=G0.with_self _ _ _
 have:=Cy.box (E:=E.with s.next w.heap.size) (w:=w.alloc (.cells vs ty)) (A:=(s.newBox cells).ag (E.with s.next w.heap.size)) (N:=s.next+1) (k:=s.next) 0 (Rz _)
 rw [e] at this;exact this
theorem Ft {cs:List AV}{x:Bx}(hx:x∈Fw l k cs)(hn:(l.map (·.key)).Nodup):(x.key=k∧x.cells=cs∧∃y∈l,y.key=k)∨(x∈l∧x.key≠k):=by
 induction l with
 |nil=>simp [Fw] at hx
 |cons y r ih=>
  simp only [I1,Is] at hn;unfold Fw at hx
  split at hx
  ·rename_i hk
   have hk:=Fl hk
   rcases Ch.1 hx with rfl|hx
   ·exact .inl ⟨hk,rfl,y,by simp,hk⟩
   refine .inr ⟨Db _ hx,fun e=>hn.1 ?_⟩
   exact Fm.2 ⟨x,hx,by rw [e,hk]⟩
  rename_i hk
  rcases Ch.1 hx with rfl|hx
  ·exact .inr ⟨by simp,fun e=>by rw [e] at hk;simp at hk⟩
  rcases ih hx hn.2 with ⟨h1,h2,z,hz,h3⟩|⟨h1,h2⟩
  ·exact .inl ⟨h1,h2,z,Db _ hz,h3⟩
  exact .inr ⟨Db _ h1,h2⟩
theorem Qq (l:List Bx)(k:Nat)(cs:List AV):(Fw l k cs).map (·.key)=l.map (·.key):=by
 induction l with
 |nil=>rfl
 |cons y r ih=>
  unfold Fw
  split
  ·rfl
  simp [ih]
theorem B2i {cs:List AV}{x:Bx}(hx:x∈l):∃y∈Fw l k cs,y.key=x.key:=by
 have:x.key∈(Fw l k cs).map (·.key):=by rw [Qq];exact Fm.2 ⟨x,hx,rfl⟩
 obtain ⟨y,hy,e⟩:=Fm.1 this;exact ⟨y,hy,e⟩
theorem G4 (w:World)(g k:Nat)(cs:Array Value)(h:k≠g):(w.setRow g cs).heap[k]? =w.heap[k]? :=by
 simp only [World.setRow,Array.getElem?_modify];rw [Ab A7]
theorem AS.is.setBox (h:s.is B E a w){b:Bx}(hb:G1 s.aw k=some b)(cells:List AV)(vs:Array Value)(hs:vs.size=cells.length)(hd:∀j y,cells[j]? =some y→Cy E w (s.ag E) s.next y (vs.getD j undef)):
  ({s with aw:=Fw s.aw k cells}:AS).is B E a (w.setRow (E.β k) vs):=by
 obtain ⟨hm,rfl⟩:=Fq hb;obtain ⟨hlt,vs0,ty0,hh0,_,_⟩:=h.aw b hm
 have av:∀c,({s with aw:=Fw s.aw b.key cells}:AS).ag E c↔s.ag E c:=by
  intro c
  constructor
  ·rintro (⟨x,hx,rfl⟩|h)
   ·rcases Ft hx h.keys with ⟨h1,_,y,hy,h2⟩|⟨h1,_⟩
    ·exact .inl ⟨y,hy,by rw [h1,h2]⟩
    exact .inl ⟨x,h1,rfl⟩
   exact .inr h
  rintro (⟨x,hx,rfl⟩|h)
  ·obtain ⟨y,hy,e⟩:=B2i (k:=b.key) (cs:=cells) hx
   exact .inl ⟨y,hy,by rw [e]⟩
  exact .inr h
 have hav:s.ag E (E.β b.key):= .inl ⟨b,hm,rfl⟩
 have mv:∀x v,Cy E w (s.ag E) s.next x v→Cy E (w.setRow (E.β b.key) vs) (({s with aw:=Fw s.aw b.key cells}:AS).ag E) s.next x v:=
  fun x v hx=>hx.move (Ds _) (fun _ _=>⟨rfl,rfl⟩) (fun c hc _=>G4 w _ _ _ (fun e=>hc (e▸hav))) (fun c _ hc=>(av c).1 hc)
 refine ⟨h.defers,h.ay,h.size,fun i x hx=>mv _ _ (h.am i x hx),?_,?_,?_,?_,h.ownkeys,h.sep,?_,h.one,?_,?_⟩
 ·intro x hx
  rcases Ft hx h.keys with ⟨h1,h2,_⟩|⟨h1,h2⟩
  ·refine ⟨h1▸hlt,vs,ty0,?_,by rw [h2];exact hs,fun j y hj=>mv _ _ (hd j y (by rw [←h2];exact hj))⟩
   rw [h1];exact setRow_heap w _ vs0 vs ty0 (0,0) hh0
  obtain ⟨g1,vs',ty',g2,g3,g4⟩:=h.aw x h1;refine ⟨g1,vs',ty',?_,g3,fun j y hj=>mv _ _ (g4 j y hj)⟩;rw [G4 w _ _ _ (fun e=>h2 (h.boxes2 x h1 b hm e))];exact g2
 ·intro x hx y hy he
  rcases Ft hx h.keys with ⟨h1,_⟩|⟨h1,h2⟩<;>rcases Ft hy h.keys with ⟨g1,_⟩|⟨g1,g2⟩
  ·rw [h1,g1]
  ·rw [h1] at he ⊢
   exact h.boxes2 b hm y g1 he
  ·rw [g1] at he ⊢
   exact h.boxes2 x h1 b hm he
  exact h.boxes2 x h1 y g1 he
 ·show ((Fw s.aw b.key cells).map (·.key)).Nodup
  rw [Qq];exact h.keys
 ·intro y hy
  obtain ⟨g1,g2,g3⟩:=h.own y hy;refine ⟨g1,g2.move (fun c hc=>G4 w _ _ _ (fun e=>?_)),g3⟩;exact h.sepB b hm y hy (e▸hc)
 ·intro x hx y hy
  rcases Ft hx h.keys with ⟨h1,_⟩|⟨h1,_⟩
  ·rw [h1];exact h.sepB b hm y hy
  exact h.sepB x h1 y hy
 ·refine ⟨h.base.os,h.base.tape,h.base.output,by simpa using h.base.size,fun k hk hm'=>?_⟩
  have hne:k≠E.β b.key:=by
   intro e
   rcases h.fresh _ hav with h1|h1
   ·omega
   exact hm' (e▸h1)
  rw [G4 w _ _ _ hne];exact h.base.block k hk hm'
 intro c hc;exact h.fresh c ((av c).1 hc)
theorem Yv (l:List AV)(off:Nat)(xs:List AV):(Sn l off xs).length=l.length:=by
 induction xs generalizing l off with
 |nil=>rfl
 |cons x r ih=>simp [Sn,ih,Bk]
theorem C0j (l:List AV)(off:Nat)(xs:List AV)(j:Nat):(Sn l off xs)[j]? =if off≤j∧j<off+xs.length∧j<l.length then xs[j-off]? else l[j]? :=by
 induction xs generalizing l off with
 |nil=>simp [Sn];intro h1 h2;omega
 |cons x r ih=>
  simp only [Sn,ih,Bk,Co,Fb]
  by_cases h1:off=j
  ·subst h1
   by_cases hl:off<l.length
   ·rw [Ab A7,Ak ⟨rfl,hl⟩,Ak A7];simp
   rw [Ab A7,Ab A7,Ab A7]
  by_cases h2:off+1≤j∧j<off+1+r.length∧j<l.length
  ·rw [Ak h2,Ak A7]
   obtain ⟨m,rfl⟩:∃m,j=off+1+m:=⟨j-(off+1),by omega⟩
   simp [show off+1+m-off=m+1 by omega]
  rw [Ab h2,Ab A7,Ab A7]
def eqV (ks:List CK) (xs ys:List Value):Option Bool:=
 match ks,xs,ys with
 | [],[],[]=>some true
 | .int k::ks,.int i a::xs,.int j b::ys=>
  match O2 i k,O2 j k with
  |true,true=>B5e (a==b) (eqV ks xs ys)
  |_,_=>none
 | .bool::ks,.bool a::xs,.bool b::ys=>B5e (a==b) (eqV ks xs ys)
 |_,_,_=>none
variable {r : Bool}
theorem Xa {a:Bool}{o:Option Bool}(h:B5e a o=some r):∃b,o=some b∧r=(a&&b):=by
 unfold B5e at h
 split at h
 ·rename_i b;exact ⟨b,rfl,by simpa using h.symm⟩
 simp at h
variable {ks : List CK} {xs : List Value} {ys : List Value}
theorem Rf (h:eqV ks xs ys=some r):
  (ks=[]∧xs=[]∧ys=[]∧r=true)∨(∃k a b ks' xs' ys' q,ks= .int k::ks'∧xs= .int k a::xs'∧ys= .int k b::ys'∧eqV ks' xs' ys'=some q∧r=(a==b&&q))∨
  (∃a b ks' xs' ys' q,ks= .bool::ks'∧xs= .bool a::xs'∧ys= .bool b::ys'∧eqV ks' xs' ys'=some q∧r=(a==b&&q)):=by
 unfold eqV at h
 split at h
 ·exact .inl ⟨rfl,rfl,rfl,by simpa using h.symm⟩
 ·rename_i k ks i a xs j b ys
  split at h
  ·rename_i h1 h2
   obtain rfl:i=k:=by simpa [O2] using h1
   obtain rfl:j=i:=by simpa [O2] using h2
   obtain ⟨q,hq,rfl⟩:=Xa h;exact .inr (.inl ⟨j,a,b,ks,xs,ys,q,rfl,rfl,rfl,hq,rfl⟩)
  simp at h
 ·rename_i ks a xs b ys
  obtain ⟨q,hq,rfl⟩:=Xa h;exact .inr (.inr ⟨a,b,ks,xs,ys,q,rfl,rfl,rfl,hq,rfl⟩)
 simp at h
variable {q : Bool}
theorem C1b {k:IntKind}{a b:Int}(h:eqV ks xs ys=some q):eqV (.int k::ks) (.int k a::xs) (.int k b::ys)=some (a==b&&q):=by
 simp [eqV,O2,h,B5e]
theorem B5t {a b:Bool}(h:eqV ks xs ys=some q):eqV (.bool::ks) (.bool a::xs) (.bool b::ys)=some (a==b&&q):=by
 simp [eqV,h,B5e]
theorem B87 (h:eqV ks xs ys=some r):xs.length=ks.length∧ys.length=ks.length:=by
 induction ks generalizing xs ys r with
 |nil=>
  rcases Rf h with ⟨_,rfl,rfl,_⟩|⟨_,_,_,_,_,_,_,h,_⟩|⟨_,_,_,_,_,_,h,_⟩<;>simp_all
 |cons c ks ih=>
  rcases Rf h with ⟨h,_⟩|⟨k,a,b,ks',xs',ys',q,e,rfl,rfl,hq,_⟩|⟨a,b,ks',xs',ys',q,e,rfl,rfl,hq,_⟩
  ·simp at h
  ·simp only [Nq] at e;obtain ⟨_,rfl⟩:=e;have:=ih hq;simp [this]
  simp only [Nq] at e;obtain ⟨_,rfl⟩:=e;have:=ih hq;simp [this]
theorem C3m {js:List CK}(h:eqV (ks++js) xs ys=some r):
  ∃r1 r2,eqV ks (xs.take ks.length) (ys.take ks.length)=some r1∧eqV js (xs.drop ks.length) (ys.drop ks.length)=some r2∧r=(r1&&r2):=by
 induction ks generalizing xs ys r with
 |nil=>exact ⟨true,r,by simp [eqV],by simpa using h,by simp⟩
 |cons c ks ih=>
  rcases Rf h with ⟨h,_⟩|⟨k,a,b,ks',xs',ys',q,e,rfl,rfl,hq,rfl⟩|⟨a,b,ks',xs',ys',q,e,rfl,rfl,hq,rfl⟩
  ·simp at h
  ·simp only [X4,Nq] at e
   obtain ⟨rfl,rfl⟩:=e;obtain ⟨r1,r2,h1,h2,rfl⟩:=ih hq;exact ⟨a==b&&r1,r2,by simpa using C1b h1,by simpa using h2,by simp [Bool.and_assoc]⟩
  simp only [X4,Nq] at e;obtain ⟨rfl,rfl⟩:=e;obtain ⟨r1,r2,h1,h2,rfl⟩:=ih hq;exact ⟨a==b&&r1,r2,by simpa using B5t h1,by simpa using h2,by simp [Bool.and_assoc]⟩
theorem B3 {x v:Value}(h:Cy E w A N (.v x) v):v=x:=by
 cases h with|c h=>cases h;rfl
theorem B5r {xs ys:List AV}(h:A91 ks xs ys=some r):
  (ks=[]∧xs=[]∧ys=[]∧r=true)∨(∃k a b ks' xs' ys' q,ks= .int k::ks'∧xs= .v (.int k a)::xs'∧ys= .v (.int k b)::ys'∧A91 ks' xs' ys'=some q∧r=(a==b&&q))∨
  (∃a b ks' xs' ys' q,ks= .bool::ks'∧xs= .v (.bool a)::xs'∧ys= .v (.bool b)::ys'∧A91 ks' xs' ys'=some q∧r=(a==b&&q)):=by
 unfold A91 at h
 split at h
 ·exact .inl ⟨rfl,rfl,rfl,by simpa using h.symm⟩
 ·rename_i k ks i a xs j b ys
  split at h
  ·rename_i h1 h2
   obtain rfl:i=k:=by simpa [O2] using h1
   obtain rfl:j=i:=by simpa [O2] using h2
   obtain ⟨q,hq,rfl⟩:=Xa h;exact .inr (.inl ⟨j,a,b,ks,xs,ys,q,rfl,rfl,rfl,hq,rfl⟩)
  simp at h
 ·rename_i ks a xs b ys
  obtain ⟨q,hq,rfl⟩:=Xa h;exact .inr (.inr ⟨a,b,ks,xs,ys,q,rfl,rfl,rfl,hq,rfl⟩)
 simp at h
theorem C3l {xs ys:List AV}(h:A91 ks xs ys=some r){us vs:List Value}(lu:us.length=xs.length)(lv:vs.length=ys.length)(hx:∀i x,xs[i]? =some x→Cy E w A N x (us.getD i undef))(hy:∀i y,ys[i]? =some y→Cy E w A N y (vs.getD i undef)):
  eqV ks us vs=some r:=by
 induction ks generalizing xs ys us vs r with
 |nil=>
  rcases B5r h with ⟨_,rfl,rfl,rfl⟩|⟨_,_,_,_,_,_,_,h,_⟩|⟨_,_,_,_,_,_,h,_⟩
  ·obtain rfl:=Pj lu
   obtain rfl:=Pj lv;rfl
  ·simp at h
  simp at h
 |cons c ks ih=>
  have Ll:∀{x y:AV} {xs' ys':List AV} {u v:Value} {us' vs':List Value} {q:Bool},xs=x::xs'→ys=y::ys'→us=u::us'→vs=v::vs'→A91 ks xs' ys'=some q→
    Cy E w A N x u∧Cy E w A N y v∧eqV ks us' vs'=some q:=by
   rintro x y xs' ys' u v us' vs' q rfl rfl rfl rfl hq
   refine ⟨by simpa using hx 0 _ rfl,by simpa using hy 0 _ rfl,ih hq (by simpa using lu) (by simpa using lv) (fun i x hi=>by simpa using hx (i+1) x (by simpa using hi)) (fun i x hi=>by simpa using hy (i+1) x (by simpa using hi))⟩
  have ex:∀{α:Type} {l:List Value} {x:α} {m:List α},l.length=(x::m).length→∃u us',l=u::us':=by
   intro α l x m h
   cases l with
   |nil=>simp at h
   |cons u us'=>exact ⟨u,us',rfl⟩
  rcases B5r h with ⟨h,_⟩|⟨k,a,b,ks',xs',ys',q,e,e1,e2,hq,rfl⟩|⟨a,b,ks',xs',ys',q,e,e1,e2,hq,rfl⟩
  ·simp at h
  ·simp only [Nq] at e
   obtain ⟨rfl,rfl⟩:=e;obtain ⟨u,us',eu⟩:=ex (by rw [lu,e1]);obtain ⟨v,vs',ev⟩:=ex (by rw [lv,e2]);obtain ⟨d1,d2,hq'⟩:=Ll e1 e2 eu ev hq;obtain rfl:=B3 d1;obtain rfl:=B3 d2;rw [eu,ev];exact C1b hq'
  simp only [Nq] at e;obtain ⟨rfl,rfl⟩:=e;obtain ⟨u,us',eu⟩:=ex (by rw [lu,e1]);obtain ⟨v,vs',ev⟩:=ex (by rw [lv,e2]);obtain ⟨d1,d2,hq'⟩:=Ll e1 e2 eu ev hq;obtain rfl:=B3 d1;obtain rfl:=B3 d2;rw [eu,ev];exact B5t hq'
def V4 (P:Program) (t:TypeId) (us:List Value):Value:=
 match (P.underlying t).map Kq with
 |some true=> .agg us.toArray
 |_=>us.getD 0 undef
theorem A8o (t:TypeId)(us:List Value)(off:Nat)(w:World)(hd:(P.underlying t).isSome=true)(hi:(P.info? t).isSome=true)(hl:off+P.cellsOf t≤us.length)(h1:0<P.cellsOf t):
  (part t us.toArray off).run P w= .ok (V4 P t ((us.drop off).take (P.cellsOf t))) w:=by
 obtain ⟨d,hd⟩:=A9g.1 hd;obtain ⟨i,hi⟩:=A9g.1 hi;have hs:P.cellsOf t=i.size:=by simp [Program.cellsOf,hi]
 have hag:∀w,(isAgg t).run P w= .ok (Kq d) w:=by intro w;cases d<;>simp [isAgg,run_underlying hd,Kq]
 simp only [part,Sem.run_bind,hag,Result.andThen_ok,V4,hd,Qs]
 cases hda:Kq d with
 |true=>
  simp only [Mp,Sem.run_bind,sizeOf,typeInfo,run_program,Result.andThen_ok,hi,Sem.run_pure,hs]
  congr 2
  apply Array.ext'
  simp [List.extract_eq_take_drop]
 |false=>
  have:off<us.length:=by omega
  simp only [Td,Te];rw [show us.toArray[off]? =some us[off] by simp [this]]
  simp [List.getD,h1,this]
structure C45 (P:Program) (d:Nat) (t:TypeId) (ks:List CK):Prop where
 len:ks.length=P.cellsOf t
 info:(P.info? t).isSome=true
 pos:0<ks.length
 desc:P.underlying t=some (.int (match ks with| [.int k]=>k|_=> .i64))∧(∃k,ks=[.int k])∨(P.underlying t=some .bool∧ks=[.bool])∨
  ∃fs,P.underlying t=some (.struct fs)∧P.stoodInHeld t=false∧B1i (Y5 P d) fs.toList 0=some ks
theorem Tt {d:Nat}(h:Y5 P (d+1) t=some ks):C45 P d t ks:=by
 unfold Y5 at h
 split at h
 ·rename_i js hj
  split at h
  ·rename_i h1 h2 h3
   obtain rfl:=E6 h;refine ⟨Fl h1,h2,Dg h3,?_⟩
   split at hj
   ·rename_i k hk
    obtain rfl:=E6 hj;exact .inl ⟨hk,k,rfl⟩
   ·rename_i hk
    obtain rfl:=E6 hj;exact .inr (.inl ⟨hk,rfl⟩)
   ·rename_i fs hk
    split at hj
    ·simp at hj
    rename_i hs
    exact .inr (.inr ⟨fs,hk,hs,hj⟩)
   simp at hj
  simp at h
 simp at h
theorem C9v:∀(d:Nat) (t:TypeId) (ks:List CK),Y5 P d t=some ks→∀(us vs:List Value) (r:Bool),eqV ks us vs=some r→∀(m:Nat),d≤m→∀w,
  (Op.equalIn m t (V4 P t us) (V4 P t vs)).run P w= .ok r w:=by
 intro d
 induction d with
 |zero=>intro t ks h;simp [Y5] at h
 |succ d ih=>
  intro t ks h us vs r he m hm w;obtain ⟨m,rfl⟩:∃k,m=k+1:=⟨m-1,by omega⟩;have S:=Tt h
  rcases S.desc with ⟨hk,k,rfl⟩|⟨hk,rfl⟩|⟨fs,hk,hst,hf⟩
  ·rcases Rf he with ⟨h,_⟩|⟨k',a,b,ks',xs',ys',q,e,rfl,rfl,hq,rfl⟩|⟨a,b,ks',xs',ys',q,e,_⟩
   ·simp at h
   ·simp only [Nq,CK.int.injEq] at e
    obtain ⟨rfl,rfl⟩:=e
    rcases Rf hq with ⟨_,rfl,rfl,rfl⟩|⟨_,_,_,_,_,_,_,h,_⟩|⟨_,_,_,_,_,_,h,_⟩
    ·simp only [V4,hk,Qs,Kq,A2f]
     rw [run_equalIn_int w m t k k a b hk]
     simp
    ·simp at h
    simp at h
   simp at e
  ·rcases Rf he with ⟨h,_⟩|⟨k',a,b,ks',xs',ys',q,e,_⟩|⟨a,b,ks',xs',ys',q,e,rfl,rfl,hq,rfl⟩
   ·simp at h
   ·simp at e
   simp only [Nq] at e;obtain ⟨_,rfl⟩:=e
   rcases Rf hq with ⟨_,rfl,rfl,rfl⟩|⟨_,_,_,_,_,_,_,h,_⟩|⟨_,_,_,_,_,_,h,_⟩
   ·simp only [V4,hk,Qs,Kq,A2f]
    rw [run_equalIn_bool' w m t a b hk]
    simp
   ·simp at h
   simp at h
  have hfo:P.fieldsOf t=fs:=by simp [Program.fieldsOf,hk]
  have key:∀(l:List Field) (off:Nat) (js:List CK) (q:Bool),B1i (Y5 P d) l off=some js→eqV js (us.drop off) (vs.drop off)=some q→∀w,
    (Op.eqFields m us.toArray vs.toArray l).run P w= .ok q w:=by
   intro l
   induction l with
   |nil=>
    intro off js q hj hq w;obtain rfl:[]=js:=by simpa [B1i] using hj
    rcases Rf hq with ⟨_,_,_,rfl⟩|⟨_,_,_,_,_,_,_,h,_⟩|⟨_,_,_,_,_,_,h,_⟩
    ·simp [Op.eqFields]
    ·simp at h
    simp at h
   |cons f l ihl=>
    intro off js q hj hq w;unfold B1i at hj
    split at hj
    ·rename_i hnm hof
     obtain rfl:=Fl hof
     split at hj
     ·rename_i k1 hk1
      split at hj
      ·rename_i k2 hk2
       obtain rfl:=E6 hj;obtain ⟨r1,r2,h1,h2,rfl⟩:=C3m hq;simp only [List.drop_drop] at h2
       obtain ⟨dd,rfl⟩:∃dd,d=dd+1:=by
        cases d with
        |zero=>simp [Y5] at hk1
        |succ dd=>exact ⟨dd,rfl⟩
       have S1:=Tt hk1
       have hund:(P.underlying f.type).isSome=true:=by
        rcases S1.desc with ⟨h,_⟩|⟨h,_⟩|⟨_,h,_⟩<;>simp [h]
       have l1:=B87 h1;have hp:=S1.pos;simp only [F9,Ge] at l1;have hne:f.name≠ "_" :=by simpa using hnm
       have p1:=A8o (P:=P) f.type us f.offset w hund S1.info (by rw [←S1.len];omega) (by rw [←S1.len];omega);have p2:=A8o (P:=P) f.type vs f.offset w hund S1.info (by rw [←S1.len];omega) (by rw [←S1.len];omega);rw [←S1.len] at p1 p2;have p3:=ih f.type k1 hk1 _ _ r1 h1 m A7 w;simp only [Op.eqFields,hne,ne_eq,not_false_eq_true,Mp,Sem.run_bind,p1,p2,p3,Result.andThen_ok,Sem.run_ite,Sem.run_pure]
       cases r1 with
       |true=>simpa using ihl _ _ _ hk2 h2 w
       |false=>simp
      simp at hj
     simp at hj
    simp at hj
  have:=key fs.toList 0 ks r hf (by simpa using he) w
  simp only [V4,hk,Qs,Kq];rw [run_equalIn_struct w m t us.toArray vs.toArray (by rw [hfo];exact hk) hst,hfo];exact this
theorem L0 {k:IntKind}{n:Int}(h:Gv k n):k.wrap n=n:=by
 cases k<;>simp only [Gv] at h<;>simp only [IntKind.wrap,IntKind.bits,IntKind.signed]<;>simp<;>omega
theorem Re (op:BinOp)(t:TypeId)(x y:Operand)(k j:IntKind)(a b:Int)(w:World):(eqGuard op t x y (.int k a) (.int j b)).run P w= .ok () w:=by
 cases op<;>simp [eqGuard]
theorem A01 (op:BinOp)(t:TypeId)(x y:Operand)(a b:Bool)(w:World):(eqGuard op t x y (.bool a) (.bool b)).run P w= .ok () w:=by
 cases op<;>simp [eqGuard]
theorem B5s (op:BinOp)(t:TypeId)(x y:Operand)(a b:ByteArray)(w:World):(eqGuard op t x y (.string a) (.string b)).run P w= .ok () w:=by
 cases op<;>simp [eqGuard]
variable {wr : Bool} {ps : List Prop}
theorem C5m (hT:Bz P T){op:BinOp}{y z:AV}(hs:A6e wr T op t x y= .ok ps z)(hp:∀p∈ps,p){u v:Value}(hu:Cy E w A N x u)(hv:Cy E w A N y v)(ox oy:Operand):
  ∃r,(∀w,(do eqGuard op t ox oy u v;binOp op t u v:Sem Value).run P w= .ok r w)∧Cy E w A N z r:=by
 have den:∀(r:Value),r.oneCell'=true→Cy E w A N (.v r) r:=fun r h=> .c (.val r h);unfold A6e at hs
 split at hs
 ·rename_i k a j b
  obtain rfl:=B3 hu;obtain rfl:=B3 hv
  split at hs
  ·simp at hs
  rename_i hk
  obtain rfl:k=j:=by simpa [O2] using hk
  have hb:binOp op t (.int k a) (.int k b)=(match op with
    | .shl=>Op.shift .shl k a k b| .shr=>Op.shift .shr k a k b
    | .add| .sub| .mul=>Op.intArith op k a b
    | .quo| .rem=>Op.intDiv op k a b
    | .and| .or| .xor| .andNot=>Op.intBits op k a b
    |_=>Op.intCmp op a b):=by cases op<;>simp [binOp]
  cases op<;>simp only [reduceCtorEq] at hs<;>simp only [Sem.run_bind,Re,Result.andThen_ok,hb]<;>
   first
    |(simp only [Gs.ok.injEq] at hs;obtain ⟨rfl,rfl⟩:=hs;refine ⟨_,fun _=>rfl,den _ rfl⟩)
    |skip
  ·cases wr<;>simp only [Gs.ok.injEq] at hs<;>obtain ⟨rfl,rfl⟩:=hs
   ·have h1:Gv k (a+b):=hp _ Ey
    exact ⟨.int k (a+b),fun _=>by simp [Op.intArith,L0 h1],den _ rfl⟩
   exact ⟨.int k (k.wrap (a+b)),fun _=>by simp [Op.intArith],den _ rfl⟩
  ·cases wr<;>simp only [Gs.ok.injEq] at hs<;>obtain ⟨rfl,rfl⟩:=hs
   ·have h1:Gv k (a-b):=hp _ Ey
    exact ⟨.int k (a-b),fun _=>by simp [Op.intArith,L0 h1],den _ rfl⟩
   exact ⟨.int k (k.wrap (a-b)),fun _=>by simp [Op.intArith],den _ rfl⟩
  ·cases wr<;>simp only [Gs.ok.injEq] at hs<;>obtain ⟨rfl,rfl⟩:=hs
   ·have h1:Gv k (a * b):=hp _ Ey
    exact ⟨.int k (a * b),fun _=>by simp [Op.intArith,L0 h1],den _ rfl⟩
   exact ⟨.int k (k.wrap (a * b)),fun _=>by simp [Op.intArith],den _ rfl⟩
  ·simp only [Gs.ok.injEq] at hs
   obtain ⟨rfl,rfl⟩:=hs;have h1:b≠0:=hp _ Ey;have h2:Gv k (a.tdiv b):=hp _ Ey;exact ⟨.int k (a.tdiv b),fun _=>by simp [Op.intDiv,h1,L0 h2],den _ rfl⟩
  simp only [Gs.ok.injEq] at hs;obtain ⟨rfl,rfl⟩:=hs;have h1:b≠0:=hp _ Ey;exact ⟨.int k (a.tmod b),fun _=>by simp [Op.intDiv,h1],den _ rfl⟩
 ·rename_i a b
  obtain rfl:=B3 hu;obtain rfl:=B3 hv;have hb:binOp op t (.string a) (.string b)=Op.stringOp op a b:=by cases op<;>simp [binOp]
  cases op<;>simp only [reduceCtorEq] at hs<;>simp only [Sem.run_bind,B5s,Result.andThen_ok,hb]<;>simp only [Gs.ok.injEq] at hs<;>obtain ⟨rfl,rfl⟩:=hs
  ·have h1:a.size+b.size≤9223372036854775807:=hp _ Ey
   have h2:¬ (((a.size+b.size:Nat):Int)>IntKind.i64.max):=by
    simp only [IntKind.max,IntKind.signed,IntKind.bits]
    simp
    omega
   refine ⟨.string (a++b),?_,den _ rfl⟩;simp only [Op.stringOp,Ab h2];exact fun _=>rfl
  ·exact ⟨.bool (a==b),fun _=>by rw [beq_toListBytes];rfl,den _ rfl⟩
  exact ⟨.bool !(a==b),fun _=>by rw [beq_toListBytes];rfl,den _ rfl⟩
 ·rename_i a b
  obtain rfl:=B3 hu;obtain rfl:=B3 hv
  have hfl:C5o T t=true→P.underlying t=some .bool:=by
   intro h;unfold C5o at h
   split at h
   ·rename_i i hi
    split at h
    ·rename_i hag hf
     obtain ⟨f,d,z,S⟩:=TI.of_spec (hT t i hi)
     have:=S.flat
     rw [hf] at this
     split at this
     ·simp at this
     have:=Tt this.symm
     rcases this.desc with ⟨_,k,h⟩|⟨h,_⟩|⟨fs,h,_,_⟩
     ·simp at h
     ·exact h
     have e:=S.hd.symm.trans h;simp only [Ex] at e;subst e;rw [S.agg] at hag
     simp [Kq] at hag
    simp at h
   simp at h
  split at hs
  ·rename_i hf
   simp only [Gs.ok.injEq] at hs;obtain ⟨rfl,rfl⟩:=hs;refine ⟨.bool (a==b),fun w=>?_,den _ rfl⟩
   simp [A01,binOp,Op.equal,Op.maxDepth,run_equalIn_bool' w 9999 t a b (hfl hf)]
  ·rename_i hf
   simp only [Gs.ok.injEq] at hs;obtain ⟨rfl,rfl⟩:=hs;refine ⟨.bool !(a==b),fun w=>?_,den _ rfl⟩
   simp [A01,binOp,Op.equal,Op.maxDepth,run_equalIn_bool' w 9999 t a b (hfl hf)]
  simp at hs
 ·rename_i xs ys
  split at hs
  ·rename_i ks hf
   unfold D1l at hf
   split at hf
   ·rename_i i hi
    split at hf
    ·rename_i hag
     obtain ⟨f,d,z,S⟩:=TI.of_spec (hT t i hi);have hfl:=S.flat;rw [hf] at hfl;have hd:Kq d=true:=by rw [←S.agg];exact hag
     split at hfl
     ·simp at hfl
     rename_i hg
     cases hu with
     |agg us lu hu=>
      cases hv with
      |agg vs lv hv=>
       have gd:∀w,(eqGuard op t ox oy (.agg us.toArray) (.agg vs.toArray)).run P w= .ok () w:=fun w=>run_eqGuard_agg w op t ox oy _ _ hg
       have hval:∀us:List Value,V4 P t us= .agg us.toArray:=by
        intro us
        simp [V4,S.hd,hd]
       have main:∀r w,A91 ks xs ys=some r→(Op.equalIn 10000 t (.agg us.toArray) (.agg vs.toArray)).run P w= .ok r w:=by
        intro r w hr
        have:=C9v 10 t ks hfl.symm us vs r (C3l hr lu lv hu hv) 10000 A7 w
        rwa [hval us,hval vs] at this
       split at hs
       ·rename_i r hr
        simp only [Gs.ok.injEq] at hs;obtain ⟨rfl,rfl⟩:=hs;refine ⟨.bool r,fun w=>?_,den _ rfl⟩;simp only [Sem.run_bind,gd,Result.andThen_ok,run_eql_struct,main r w hr]
       ·rename_i r hr
        simp only [Gs.ok.injEq] at hs;obtain ⟨rfl,rfl⟩:=hs;refine ⟨.bool !r,fun w=>?_,den _ rfl⟩;simp only [Sem.run_bind,gd,Result.andThen_ok,run_neq_struct,main r w hr]
       simp at hs
    simp at hf
   simp at hf
  simp at hs
 simp at hs
variable {u : TypeId}
theorem A05 (hT:Bz P T){f o:Nat}(h:A04 T t f=some (o,u)):
  ∃fs F,P.underlying t=some (.struct fs)∧fs[f]? =some F∧F.offset=o∧F.type=u:=by
 unfold A04 at h
 split at h
 ·rename_i i hi
  obtain ⟨g,d,z,S⟩:=TI.of_spec (hT t i hi);rw [S.fields] at h;have hd:=S.hd
  cases d<;>simp only [List.getElem?_nil,reduceCtorEq] at h
  rename_i fs
  simp only [Fa,F1,Je,Array.getElem?_toList] at h;obtain ⟨F,hF,h1,h2⟩:=h;exact ⟨fs,F,hd,hF,h1,h2⟩
 simp at h
theorem A60 (hT:Bz P T){j:TI}{k:IntKind}(hj:find T u=some j)(ha:j.agg=false)(hf:j.flat=some [.int k]):P.underlying u=some (.int k):=by
 obtain ⟨f,d,z,S⟩:=TI.of_spec (hT u j hj)
 have:=S.flat
 rw [hf] at this
 split at this
 ·simp at this
 have:=Tt this.symm
 rcases this.desc with ⟨h,_⟩|⟨h,h'⟩|⟨fs,h,_,_⟩
 ·exact h
 ·simp at h'
 have e:=S.hd.symm.trans h;simp only [Ex] at e;subst e;rw [S.agg] at ha
 simp [Kq] at ha
theorem Mm (hT:Bz P T){f o:Nat}{j:TI}(h:A04 T t f=some (o,u))(hj:find T u=some j)(hp:0<j.size)(b off:Nat)(w:World):
  (Instr.fieldAt t (.pointer (some ⟨b,off,none⟩)) f).run P w= .ok (.pointer (some ⟨b,off+o,none⟩)) w:=by
 obtain ⟨fs,F,h1,h2,h3,h4⟩:=A05 hT h;subst h3 h4;have hs:=Bc (hT _ _ hj) w
 have:j.size≠0:=by omega
 simp [Instr.fieldAt,run_underlying h1,h2,Instr.sureAddr,fieldPlace,hs,this,J1]
def DL (E:G0) (w:World) (A:Nat→Prop) (N:Nat) (acc:List AV) (cs:Array Value):Prop:=
 cs.size=acc.length∧∀i y,acc[i]? =some y→Cy E w A N y (cs.getD i undef)
theorem DL.set {acc:List AV}{cs:Array Value}(h:DL E w A N acc cs)(p:Nat){v:Value}(hx:Cy E w A N x v):
  DL E w A N (C9 acc p x) (cs.setIfInBounds p v):=by
 refine ⟨by simp [Bk,h.1],fun i y hy=>?_⟩;rw [Co] at hy
 by_cases hi:p=i∧i<acc.length
 ·rw [Ak hi] at hy
  obtain rfl:=E6 hy;obtain ⟨rfl,hl⟩:=hi
  have:p<cs.size:=by rw [h.1];exact hl
  simpa [Array.getD,this] using hx
 rw [Ab hi] at hy;have hl:i<acc.length:=(Cx.1 hy).1;have hne:p≠i:=fun e=>hi ⟨e,hl⟩
 have:i<cs.size:=by rw [h.1];exact hl
 have:=h.2 i y hy
 simpa [Array.getD,‹i<cs.size›,B40,hne] using this
theorem DL.fold (off:Nat):∀(vs:List Value) (xs:List AV) (k:Nat) (acc:List AV) (cs:Array Value),DL E w A N acc cs→
  vs.length=xs.length→(∀i x,xs[i]? =some x→Cy E w A N x (vs.getD i undef))→
  DL E w A N (Sn acc (off+k) xs) ((vs.zipIdx k).foldl (fun cs (p:Value×Nat)=>cs.setIfInBounds (off+p.2) p.1) cs):=by
 intro vs
 induction vs with
 |nil=>
  intro xs k acc cs h hl _;obtain rfl:=Pj hl.symm;exact h
 |cons v vs ih=>
  intro xs k acc cs h hl hx
  match xs,hl with
  |x::xs,hl=>
   simp only [List.zipIdx_cons,A0i,Sn]
   have:=ih xs (k+1) _ _ (h.set (off+k) (by simpa using hx 0 x rfl)) (by simpa using hl) (fun i x hi=>by simpa using hx (i+1) x (by simpa using hi))
   simpa [X5] using this
theorem B26 (_hT:Bz P T)(h:s.is B E a w)(fields:List (Nat×TypeId))(place:Nat→Option (Nat×Nat))(hpl:∀k o u,fields[k]? =some (o,u)→∀j,find T u=some j→place k=some (o,j.size)):∀(ps:List (Nat×Operand)) (acc:List AV) (cs:Array Value) (out:List AV),
  Ts T fields s ps acc=some out→DL E w (s.ag E) s.next acc cs→
  ∃cs',Instr.fill place cs (ps.map fun p=>(p.1,a.eval p.2))=some cs'∧DL E w (s.ag E) s.next out cs':=by
 intro ps
 induction ps with
 |nil=>
  intro acc cs out ho hd;obtain rfl:=E6 ho;exact ⟨cs,rfl,hd⟩
 |cons p ps ih=>
  intro acc cs out ho hd;obtain ⟨f,x⟩:=p;unfold Ts at ho
  split at ho
  ·simp at ho
  rename_i off u hf
  split at ho
  ·simp at ho
  rename_i j hj
  split at ho
  ·rename_i hc
   simp only [Ci] at hc;obtain ⟨⟨h1,h2⟩,h3⟩:=hc;have h1:=Fl h1;have h2:=Dg h2;obtain ⟨c1,c2,c3⟩:=R9 (h.ev x) h3 h.one;have hp:=hpl f off u hf j hj;have hsz:(a.eval x).cells.size=j.size:=by rw [c1,h1]
   have hfit:¬ (off+(a.eval x).cells.size>cs.size):=by rw [hd.1,hsz];omega
   have hd2:=DL.fold (E:=E) (w:=w) (A:=s.ag E) (N:=s.next) off (a.eval x).cells.toList (s.ev x).cellsOf 0 acc cs hd (by simpa using c1) (fun i y hi=>by rw [Bo];exact c2 i y hi);obtain ⟨cs',e,hd'⟩:=ih _ _ out ho hd2;refine ⟨cs',?_,hd'⟩;simp only [I1,Instr.fill,hp];rw [Ab (by simp [hsz];rw [←hsz];omega)];rw [←e]
   congr 1
   rw [←Array.foldl_toList,Array.toList_zipIdx]
  simp at ho
theorem B6s (P:Program)(w:World)(g:Field→Sem (Nat×Nat)):∀(fs:List Field),(∀F∈fs,(g F).run P w= .ok (F.offset,P.cellsOf F.type) w)→
  (fs.mapM g).run P w= .ok (fs.map fun F=>(F.offset,P.cellsOf F.type)) w:=by
 intro fs
 induction fs with
 |nil=>intro _;rfl
 |cons F fs ih=>
  intro h;simp only [List.mapM_cons,Sem.run_bind,h F Ey,ih (fun G hG=>h G (by simp [hG])),Result.andThen_ok,Sem.run_pure,I1]
theorem K5 {l:List Value}(h:J8 l=true):∀v∈l,v.oneCell'=true:=by
 induction l with
 |nil=>simp
 |cons v l ih=>
  intro u hu
  rcases Ch.1 hu with rfl|hu
  ·cases u<;>first|rfl|simp [J8] at h
  refine ih ?_ u hu
  cases v<;>first|exact h|simp [J8] at h
theorem B8p {l:List (Nat×TypeId)}(h:C00 T l=true):∀p∈l,∃j,find T p.2=some j:=by
 induction l with
 |nil=>simp
 |cons p l ih=>
  obtain ⟨o,u⟩:=p;unfold C00 at h
  split at h
  ·rename_i j hj
   intro q hq
   rcases Ch.1 hq with rfl|hq
   ·exact ⟨j,hj⟩
   exact ih h q hq
  simp at h
theorem Z3 {j:TI}(h:TI.of P u=some j):P.cellsOf u=j.size:=by
 obtain ⟨f,d,z,S⟩:=TI.of_spec h
 simp [Program.cellsOf,S.hf,S.size]
theorem A5v {i:TI}(ht:TI.of P t=some i){z:Value}(hz:z.cells.toList=i.zero)(E:G0)(w:World)(A:Nat→Prop)(N:Nat):DL E w A N (Jt i) z.cells:=by
 obtain ⟨f,d,z',S⟩:=TI.of_spec ht;refine ⟨by simp [Jt,←hz],fun k y hy=>?_⟩;simp only [Jt,Fa,F1] at hy;obtain ⟨v,hv,rfl⟩:=hy;have hm:v∈i.zero:=I2 hv;rw [←Bo,hz];simp only [List.getD,hv,A2d];exact .c (.val v (K5 S.zone v hm))
theorem A49 (vs:List Value)(off n:Nat)(h:off+n≤vs.length):(vs.drop off).take n=(List.range n).map fun k=>vs.getD (off+k) undef:=by
 apply List.ext_getElem?
 intro i;simp only [X6,Tf,Fa]
 by_cases hi:i<n
 ·have:off+i<vs.length:=by omega
  simp [hi,List.getD,this]
 simp [hi]
theorem C4w (hT:Bz P T)(h:D2q T t=true):P.underlying t=some .string:=by
 unfold D2q at h
 split at h
 ·rename_i i hi;exact O8 (hT t i hi) h
 simp at h
theorem A30 {l:List Ag}{xs:List AV}(h:P6 l=some xs):xs.length=l.length∧∀(k:Nat) (x:AV),xs[k]? =some x→∃v,l[k]? =some (.val v)∧x= .v v:=by
 induction l generalizing xs with
 |nil=>obtain rfl:=E6 h;simp
 |cons c l ih=>
  cases c with
  |val v=>
   unfold P6 at h
   split at h
   ·rename_i cs hcs
    obtain rfl:=E6 h;obtain ⟨h1,h2⟩:=ih hcs;refine ⟨by simp [h1],fun k x hk=>?_⟩
    cases k with
    |zero=>simp only [Ha,Ex] at hk;subst hk;exact ⟨v,by simp,rfl⟩
    |succ k=>simpa using h2 k x (by simpa using hk)
   simp at h
  |sl n es row=>simp [P6] at h
variable {op : Op}
theorem A18 (hT:Bz P T)(hs:Ll T wr s op= .ok ps x)(hp:∀p∈ps,p)(h:s.is B E a w)(o:Oper)(ho:o.op=op):∃v,(∀w',En w w'→(execOp a.eval o).run P w'= .ok (.value v) w')∧Cy E w (s.ag E) s.next x v:=by
 have den:∀(r:Value),r.oneCell'=true→Cy E w (s.ag E) s.next (.v r) r:=fun r h=> .c (.val r h);obtain ⟨dst,op',ty,pos,after,guard⟩:=o
 simp only at ho
 subst ho;unfold Ll at hs
 split at hs
 ·rename_i y
  simp only [Gs.ok.injEq] at hs;obtain ⟨rfl,rfl⟩:=hs;exact ⟨a.eval y,fun _ _=>rfl,h.ev y⟩
 ·rename_i y
  simp only [Gs.ok.injEq] at hs;obtain ⟨rfl,rfl⟩:=hs;exact ⟨a.eval y,fun _ _=>rfl,h.ev y⟩
 ·rename_i b t x' y z
  obtain ⟨r,h1,h2⟩:=C5m hT hs hp (h.ev x') (h.ev y) x' y;refine ⟨r,fun w' _=>?_,h2⟩;have h1:=h1 w';simp only [execOp,Sem.run_bind];simp only [Sem.run_bind] at h1;rw [h1];rfl
 ·rename_i u t y
  have hy:=h.ev y
  split at hs
  ·rename_i b e
   rw [e] at hy;have e1:=B3 hy;simp only [Gs.ok.injEq] at hs;obtain ⟨rfl,rfl⟩:=hs;exact ⟨.bool !b,fun w' _=>by simp [execOp,e1,Op.unary],den _ rfl⟩
  ·rename_i k n e
   rw [e] at hy;have e1:=B3 hy
   cases wr<;>simp only [Gs.ok.injEq] at hs<;>obtain ⟨rfl,rfl⟩:=hs
   ·have h1:Gv k (0-n):=hp _ Ey
    exact ⟨.int k (0-n),fun w' _=>by simp [execOp,e1,Op.unary,Op.intArith];simpa using L0 h1,den _ rfl⟩
   exact ⟨.int k (k.wrap (0-n)),fun w' _=>by simp [execOp,e1,Op.unary,Op.intArith],den _ rfl⟩
  simp at hs
 ·split at hs<;>simp at hs
 ·split at hs<;>simp at hs
 ·rename_i t parts
  split at hs
  ·rename_i i hi
   split at hs
   ·rename_i p0 r0 cs hf0 hall hcs
    simp only [Gs.ok.injEq] at hs;obtain ⟨rfl,rfl⟩:=hs;have ht:=hT t i hi;obtain ⟨f,d,z,S⟩:=TI.of_spec ht;have hd:=S.hd;have hfs:=S.fields
    cases d<;>simp only [hf0,reduceCtorEq] at hfs
    rename_i fs
    have hfs:=hf0.trans hfs;obtain ⟨z',hz',hrun⟩:=Wl ht
    have hplaces:∀F∈fs.toList,∃j,find T F.type=some j:=by
     intro F hF
     have:(F.offset,F.type)∈i.fields:=by rw [hfs];exact Fm.2 ⟨F,hF,rfl⟩
     exact B8p hall _ this
    have hm:∀w,(fs.toList.mapM (fun f=>do pure (f.offset,←sizeOf f.type):Field→Sem (Nat×Nat))).run P w= .ok (fs.toList.map fun F=>(F.offset,P.cellsOf F.type)) w:=by
     intro w;refine B6s P w _ _ (fun F hF=>?_);obtain ⟨j,hj⟩:=hplaces F hF
     simp [Bc (hT _ _ hj),Z3 (hT _ _ hj)]
    obtain ⟨cs',hfill,hDL⟩:=B26 hT h i.fields (fun k=>(fs.toList.map fun F=>(F.offset,P.cellsOf F.type))[k]?) (fun k o u hk j hj=>by
     rw [hfs] at hk;simp only [Fa,F1,Je] at hk ⊢;obtain ⟨F,hF,rfl,rfl⟩:=hk
     exact ⟨F,hF,rfl,Z3 (hT _ _ hj)⟩) parts.toList (Jt i) z'.cells cs hcs (A5v ht hz' E w _ _)
    refine ⟨.agg cs',fun w' _=>?_,?_⟩
    ·simp only [execOp,Instr.build,Sem.run_bind,hrun,Result.andThen_ok,run_underlying hd]
     have hm2:(fs.mapM (fun f=>do pure (f.offset,←sizeOf f.type):Field→Sem (Nat×Nat))).run P w'= .ok (fs.toList.map fun F=>(F.offset,P.cellsOf F.type)).toArray w':=by
      rw [A9h];simp only [A9i,Sem.run_bind,hm,Result.andThen_ok,Sem.run_pure]
     simp only [hm2,Result.andThen_ok,A9j,List.getElem?_toArray,hfill,Sem.run_pure]
    have:=Cy.agg (E:=E) (w:=w) (A:=s.ag E) (N:=s.next) (xs:=cs) cs'.toList (by simpa using hDL.1) (fun k y hk=>by rw [Bo];exact hDL.2 k y hk)
    simpa using this
   simp at hs
  simp at hs
 ·rename_i t y
  have hy:=h.ev y
  split at hs
  ·rename_i i k off hi e
   rw [e] at hy
   split at hs
   ·rename_i b hb
    split at hs
    ·rename_i hle
     simp only [Gs.ok.injEq] at hs;obtain ⟨rfl,rfl⟩:=hs;generalize hv:a.eval y=v at hy
     cases hy with
     |box _ hk=>
      obtain ⟨r,h1,h2⟩:=h.load (hT t i hi) hb (Dg hle);exact ⟨r,fun w' hk=>by simp only [execOp,hv,Sem.run_bind,h1 w' hk,Result.andThen_ok];rfl,h2⟩
    simp at hs
   simp at hs
  ·rename_i i k es j off hi e
   rw [e] at hy
   split at hs
   ·rename_i n es' row hg
    split at hs
    ·simp at hs
    split at hs
    ·rename_i cs hle hcs
     simp only [Ci] at hle;obtain rfl:=Fl hle.1;have hle2:=Dg hle.2;simp only [Gs.ok.injEq] at hs;obtain ⟨rfl,rfl⟩:=hs;generalize hv:a.eval y=v at hy
     cases hy with
     |oel _ b o n' cap hk hov h0 hj=>
      have hown:=(h.own _ (C5 hg)).2.1
      simp only at hown
      rw [hov] at hown;generalize hfp:E.fp k=fp at hown;obtain ⟨m,rfl⟩:=A2e h0;simp only [Bv,A0g] at *
      cases hown with
      |emp=>exact absurd hj (L4 _)
      |sl _ _ _ _ offb _ ty cells fps hn hc hb hsz hl hr=>
       have hrl:=hl m hj;obtain ⟨f1,f2⟩:=A30 hcs
       have hlt:∀k,k<es→(offb+m) * es+k<cells.size:=fun k hk=>by
        have:=H1 (show offb+m<offb+cap by omega) hk
        omega
       have hd:∀k x,cs[k]? =some x→Cy E w (s.ag E) s.next x (((List.range es).map fun k=>cells.getD ((offb+m) * es+k) undef).getD k undef):=by
        intro k x hk';obtain ⟨v',hv1,rfl⟩:=f2 k x hk';have hkl:k<es:=by rw [←hrl];exact (Cx.1 hv1).1
        have:=hr m k _ hj hv1
        simp only [List.getD,Fa,A9k,hkl,Qs,A2d];generalize cells.getD ((offb+m) * es+k) undef=u,fps (m * es+k)=g at this
        cases this with
        |val _ h1=>exact .c (.val _ h1)
       have hread:=Vm cs ((List.range es).map fun k=>cells.getD ((offb+m) * es+k) undef) off i (by rw [f1,hrl];exact hle2) hd
       have hrun:∀w',En w w'→_:=fun w' hkw=>Ja (hT t i hi) w' b (offb * es+m * es+off) ((List.range i.size).map fun k=>((List.range es).map fun k=>cells.getD ((offb+m) * es+k) undef).getD (off+k) undef) Ey (fun k hk=>by
        have h1:off+k<es:=by omega
        have:=hlt (off+k) h1
        rw [show offb * es+m * es+off+k=(offb+m) * es+(off+k) by rw [G7];omega]
        refine hkw.cell ?_;rw [cell_of_row w b _ cells ty (0,0) hb]
        simp [List.getD,hk,h1,Array.getD,this])
       refine ⟨_,fun w' hkw=>?_,hread⟩;simp only [execOp,hv,Instr.loadAt,Instr.sureAddr,Sem.run_bind,Sem.run_pure,Result.andThen_ok,hrun w' hkw]
       cases hag:i.agg with
       |true=>rfl
       |false=>
        obtain ⟨f,d,z,S⟩:=TI.of_spec (hT t i hi);have h1:=S.one (by rw [←S.agg];exact hag)
        simp [h1,List.getD]
    simp at hs
   simp at hs
  ·rename_i i n es row j off hi e
   rw [e] at hy
   split at hs
   ·rename_i hle
    simp only [Gs.ok.injEq] at hs;obtain ⟨rfl,rfl⟩:=hs;generalize hv:a.eval y=v at hy
    cases hy with
    |el _ b o cap hr h0 hj=>
     have hlen:(row j.toNat).length=es:=by
      cases hr with
      |emp=>omega
      |sl _ _ _ _ _ _ u hA hn hc hl hu hr=>exact hl _ A7
     obtain ⟨r,h1,h2⟩:=C98 (E:=E) (N:=s.next) (hT t i hi) hr h0 hj (off:=off) (by rw [hlen];exact Dg hle);exact ⟨r,fun w' hk=>by simp only [execOp,hv,Sem.run_bind,h1 w' hk,Result.andThen_ok];rfl,h2⟩
   simp at hs
  simp at hs
 ·split at hs
  ·split at hs
   ·split at hs<;>simp at hs
   simp at hs
  simp at hs
 ·rename_i t y f
  have hy:=h.ev y
  split at hs
  ·rename_i o u hf
   split at hs
   ·rename_i k off hsz e
    obtain ⟨j,hj,hjs⟩:=F1.1 hsz;rw [e] at hy;simp only [Gs.ok.injEq] at hs;obtain ⟨rfl,rfl⟩:=hs;generalize hv:a.eval y=v at hy
    cases hy with
    |box _ hk=>exact ⟨_,fun w' _=>by simp only [execOp,hv,Sem.run_bind,Mm hT hf hj (Dg hjs),Result.andThen_ok];rfl,.box _ hk⟩
   ·rename_i n es row j' off hsz e
    obtain ⟨j,hj,hjs⟩:=F1.1 hsz;rw [e] at hy;simp only [Gs.ok.injEq] at hs;obtain ⟨rfl,rfl⟩:=hs;generalize hv:a.eval y=v at hy
    cases hy with
    |el _ b o' cap hr h0 hi=>exact ⟨_,fun w' _=>by simp only [execOp,hv,Sem.run_bind,Mm hT hf hj (Dg hjs),Result.andThen_ok];rfl,by rw [X5];exact .el _ b o' cap hr h0 hi⟩
   ·rename_i k es j' off hsz e
    obtain ⟨j,hj,hjs⟩:=F1.1 hsz;rw [e] at hy;simp only [Gs.ok.injEq] at hs;obtain ⟨rfl,rfl⟩:=hs;generalize hv:a.eval y=v at hy
    cases hy with
    |oel _ b o' n cap hk hov h0 hi=>exact ⟨_,fun w' _=>by simp only [execOp,hv,Sem.run_bind,Mm hT hf hj (Dg hjs),Result.andThen_ok];rfl,by rw [X5];exact .oel _ b o' n cap hk hov h0 hi⟩
   simp at hs
  simp at hs
 ·rename_i t y f
  have hy:=h.ev y
  split at hs
  ·rename_i o u cs hf e
   rw [e] at hy
   split at hs
   ·rename_i j hj
    split at hs
    ·rename_i hle
     simp only [Gs.ok.injEq] at hs;obtain ⟨rfl,rfl⟩:=hs;generalize hv:a.eval y=v at hy
     cases hy with
     |agg vs hl hx=>
      obtain ⟨fs,F,h1,h2,h3,h4⟩:=A05 hT hf;subst h3 h4;have htj:=hT _ _ hj;obtain ⟨f',d,z,S⟩:=TI.of_spec htj;simp only [Ci] at hle;have hle1:=Dg hle.1;have hle2:=Dg hle.2;have hsz:=Z3 htj;have hp:=fun w=>A8o (P:=P) F.type vs F.offset w (by simp [S.hd]) (by simp [S.hf]) (by rw [hsz,hl];exact hle1) (by rw [hsz];exact hle2);have hd:=Vm cs vs F.offset j hle1 hx
      have heq:V4 P F.type ((vs.drop F.offset).take (P.cellsOf F.type))=(match j.agg with|true=> .agg ((List.range j.size).map fun k=>vs.getD (F.offset+k) undef).toArray|false=>vs.getD F.offset undef):=by
       rw [hsz,S.agg];simp only [V4,S.hd,Qs]
       cases Kq d with
       |true=>
        congr 2
        rw [A49 vs F.offset j.size (by rw [hl];exact hle1)]
       |false=>
        have:F.offset<vs.length:=by rw [hl];omega
        simp [List.getD,show 0<j.size by omega]
      refine ⟨_,fun w' _=>?_,(by rw [heq];exact hd:Cy E w (s.ag E) s.next (O5 j cs F.offset) (V4 P F.type ((vs.drop F.offset).take (P.cellsOf F.type))))⟩;simp only [execOp,hv,Instr.field,Sem.run_bind,run_underlying h1,Result.andThen_ok,h2,asAgg,Sem.run_pure,hp]
    simp at hs
   simp at hs
  simp at hs
 ·rename_i t y z
  have hy:=h.ev y;have hz:=h.ev z
  split at hs
  ·rename_i e n es row k j he ey ez
   obtain ⟨i,hi,hie⟩:=Ws.1 he;rw [ey] at hy;rw [ez] at hz
   split at hs
   ·rename_i hes
    obtain ⟨i',hi',hb⟩:=F1.1 hes;have hes:=Fl hb;simp only [Gs.ok.injEq] at hs;obtain ⟨rfl,rfl⟩:=hs;obtain ⟨h0,h1⟩:0≤j∧j<(n:Int):=hp _ Ey;generalize hv:a.eval y=v at hy;have hw:=B3 hz;have hund:=Bt (hT t i hi) hie;have hel:P.elem t=e:=by simp [Program.elem,hund]
    cases hy with
    |c hr=>
     cases hr with
     |nil=>simp at h1;omega
     |emp=>simp at h1;omega
     |sl _ _ _ b off cap u hA hn hc hl hu hr=>
      refine ⟨.pointer (some ⟨b,off+j.toNat * es+0,none⟩),fun w _=>?_,.el 0 b off cap (.sl n es row b off cap u hA hn hc hl hu hr) h0 h1⟩
      have:=run_indexAt_slice (P:=P) w t ⟨b,off,none⟩ n cap k j (by rw [hel];exact hund)
      rw [Ak ⟨h0,h1⟩,hel,Bc (hT _ _ hi')] at this;simp only [Result.andThen_ok,J1] at this;simp only [execOp,hv,hw,Sem.run_bind,this,Result.andThen_ok,hes];rfl
   simp at hs
  ·rename_i e k ik j he ey ez
   obtain ⟨i,hi,hie⟩:=Ws.1 he;rw [ey] at hy;rw [ez] at hz
   split at hs
   ·rename_i n es row hg
    split at hs
    ·rename_i hes
     obtain ⟨i',hi',hb⟩:=F1.1 hes;have hes:=Fl hb;simp only [Gs.ok.injEq] at hs;obtain ⟨rfl,rfl⟩:=hs;obtain ⟨h0,h1⟩:0≤j∧j<(n:Int):=hp _ Ey;generalize hv:a.eval y=v at hy;have hw:=B3 hz;have hund:=Bt (hT t i hi) hie;have hel:P.elem t=e:=by simp [Program.elem,hund]
     cases hy with
     |own hk=>
      have hown:=(h.own _ (C5 hg)).2.1
      simp only at hown
      generalize hov:E.ov k=u,hfp:E.fp k=fp at hown
      cases hown with
      |nil=>simp at h1;omega
      |emp=>simp at h1;omega
      |sl _ _ _ b offb cap ty cells fps hn hc hb' hsz hl hr=>
       refine ⟨.pointer (some ⟨b,offb * es+j.toNat * es+0,none⟩),fun w _=>?_,.oel 0 b (offb * es) n cap hk hov h0 h1⟩
       have:=run_indexAt_slice (P:=P) w t ⟨b,offb * es,none⟩ n cap ik j (by rw [hel];exact hund)
       rw [Ak ⟨h0,h1⟩,hel,Bc (hT _ _ hi')] at this;simp only [Result.andThen_ok,J1] at this;simp only [execOp,hv,hov,hw,Sem.run_bind,this,Result.andThen_ok,hes];rfl
    simp at hs
   simp at hs
  simp at hs
 ·rename_i t y z
  have hy:=h.ev y;have hz:=h.ev z
  split at hs
  ·rename_i b k j hst ey ez
   rw [ey] at hy;rw [ez] at hz;have e1:=B3 hy;have e2:=B3 hz;simp only [Gs.ok.injEq] at hs;obtain ⟨rfl,rfl⟩:=hs;obtain ⟨h0,h1⟩:0≤j∧j<(b.size:Int):=hp _ Ey;have hlt:j.toNat<b.size:=by omega
   have hg:b[j.toNat]? =some (b.data.getD j.toNat 0):=by
    rw [getElem?_pos b j.toNat hlt];have h2:j.toNat<b.data.size:=hlt;simp only [Array.getD,h2,dif_pos];rfl
   exact ⟨.int .u8 (b.data.getD j.toNat 0).toNat,fun w' _=>by simp [execOp,e1,e2,Instr.index,asIntOf,h0,hg,run_underlying (C4w hT hst)],den _ rfl⟩
  simp at hs
 ·rename_i y i
  have hy:=h.ev y
  split at hs
  ·rename_i xs e
   rw [e] at hy
   split at hs
   ·rename_i hlt
    simp only [Gs.ok.injEq] at hs;obtain ⟨rfl,rfl⟩:=hs;generalize hv:a.eval y=v at hy
    cases hy with
    |tup vs hl hx=>
     rw [Ce];have hi:i<xs.length:=by simp [Nat.blt] at hlt;omega
     have hi':i<vs.length:=by omega
     have:=hx i _ (Dl hi)
     refine ⟨vs[i],fun w' _=>by simp [execOp,hv,Instr.extract,hi'],?_⟩
     rw [Dl hi]
     simpa [List.getD,hi'] using this
   simp at hs
  simp at hs
 ·rename_i y
  have hy:=h.ev y
  split at hs
  ·rename_i k off e
   rw [e] at hy;simp only [Gs.ok.injEq] at hs;obtain ⟨rfl,rfl⟩:=hs;generalize hv:a.eval y=v at hy
   cases hy with
   |box _ hk=>exact ⟨_,fun w' _=>by simp only [execOp,hv];rfl,.box _ hk⟩
  ·rename_i n es row j off e
   rw [e] at hy;simp only [Gs.ok.injEq] at hs;obtain ⟨rfl,rfl⟩:=hs;generalize hv:a.eval y=v at hy
   cases hy with
   |el _ b o' cap hr h0 hi=>exact ⟨_,fun w' _=>by simp only [execOp,hv];rfl,.el _ b o' cap hr h0 hi⟩
  ·rename_i k es j off e
   rw [e] at hy;simp only [Gs.ok.injEq] at hs;obtain ⟨rfl,rfl⟩:=hs;generalize hv:a.eval y=v at hy
   cases hy with
   |oel _ b o' n cap hk hov h0 hi=>exact ⟨_,fun w' _=>by simp only [execOp,hv];rfl,.oel _ b o' n cap hk hov h0 hi⟩
  simp at hs
 ·rename_i args ats
  split at hs
  ·rename_i x' t ea et
   split at hs
   ·rename_i i hi
    have hy:=h.ev x';obtain rfl:args= #[x']:=by cases args;simp at ea;simp [ea]
    obtain rfl:ats= #[t]:=by cases ats;simp at et;simp [et]
    split at hs
    ·rename_i b hst e
     rw [e] at hy;have e1:=B3 hy;simp only [Gs.ok.injEq] at hs;obtain ⟨rfl,rfl⟩:=hs;exact ⟨.int .i64 b.size,fun w' _=>by simp [execOp,resolve,invoke,builtin,e1,Builtin.len_,run_underlying (O8 (hT t i hi) hst),goInt],den _ rfl⟩
    ·rename_i el a0 n c hst hel e
     rw [e] at hy;have e1:=B3 hy;simp only [Gs.ok.injEq] at hs;obtain ⟨rfl,rfl⟩:=hs;exact ⟨.int .i64 n,fun w' _=>by simp [execOp,resolve,invoke,builtin,e1,Builtin.len_,run_underlying (Bt (hT t i hi) hel),goInt],den _ rfl⟩
    ·rename_i el n es row hst hel e
     rw [e] at hy;simp only [Gs.ok.injEq] at hs;obtain ⟨rfl,rfl⟩:=hs
     have hsl:∃a0 c,a.eval x'= .slice a0 n c:=by
      generalize a.eval x'=v at hy
      cases hy with
      |c hr=>cases hr<;>exact ⟨_,_,rfl⟩
     obtain ⟨a0,c,e1⟩:=hsl;exact ⟨.int .i64 n,fun w' _=>by simp [execOp,resolve,invoke,builtin,e1,Builtin.len_,run_underlying (Bt (hT t i hi) hel),goInt],den _ rfl⟩
    ·rename_i el k hst hel e
     rw [e] at hy
     split at hs
     ·rename_i n es row hg
      simp only [Gs.ok.injEq] at hs;obtain ⟨rfl,rfl⟩:=hs
      have hsl:∃a0 c,a.eval x'= .slice a0 n c:=by
       generalize a.eval x'=v at hy
       cases hy with
       |own hk=>
        have:=(h.own _ (C5 hg)).2.1
        simp only at this
        generalize E.ov k=v,E.fp k=fp at this
        cases this<;>exact ⟨_,_,rfl⟩
      obtain ⟨a0,c,e1⟩:=hsl;exact ⟨.int .i64 n,fun w' _=>by simp [execOp,resolve,invoke,builtin,e1,Builtin.len_,run_underlying (Bt (hT t i hi) hel),goInt],den _ rfl⟩
     simp at hs
    simp at hs
   simp at hs
  simp at hs
 ·rename_i args ats
  split at hs
  ·rename_i x' y' ea
   obtain rfl:args= #[x',y']:=by cases args;simp at ea;simp [ea]
   have hy:=h.ev x';have hz:=h.ev y'
   split at hs
   ·rename_i k m j n ex ey
    rw [ex] at hy;rw [ey] at hz;have e1:=B3 hy;have e2:=B3 hz
    split at hs
    ·rename_i hk
     simp only [Gs.ok.injEq] at hs;obtain ⟨rfl,rfl⟩:=hs;exact ⟨_,fun w' _=>by simp [execOp,resolve,invoke,builtin,e1,e2,Builtin.max_,Builtin.max2],den _ rfl⟩
    simp at hs
   simp at hs
  simp at hs
 ·rename_i args ats
  split at hs
  ·rename_i x' y' ea
   obtain rfl:args= #[x',y']:=by cases args;simp at ea;simp [ea]
   have hy:=h.ev x';have hz:=h.ev y'
   split at hs
   ·rename_i k m j n ex ey
    rw [ex] at hy;rw [ey] at hz;have e1:=B3 hy;have e2:=B3 hz
    split at hs
    ·rename_i hk
     simp only [Gs.ok.injEq] at hs;obtain ⟨rfl,rfl⟩:=hs;exact ⟨_,fun w' _=>by simp [execOp,resolve,invoke,builtin,e1,e2,Builtin.min_,Builtin.min2],den _ rfl⟩
    simp at hs
   simp at hs
  simp at hs
 ·rename_i t u y
  split at hs
  ·rename_i i j hi hj
   obtain ⟨f1,d1,z1,S1⟩:=TI.of_spec (hT t i hi);have hy:=h.ev y
   split at hs
   ·rename_i b e
    rw [e] at hy;have e1:=B3 hy
    split at hs
    ·rename_i hst
     simp only [Gs.ok.injEq] at hs;obtain ⟨rfl,rfl⟩:=hs;exact ⟨.string b,fun w' _=>by simp [execOp,convert,e1,run_underlying S1.hd,run_underlying (O8 (hT u j hj) hst)],den _ rfl⟩
    simp at hs
   ·rename_i k0 n e
    rw [e] at hy;have e1:=B3 hy
    split at hs
    ·rename_i k hag hfl
     have hund:=A60 hT hj hag hfl
     cases wr<;>simp only [Gs.ok.injEq] at hs<;>obtain ⟨rfl,rfl⟩:=hs
     ·have h1:Gv k n:=hp _ Ey
      exact ⟨.int k n,fun w' _=>by simp [execOp,convert,e1,run_underlying S1.hd,run_underlying hund,Conv.intToInt,L0 h1],den _ rfl⟩
     exact ⟨.int k (k.wrap n),fun w' _=>by simp [execOp,convert,e1,run_underlying S1.hd,run_underlying hund,Conv.intToInt],den _ rfl⟩
    simp at hs
   simp at hs
  simp at hs
 ·(repeat' (split at hs))<;>simp at hs
 ·(repeat' (split at hs))<;>simp at hs
 ·rename_i f first ai
  split at hs
  ·rename_i ef
   simp only [Gs.ok.injEq] at hs;obtain ⟨rfl,rfl⟩:=hs;obtain rfl:first= #[]:=by cases first;simp at ef;simp [ef]
   refine ⟨.func (.func f) #[] (ai.toList.map a.eval).toArray,fun w' _=>?_,.fn _ Ey (fun i x hx=>?_)⟩
   ·obtain ⟨ai⟩:=ai
    simp [execOp,Instr.makeFunc]
   simp only [Fa,F1] at hx;obtain ⟨c,hc,rfl⟩:=hx
   simpa [List.getD,hc] using h.ev c
  simp at hs
 simp at hs
variable {ops : Array Oper}
def Dk:Op→Nat
 | .alloc _=>1
 | .box _ _=>1
 | .makeSlice _ _ _=>1
 | .buildSlice _ _ _=>1
 | .store _ _ _=>2
 | .call {callee:= .value _,..}=>1
 | .call {callee:= .builtin .append,..}=>2
 | .call {callee:= .builtin .copy,..}=>2
 | .call {callee:= .builtin .clear,..}=>2
 |_=>0
def Pd:Op→Bool
 | .move _=>true
 | .assign _=>true
 |_=>false
variable {o : Oper}
theorem Sr (h:Pd o.op=true)(ρ:Operand→Value){v:Value}(hr:(execOp ρ o).run P w= .ok (.value v) w):(execOp ρ o).run P w'= .ok (.value v) w':=by
 obtain ⟨dst,op,ty,pos,after,guard⟩:=o
 cases op<;>simp [Pd] at h
 all_goals
  rename_i x
  simp only [execOp] at hr ⊢
  have:ρ x=v:=by simpa using hr
  rw [this];rfl
def Yw (P:Program) (N:Value→World→Prop):Result Next→Prop
 | .ok (.value v) w=>N v w
 | .ok .skip w=>N undef w
 | .ok (.enter f args) w=>Calls P f args w fun e w'=>∃v,e= .returned v∧N v w'
 |_=>False
theorem Yw.mono {N N':Value→World→Prop}(h:∀v w,N v w→N' v w){r:Result Next}(hr:Yw P N r):Yw P N' r:=by
 cases r with
 |ok n w=>cases n<;>first|exact h _ _ hr|exact hr|exact Calls.mono hr fun e w' ⟨v,h1,h2⟩=>⟨v,h1,h _ _ h2⟩
 |halt x w=>exact hr
def Ko (P:Program) (o:Oper) (a:Act) (w:World) (K:Act→World→Prop):Prop:=
 Yw P (fun v w'=>(Dk o.op≤1→En w w')∧K (a.put o.dst v) w') ((execOp a.eval o).run P w)
variable {K : Act → World → Prop} {K' : Act → World → Prop}
theorem Ko.mono (h:∀a w,K a w→K' a w)(hd:Ko P o a w K):Ko P o a w K':=
 Yw.mono (fun _ _ ⟨h1,h2⟩=>⟨h1,h _ _ h2⟩) hd
variable {Q : Exit → Act → World → Prop}
theorem Ko.wp (hd:Ko P o a w K):o.wp P a w K Q:=by
 unfold Ko at hd;unfold Oper.wp;generalize (execOp a.eval o).run P w=r at *
 cases r with
 |ok n w'=>
  cases n<;>simp only [Yw] at hd<;>simp only [Oper.upon]
  case value v=>exact hd.2
  case skip=>exact hd.2
  case enter f args=>exact hd.mono fun e w'' ⟨v,he,h⟩=>by subst he;exact h.2
 |halt x w'=>simp only [Yw] at hd
def C49 (P:Program) (o:Oper) (a:Act) (w:World) (v:Value):Prop:=∀w',Pd o.op=true∨En w w'→(execOp a.eval o).run P w'= .ok (.value v) w'
def G6 (P:Program) (ops:Array Oper) (Q:Act→World→Prop):List Oper→Act→World→Prop
 | [],a,w=>Q a w
 |o::rest,a,w=>
  if Region.wanted o (yielded ops a.tmps) then
   (∃v,(∀w',En w w'→(execOp a.eval o).run P w'= .ok (.value v) w')∧G6 P ops Q rest (a.put o.dst v) w)∨(Dk o.op≠0∧Ko P o a w (G6 P ops Q rest))
  else G6 P ops Q rest (a.put o.dst undef) w
def opM (P:Program) (ops:Array Oper) (i:Nat) (K:Act→World→Prop) (a:Act) (w:World):Prop:=
 match ops[i]? with
 |none=>K a w
 |some o=>if Region.wanted o (yielded ops a.tmps) then Ko P o a w K else K (a.put o.dst undef) w
theorem B6z (h:∀a w,K a w→K' a w)(hh:opM P ops i K a w):opM P ops i K' a w:=by
 unfold opM at *
 split
 ·exact h _ _ (by simpa [*] using hh)
 rename_i o ho
 simp only [ho] at hh
 split
 ·rename_i hw;simp only [hw,Mp] at hh;exact Ko.mono h hh
 rename_i hw;simp only [hw] at hh;exact h _ _ hh
def Qz (P:Program) (ops:Array Oper) (Q:Act→World→Prop):Nat→Array Bool→Act→World→Prop
 | 0,listed,a,w=>Region.ready .any ops listed=[]∧Q a w
 |fuel+1,listed,a,w=>(Region.ready .any ops listed=[]→Q a w)∧∀i∈Region.ready .any ops listed,opM P ops i (Qz P ops Q fuel (listed.setIfInBounds i true)) a w
theorem Xb {Q:Act→World→Prop}{Q':Exit→Act→World→Prop}(hQ:∀a w,Q a w→Q' .normal a w):∀(fuel:Nat) (listed:Array Bool) (a:Act) (w:World),
  Qz P ops Q fuel listed a w→wpAny P .any ops Q' fuel listed a w
 | 0,_,_,_,h=>⟨h.1,hQ _ _ h.2⟩
 |fuel+1,listed,a,w,h=>⟨fun h0=>hQ _ _ (h.1 h0),fun i hi=>by
   have:=h.2 i hi
   unfold opM at this;unfold wpOp
   split
   ·rename_i ho;simp only [ho] at this;exact Xb hQ _ _ _ _ this
   rename_i o ho
   simp only [ho] at this
   split
   ·rename_i hw;simp only [hw,Mp] at this;exact .inl (Ko.wp (this.mono fun a' w'=>Xb hQ fuel _ a' w'))
   rename_i hw;simp only [hw] at this;exact Xb hQ fuel _ _ _ this⟩
def Lz (P:Program) (ops:Array Oper) (o:Oper) (v:Value) (a:Act) (w:World):Prop:=
 (Region.wanted o (yielded ops a.tmps)=true∧C49 P o a w v)∨(Region.wanted o (yielded ops a.tmps)=false∧v=undef)
theorem Lz.opM {v:Value}(hi:ops[i]? =some o)(hy:Lz P ops o v a w)(h:K (a.put o.dst v) w):opM P ops i K a w:=by
 unfold Sx.opM;simp only [hi]
 rcases hy with ⟨hw,hv⟩|⟨hw,rfl⟩
 ·simp only [hw,Mp]
  unfold Ko;rw [hv w (.inr (En.refl w))];exact ⟨fun _=>En.refl w,h⟩
 simp only [hw,Td,Te];exact h
theorem Lz.of_same {v:Value}{a':Act}(hy:Lz P ops o v a w)(he:execOp a'.eval o=execOp a.eval o)(hw:Region.wanted o (yielded ops a'.tmps)=Region.wanted o (yielded ops a.tmps))(hk:Pd o.op=true∨En w w'):Lz P ops o v a' w':=by
 unfold Lz C49 at *;rw [he,hw];refine hy.imp (fun ⟨h1,h2⟩=>⟨h1,fun w'' h=>h2 w'' ?_⟩) id
 rcases hk with hk|hk
 ·exact .inl hk
 exact h.imp id hk.trans
theorem D0q {oi oj:Oper}{v:Value}(hj:ops[j]? =some oj)(hap:oi.apart ops oj=true)(hkind:Pd oi.op=true∨Dk oj.op≤1)(hsi:∀cs b,oi.op≠ .select cs b)(hsj:∀cs b,oj.op≠ .select cs b)(hy:Lz P ops oi v a w)(h:opM P ops j K (a.put oi.dst v) w):
  opM P ops j (fun a' w'=>Lz P ops oi v a' w'∧K (a'.put oi.dst v) w') a w:=by
 obtain ⟨h1,h2,h3⟩:=Oper.apart_spec hap
 have keep:∀w',(Pd oi.op=true∨En w w')→∀u,Lz P ops oi v (a.put oj.dst u) w':=fun w' hk u=>
  hy.of_same (execOp_put oi hsi a oj.dst u h3) (wanted_put oi a oj.dst u h3) hk
 unfold opM at *;simp only [hj] at *;rw [wanted_put oj a oi.dst v h1] at h
 split
 ·rename_i hw
  simp only [hw,Mp] at h;unfold Ko at *;rw [execOp_put oj hsj a oi.dst v h1] at h;refine Yw.mono (fun u w' ⟨k1,k2⟩=>⟨k1,keep w' (hkind.imp id k1) u,?_⟩) h;rw [←Act.put_comm a v u h2];exact k2
 rename_i hw
 simp only [hw] at h;exact ⟨keep w (.inr (En.refl w)) _,by rw [←Act.put_comm a v undef h2];exact h⟩
def Pm (ops:Array Oper) (listed:Array Bool):Prop:=∀j o,ops[j]? =some o→listed.getD j false=true→∀e∈o.after,Region.binds .any e=true→listed.getD e.on false=true
variable {listed : Array Bool}
theorem Pm.set (h:Pm ops listed)(hi:i∈Region.ready .any ops listed):Pm ops (listed.setIfInBounds i true):=by
 intro j o ho hl e he hb;refine getD_set_true ?_
 by_cases hij:i=j
 ·subst hij
  obtain ⟨_,o',ho',hall⟩:=mem_ready.1 hi;rw [ho] at ho';obtain rfl:=E6 ho';exact hall e he hb
 rw [getD_set_ne false hij] at hl;exact h j o ho hl e he hb
def inN (i:Nat):List Nat→Bool
 | []=>false
 |j::r=>match Nat.beq i j with
  |true=>true
  |false=>inN i r
theorem C1g:∀{l:List Nat},inN i l=true→i∈l
 | [],h=>by simp [inN] at h
 |j::r,h=>by
  unfold inN at h
  split at h
  ·rename_i e;rw [Fl e];exact L3
  exact Db _ (C1g h)
def B9w:List Edge→List Nat
 | []=>[]
 |e::r=>match Region.binds .any e with
  |true=>e.on::B9w r
  |false=>B9w r
theorem A1o:∀{l:List Edge},k∈B9w l→∃e∈l,Region.binds .any e=true∧e.on=k
 | [],h=>by simp [B9w] at h
 |e::r,h=>by
  unfold B9w at h
  split at h
  ·rename_i hb
   rcases Ch.1 h with h|h
   ·exact ⟨e,L3,hb,h.symm⟩
   obtain ⟨e',h1,h2⟩:=A1o h;exact ⟨e',Db _ h1,h2⟩
  obtain ⟨e',h1,h2⟩:=A1o h;exact ⟨e',Db _ h1,h2⟩
def W9 (ops:Array Oper) (i:Nat):Nat→List Nat→List Nat→Bool
 | 0,_,_=>false
 |_+1,[],_=>false
 |f+1,j::todo,seen=>
  match inN j seen with
  |true=>W9 ops i f todo seen
  |false=>match ops[j]? with
   |some o=>match inN i (B9w o.after.toList) with
    |true=>true
    |false=>W9 ops i f (B9w o.after.toList++todo) (j::seen)
   |none=>W9 ops i f todo seen
theorem Oh (hc:Pm ops listed):∀(f:Nat) (todo seen:List Nat),W9 ops i f todo seen=true→
  (∀j∈todo,∀o,ops[j]? =some o→∀e∈o.after,Region.binds .any e=true→listed.getD e.on false=true)→listed.getD i false=true
 | 0,_,_,h,_=>by simp [W9] at h
 |f+1,[],_,h,_=>by simp [W9] at h
 |f+1,j::todo,seen,h,hj=>by
  unfold W9 at h
  split at h
  ·exact Oh hc f todo seen h (fun k hk=>hj k (Db _ hk))
  split at h
  ·rename_i o ho
   have hP:=hj j L3 o ho
   split at h
   ·rename_i hm
    obtain ⟨e,he,hb,hon⟩:=A1o (C1g hm)
    have:=hP e (A2g.1 he) hb
    rw [hon] at this;exact this
   refine Oh hc f _ _ h (fun k hk=>?_)
   rcases Ki.1 hk with hk|hk
   ·obtain ⟨e,he,hb,hon⟩:=A1o hk
    have hl:=hP e (A2g.1 he) hb;rw [hon] at hl;exact fun o' ho' e' he' hb'=>hc k o' ho' hl e' he' hb'
   exact hj k (Db _ hk)
  exact Oh hc f todo seen h (fun k hk=>hj k (Db _ hk))
def Wr (ops:Array Oper) (_ j i:Nat):Bool:=W9 ops i 2000 [j] []
theorem B0w (hc:Pm ops listed)(f j:Nat)(h:Wr ops f j i=true)(hj:∀o,ops[j]? =some o→∀e∈o.after,Region.binds .any e=true→listed.getD e.on false=true):listed.getD i false=true:=
 Oh hc 2000 [j] [] h (fun k hk=>by rw [I3.1 hk];exact hj)
theorem We (hi:i∈Region.ready .any ops listed):listed.getD i false=false:=by
 have h0:=(mem_ready.1 hi).1
 rcases Nat.lt_or_ge i listed.size with h'|h'
 ·simp [h'] at h0 ⊢;exact h0
 simp [Array.getElem?_eq_none h']
theorem Nx {Q:Act→World→Prop}{oi:Oper}{v:Value}(hi:ops[i]? =some oi)(hsel:∀(j:Nat) (o:Oper) cs b,ops[j]? =some o→o.op≠ .select cs b)(n:Nat):
  ∀(fuel:Nat) (listed:Array Bool) (a:Act) (w:World),Pm ops listed→
   (∀j oj,ops[j]? =some oj→j≠i→listed.getD j true=false→Wr ops n j i=true∨(oi.apart ops oj=true∧(Pd oi.op=true∨Dk oj.op≤1)))→
   i∈Region.ready .any ops listed→Lz P ops oi v a w→
   Qz P ops Q fuel (listed.setIfInBounds i true) (a.put oi.dst v) w→Qz P ops Q (fuel+1) listed a w:=by
 intro fuel
 induction fuel with
 |zero=>
  intro listed a w _ _ hr hy H;refine ⟨fun h=>(by rw [h] at hr;cases hr),fun j hj=>?_⟩
  by_cases hji:j=i
  ·subst hji;exact hy.opM hi H
  have:=ready_mono hj hji
  rw [H.1] at this
  cases this
 |succ fuel ih=>
  intro listed a w hcl hfree hr hy H;refine ⟨fun h=>(by rw [h] at hr;cases hr),fun j hj=>?_⟩
  by_cases hji:j=i
  ·subst hji;exact hy.opM hi H
  have h1:=H.2 j (ready_mono hj hji);obtain ⟨hjun,oj,hoj,hall⟩:=mem_ready.1 hj;have hun:=We hr
  have hf:oi.apart ops oj=true∧(Pd oi.op=true∨Dk oj.op≤1):=by
   rcases hfree j oj hoj hji hjun with h|h
   ·have:=B0w hcl n j h (fun o ho e he hb=>by rw [hoj] at ho;obtain rfl:=E6 ho;exact hall e he hb)
    rw [hun] at this
    cases this
   exact h
  have h2:=D0q hoj hf.1 hf.2 (fun cs b=>hsel i oi cs b hi) (fun cs b=>hsel j oj cs b hoj) hy h1
  have hfree':∀k ok,ops[k]? =some ok→k≠i→(listed.setIfInBounds j true).getD k true=false→
    Wr ops n k i=true∨(oi.apart ops ok=true∧(Pd oi.op=true∨Dk ok.op≤1)):=fun k ok hk hki hun=>by
   refine hfree k ok hk hki ?_
   by_cases hjk:j=k
   ·subst hjk;exact hjun
   rw [getD_set_ne true hjk] at hun;exact hun
  refine B6z (fun a' w' h3=>ih (listed.setIfInBounds j true) a' w' (hcl.set hj) hfree' (ready_mono hr (Ne.symm hji)) h3.1 ?_) h2;rw [Array.setIfInBounds_comm _ _ hji];exact h3.2
def B5x (ops:Array Oper) (listed:Array Bool) (i:Nat) (oi:Oper):Bool:=
 (List.range ops.size).all fun j=>j==i||listed.getD j true||(match ops[j]? with
  |some oj=>oi.apart ops oj&&(Pd oi.op||Nat.ble (Dk oj.op) 1)
  |none=>true)||Wr ops ops.size j i
def Xk (ops:Array Oper):List Nat→Array Bool→Bool
 | [],listed=>(Region.ready .any ops listed).isEmpty
 |i::rest,listed=>(match ops[i]? with
   |some o=>match Dk o.op with
    | 0=>(Region.ready .any ops listed).contains i&&B5x ops listed i o
    |_=>match Region.ready .any ops listed with
     | [j]=>j==i
     |_=>false
   |none=>false)&&Xk ops rest (listed.setIfInBounds i true)
def Zi (ops:Array Oper) (ord:List Nat):List Oper:=ord.filterMap fun i=>ops[i]?
def C7g (ops:Array Oper) (ord:List Nat):Bool:=Region.noSelect ops&&(ord.length==ops.size)&&Xk ops ord (Array.replicate ops.size false)
theorem A0u {Q:Act→World→Prop}(hsel:∀(j:Nat) (o:Oper) cs b,ops[j]? =some o→o.op≠ .select cs b):∀(ord:List Nat) (listed:Array Bool) (a:Act) (w:World),
  Xk ops ord listed=true→Pm ops listed→G6 P ops Q (ord.filterMap fun i=>ops[i]?) a w→Qz P ops Q ord.length listed a w
 | [],listed,a,w,h,_,hq=>⟨by simpa [Xk] using h,hq⟩
 |i::rest,listed,a,w,h,hc,hq=>by
  unfold Xk at h;simp only [Ci] at h;obtain ⟨h1,h2⟩:=h
  split at h1
  ·rename_i o ho
   have hl:(i::rest).filterMap (fun i=>ops[i]?)=o::rest.filterMap (fun i=>ops[i]?):=by simp [ho]
   rw [hl] at hq
   split at h1
   ·rename_i hk
    simp only [Ci,A0j] at h1;obtain ⟨hr,hf⟩:=h1
    have hfree:∀j oj,ops[j]? =some oj→j≠i→listed.getD j true=false→Wr ops ops.size j i=true∨(o.apart ops oj=true∧(Pd o.op=true∨Dk oj.op≤1)):=by
     intro j oj hoj hji hun
     have:=Jc.1 hf j (Fz.2 (Tb.1 hoj).1)
     simp only [hoj,hun,A3h,Yx,Qt,hji,false_or,Ci] at this;exact this.symm.imp id fun ⟨h1,h2⟩=>⟨h1,h2.imp id fun h=>Dg h⟩
    have hy:∃v,Lz P ops o v a w∧G6 P ops Q (rest.filterMap fun i=>ops[i]?) (a.put o.dst v) w:=by
     unfold G6 at hq
     by_cases hw:Region.wanted o (yielded ops a.tmps)=true
     ·rw [Ak hw] at hq
      rcases hq with ⟨v,h1,h2⟩|⟨hn,_⟩
      ·exact ⟨v,.inl ⟨hw,fun w' hk=>hk.elim (fun hb=>Sr hb a.eval (h1 w (En.refl w))) (h1 w')⟩,h2⟩
      exact absurd hk hn
     rw [Ab hw] at hq;exact ⟨undef,.inr ⟨by simpa using hw,rfl⟩,hq⟩
    obtain ⟨v,hy,hK⟩:=hy;exact Nx ho hsel ops.size rest.length listed a w hc hfree hr hy (A0u hsel rest _ _ _ h2 (hc.set hr) hK)
   split at h1
   ·rename_i j hrd
    obtain rfl:j=i:=by simpa using h1
    have hr:j∈Region.ready .any ops listed:=by rw [hrd];simp
    refine ⟨fun h0=>(by rw [h0] at hrd;cases hrd),fun k hk=>?_⟩;rw [hrd] at hk;obtain rfl:k=j:=by simpa using hk
    have ih:=fun a w=>A0u (Q:=Q) hsel rest (listed.setIfInBounds k true) a w h2 (hc.set hr);unfold opM;simp only [ho];unfold G6 at hq
    split
    ·rename_i hw
     rw [Ak hw] at hq
     rcases hq with ⟨v,h1,h2⟩|⟨_,hd⟩
     ·unfold Ko
      rw [h1 w (En.refl w)];exact ⟨fun _=>En.refl w,ih _ _ h2⟩
     exact hd.mono fun a w h=>ih a w h
    rename_i hw
    rw [Ab hw] at hq;exact ih _ _ hq
   simp at h1
  simp at h1
variable {id : Nat}
theorem B0x {ord:List Nat}(hm:P.follows .mixedOrders=true)(hB:C7g ops ord=true)(h:G6 P ops (fun a w=>Q .normal a w) (Zi ops ord) a {w with drawn:=w.drawn+1}):(Code.region id ops true).wp P Q a w:=by
 simp only [C7g,Ci,Qt] at hB;obtain ⟨⟨h1,h2⟩,h3⟩:=hB;refine wp_region_any hm (Xb (Q:=fun a w=>Q .normal a w) (fun _ _ h=>h) _ _ _ _ ?_)
 have:=A0u (Region.noSelect_spec h1) ord (Array.replicate ops.size false) a _ h3 (fun j o _ hl=>by exfalso;by_cases hj:j<ops.size<;>simp [hj] at hl) h
 rwa [h2] at this
open Go.RowKit (Below)
theorem Ny (wr:Bool)(op:BinOp)(t:TypeId)(x y:AV):(∀c,A6e wr T op t x y≠ .new c)∧(∀c,A6e wr T op t x y≠ .mem c)∧∀p c,A6e wr T op t x y≠ .own p c:=by
 refine ⟨?_,?_,?_⟩<;>intros<;>intro h<;>unfold A6e at h<;>(repeat' (split at h))<;>simp at h
variable {cells : List AV}
theorem C8o (hT:Bz P T)(hs:Ll T wr s op= .new cells)(h:s.is B E a w)(o:Oper)(ho:o.op=op):∃vs ty,(execOp a.eval o).run P w= .ok (.value (.pointer (some ⟨w.heap.size,0,none⟩))) (w.alloc (.cells vs ty))∧vs.size=cells.length∧
   (∀j y,cells[j]? =some y→Cy E w (s.ag E) s.next y (vs.getD j undef))∧Dk op=1:=by
 obtain ⟨dst,op',ty,pos,after,guard⟩:=o
 simp only at ho
 subst ho;unfold Ll at hs
 split at hs
 case h_5 t=>
  split at hs
  ·rename_i i hi
   simp only [Gs.new.injEq] at hs;subst hs;obtain ⟨z,hz,hrun⟩:=Wl (hT t i hi);obtain ⟨h1,h2⟩:=A5v (hT t i hi) hz E w (s.ag E) s.next;exact ⟨z.cells,t,by simp [execOp,Instr.alloc,hrun,newVar,newRow],h1,h2,rfl⟩
  simp at hs
 case h_6 t x=>
  split at hs
  ·rename_i hc
   simp only [Gs.new.injEq] at hs;subst hs;obtain ⟨h1,h2,h3⟩:=R9 (h.ev x) hc h.one;exact ⟨(a.eval x).cells,t,by simp [execOp,Instr.box,newVar,newRow],h1,h2,rfl⟩
  simp at hs
 case h_3=>exact absurd hs ((Ny ..).1 _)
 all_goals (exfalso;(repeat' (split at hs))<;>simp at hs)
theorem C8n (hT:Bz P T){bx:List Bx}(hs:Ll T wr s op= .mem bx)(h:s.is B E a w)(o:Oper)(ho:o.op=op):∃w',(execOp a.eval o).run P w= .ok .skip w'∧({s with aw:=bx}:AS).is B E a w'∧Dk op=2:=by
 obtain ⟨dst,op',ty,pos,after,guard⟩:=o
 simp only at ho
 subst ho;unfold Ll at hs
 split at hs
 case h_9 t x y=>
  split at hs
  ·rename_i i k off hi e
   split at hs
   ·rename_i b hb
    split at hs
    ·rename_i h1 h2 h3
     simp only [Gs.mem.injEq] at hs;subst hs;have hx:=h.ev x;rw [e] at hx;obtain ⟨c1,c2,c3⟩:=R9 (h.ev y) h3 h.one;have h1:=Dg h1;have h2:=Fl h2;generalize hv:a.eval x=v at hx
     cases hx with
     |box _ hk=>
      obtain ⟨hm,rfl⟩:=Fq hb;obtain ⟨hlt,vs0,ty0,hh0,hs0,hd0⟩:=h.aw b hm;have hst:=run_storeCells_at P (E.β b.key) off ty0 (a.eval y).cells.toList 0 vs0 w hh0 Pn c3;simp only [Ry] at hst
      have hrun:(Instr.storeAt t (.pointer (some ⟨E.β b.key,off,none⟩)) (a.eval y)).run P w= .ok () (w.setRow (E.β b.key) (vs0.toList.take off++(a.eval y).cells.toList++vs0.toList.drop (off+(a.eval y).cells.toList.length)).toArray):=by
       simp [Instr.storeAt,Instr.sureAddr,storeVar,Bc (hT t i hi),c1,h2,hst]
      refine ⟨_,by simp only [execOp,hv,Sem.run_bind,hrun,Result.andThen_ok];rfl,?_,rfl⟩;refine h.setBox hb _ _ ?_ (fun j z hj=>?_)
      ·simp [Yv,c1];omega
      rw [C0j] at hj;have hlen:(List.take off vs0.toList).length=off:=by simp;omega
      simp only [←Bo,List.getD] at hd0 c2 ⊢
      by_cases hr:off≤j∧j<off+(s.ev y).cellsOf.length∧j<b.cells.length
      ·rw [Ak hr] at hj
       have:=c2 _ _ hj
       rw [Cr,Fo A7,hlen,Fi Pn];exact this
      rw [Ab hr] at hj
      have:=hd0 _ _ hj
      have hjl:j<b.cells.length:=(Cx.1 hj).1
      by_cases hlo:j<off
      ·rw [Cr,Fi A7]
       simpa [X6,hlo] using this
      rw [Fo Pn];simp only [D3,hlen,Tf];rw [show off+(a.eval y).cells.toList.length+(j-(off+(a.eval y).cells.toList.length))=j by simp;omega]
      exact this
    simp at hs
   simp at hs
  simp at hs
 case h_3=>exact absurd hs ((Ny ..).2.1 _)
 all_goals (exfalso;(repeat' (split at hs))<;>simp at hs)
theorem Kn (h:Nat.blt k n=true):k<n:=by simp [Nat.blt] at h;omega
theorem Qg (z:Array Value)(n k:Nat)(hk:k<n):(madeCells z n).getD k undef=z[k % z.size]! :=by
 simp [madeCells,Array.getD,hk]
variable {α : Type}
theorem A07 (l:List α):l.flatMap (fun _=>([]:List Nat))=[]:=by
 induction l with
 |nil=>rfl
 |cons x l ih=>simp
theorem Y4 {fields:List (Nat×TypeId)}{ps:List (Nat×Operand)}{acc out:List AV}(h:Ts T fields s ps acc=some out):out.length=acc.length:=by
 induction ps generalizing acc with
 |nil=>obtain rfl:=E6 h;rfl
 |cons p ps ih=>
  obtain ⟨f,x⟩:=p;unfold Ts at h
  split at h
  ·simp at h
  split at h
  ·simp at h
  split at h
  ·rw [ih h,Yv]
  simp at h
theorem Jh (w:World)(o:Obj):Below w.heap.size w (w.alloc o):=(Below.refl _ _).alloc (Ds _) o
theorem B8a {l:List AV}{xs:List Ag}(h:B4y l=some xs):xs.length=l.length∧∀(k:Nat) (x:Ag),xs[k]? =some x→∃v,l[k]? =some (.v v)∧x= .val v:=by
 induction l generalizing xs with
 |nil=>obtain rfl:=E6 h;simp
 |cons c l ih=>
  unfold B4y at h
  split at h
  ·rename_i heq;simp at heq
  ·rename_i v r heq
   simp only [Nq] at heq;obtain ⟨rfl,rfl⟩:=heq
   split at h
   ·rename_i cs hcs
    obtain rfl:=E6 h;obtain ⟨h1,h2⟩:=ih hcs;refine ⟨by simp [h1],fun k x hk=>?_⟩
    cases k with
    |zero=>simp only [Ha,Ex] at hk;subst hk;exact ⟨v,by simp,rfl⟩
    |succ k=>simpa using h2 k x (by simpa using hk)
   simp at h
  simp at h
theorem Yr (n i size:Nat)(e:TypeId)(k:Nat)(o:Nat)(u:TypeId)(h:(K6 n i size e)[k]? =some (o,u)):o=(i+k) * size∧u=e:=by
 induction n generalizing i k with
 |zero=>simp [K6] at h
 |succ n ih=>
  cases k with
  |zero=>simp [K6] at h;exact ⟨by rw [←h.1];simp,h.2.symm⟩
  |succ k=>
   have:=ih (i+1) k (by simpa [K6] using h)
   exact ⟨by rw [this.1];congr 1;omega,this.2⟩
theorem Mk (n:Nat)(l:List α):(repL n l).length=n * l.length:=by
 induction n with
 |zero=>simp [repL]
 |succ n ih=>simp [repL,ih,Pi];omega
theorem B7f (n:Nat)(l:List α)(k:Nat)(h:k<n * l.length):(repL n l)[k]? =l[k % l.length]? :=by
 induction n generalizing k with
 |zero=>simp at h
 |succ n ih=>
  simp only [repL]
  by_cases hk:k<l.length
  ·rw [Fi hk,A9l hk]
  rw [Fo A7,ih (k-l.length) (by rw [G7,Nat.one_mul] at h;omega)]
  congr 1
  exact (Nat.mod_eq_sub_mod A7).symm
theorem C8p (hT:Bz P T)(hs:Ll T wr s op= .own ps c)(hp:∀p∈ps,p)(h:s.is B E a w)(o:Oper)(ho:o.op=op):∃v w' fp,(execOp a.eval o).run P w= .ok (.value v) w'∧Bw w' c v fp∧fp.Nodup∧(∀b∈fp,w.heap.size≤b)∧Below w.heap.size w w'∧Dk op=1:=by
 obtain ⟨dst,op',ty,pos,after,guard⟩:=o
 simp only at ho
 subst ho;unfold Ll at hs
 split at hs
 case h_3=>exact absurd hs ((Ny ..).2.2 _ _)
 case h_20 t x y=>
  split at hs
  ·rename_i e kl la kc lb he ex ey
   obtain ⟨i,hi,hie⟩:=Ws.1 he
   split at hs
   ·rename_i j hj
    split at hs
    ·rename_i hbz
     simp only [Gs.own.injEq] at hs;obtain ⟨rfl,rfl⟩:=hs;obtain ⟨h0,h1,h2⟩:0≤la∧la≤lb∧lb≤1099511627776:=hp _ Ey;have hx:=h.ev x;have hy:=h.ev y;rw [ex] at hx;rw [ey] at hy;have e1:=B3 hx;have e2:=B3 hy;have hbz:=Dg hbz;obtain ⟨f,d,z,S⟩:=TI.of_spec (hT e j hj);have hzs:z.cells.size=j.size:=by have:=S.zlen;rw [←S.cells] at this;simpa using this
     have hbytes:(f.bytes:Int) * lb≤281474976710656:=by
      rw [S.bytes];have h3:(j.bytes:Int)≤256:=by omega
      have:(j.bytes:Int) * lb≤256 * 1099511627776:=Int.mul_le_mul h3 h2 A7 A7
      omega
     have hrun:=run_make (P:=P) w t e f z (Bt (hT t i hi) hie) S.hf S.hz kl kc la lb h0 h1 hbytes A7;refine ⟨_,_,[w.heap.size],by simp only [execOp,e1,e2,Sem.run_bind,hrun,Result.andThen_ok];rfl,?_,by simp,by simp,Jh w _,rfl⟩
     have hown:=Bw.sl (w:=w.alloc (.cells (madeCells z.cells (lb.toNat * f.size)) e)) la.toNat j.size (fun _=>j.zero.map Ag.val) w.heap.size 0 lb.toNat e (madeCells z.cells (lb.toNat * f.size)) (fun _=>[])
      A7 (by simp only [maxLen];omega) (heap_alloc_new w _) (by rw [S.size];simp [madeCells]) (fun _ _=>by simp [S.zlen]) (fun k m c hk hc=>by
       simp only [Fa,F1] at hc;obtain ⟨v,hv,rfl⟩:=hc;have hm:m<j.size:=by rw [←S.zlen];exact (Cx.1 hv).1
       have hlt:(0+k) * j.size+m<lb.toNat * f.size:=by rw [S.size];exact H1 A7 hm
       have hv1:(madeCells z.cells (lb.toNat * f.size)).getD ((0+k) * j.size+m) undef=v:=by
        rw [Qg _ _ _ hlt,hzs,Qr,Nat.mul_add_mod,A9l hm];have h4:m<z.cells.size:=by omega
        have h5:z.cells[m]? =some v:=by rw [←Array.getElem?_toList,S.cells];exact hv
        simp [getElem!_pos,h4]
        rw [V5 h4] at h5;exact E6 h5
       rw [hv1]
       exact .val v (K5 S.zone v (I2 hv)))
     rw [A07] at hown
     simpa using hown
    simp at hs
   simp at hs
  simp at hs
 case h_21 t len parts=>
  split at hs
  ·rename_i e he
   obtain ⟨i,hi,hie⟩:=Ws.1 he
   split at hs
   ·rename_i j hj
    split at hs
    ·rename_i cs hsmall hcs
     split at hs
     ·rename_i vals hvals
      simp only [Gs.own.injEq] at hs;obtain ⟨rfl,rfl⟩:=hs;obtain ⟨f,d,z,S⟩:=TI.of_spec (hT e j hj);have hzs:z.cells.size=j.size:=by have:=S.zlen;rw [←S.cells] at this;simpa using this
      simp only [Ci] at hsmall;have hpos:=Kn hsmall.2;have hsmall:=Dg hsmall.1;have hlen:len≤len * j.size:=Nat.le_mul_of_pos_right _ hpos
      have hz0:DL E w (s.ag E) s.next (repL len (Jt j)) ((Array.range (len * j.size)).map (z.cells[· % z.cells.size]!)):=by
       refine ⟨by simp [Mk,Jt,S.zlen],fun k y hy=>?_⟩;have hzl:(Jt j).length=j.size:=by simp [Jt,S.zlen]
       have hk:k<len * j.size:=by have:=(Cx.1 hy).1;rwa [Mk,hzl] at this
       rw [B7f _ _ _ (by rw [hzl];exact hk),hzl] at hy
       have:=(A5v (hT e j hj) S.cells E w (s.ag E) s.next).2 _ _ hy
       have hm:k % j.size<z.cells.size:=by rw [hzs];exact A2c _ (A0d (fun h=>by rw [h] at hk;simp at hk))
       have e1:((Array.range (len * j.size)).map (z.cells[· % z.cells.size]!)).getD k undef=z.cells.getD (k % j.size) undef:=by
        have:=Qg z.cells (len * j.size) k hk
        rw [show (Array.range (len * j.size)).map (z.cells[· % z.cells.size]!)=madeCells z.cells (len * j.size) from rfl,this,hzs]
        rw [getElem!_pos z.cells _ hm];simp only [Array.getD,hm,dif_pos];rfl
       rw [e1];exact this
      obtain ⟨cs',hfill,hDL⟩:=B26 hT h (K6 len 0 j.size e) (fun k=>some (k * j.size,j.size)) (fun k o u hk j' hj'=>by
       obtain ⟨rfl,rfl⟩:=Yr _ _ _ _ _ _ _ hk;rw [hj] at hj';obtain rfl:=E6 hj'
       simp) parts.toList _ _ cs hcs hz0
      obtain ⟨v1,v2⟩:=B8a hvals
      have hcsl:cs'.size=len * j.size:=by
       have:=hDL.1
       have h2:cs.length=len * j.size:=by
        have:=Y4 hcs
        rw [this,Mk]
        simp [Jt,S.zlen]
       omega
      have hrun:(Instr.buildSlice t len (parts.map fun p=>(p.1,a.eval p.2))).run P w= .ok (.slice (some ⟨w.heap.size,0,none⟩) len len) (w.alloc (.cells cs' e)):=by
       have hnot:¬ (16777216<len * j.size):=by omega
       have hfill':Instr.fill (fun k=>some (k * j.size,j.size)) ((Array.range (len * j.size)).map (z.cells[· % z.cells.size]!)) (parts.map fun p=>(p.1,a.eval p.2)).toList=some cs':=by
        rw [A9j];exact hfill
       by_cases h0:len * j.size=0
       ·simp [Instr.buildSlice,run_underlying (Bt (hT t i hi) hie),Bc (hT e j hj),h0,newRow,Array.range_zero']
        simp [h0,Array.range_zero'] at hfill'
        rw [hfill']
        simp
       simp [Instr.buildSlice,run_underlying (Bt (hT t i hi) hie),Bc (hT e j hj),hnot,h0,newRow,zeroValue,typeInfo,S.hf,S.hz]
       simp at hfill'
       rw [hfill']
       simp
      refine ⟨_,_,[w.heap.size],by simp only [execOp,Sem.run_bind,hrun,Result.andThen_ok];rfl,?_,by simp,by simp,Jh w _,rfl⟩;have hvl:vals.length=len * j.size:=by rw [v1,←hDL.1,hcsl]
      have hown:=Bw.sl (w:=w.alloc (.cells cs' e)) len j.size (fun i=>(vals.drop (i * j.size)).take j.size) w.heap.size 0 len e cs' (fun _=>[])
       (Ds _) (by simp only [maxLen];omega) (heap_alloc_new w _) (by simp [hcsl]) (fun k hk=>by
        have:=H1 hk (Rz 0)
        have h2:k * j.size+j.size≤len * j.size:=by rw [←Pi];exact Kh _ hk
        simp [hvl];omega) (fun k m c hk hc=>by
        have hm:m<j.size:=by have:=(Cx.1 hc).1;simp at this;omega
        rw [X6,Ak hm,Tf] at hc;obtain ⟨v,hv,rfl⟩:=v2 _ _ hc;have hd:=hDL.2 _ _ hv;have e1:=B3 hd;rw [show (0+k) * j.size+m=k * j.size+m by rw [S0],e1]
        refine .val v ?_;rw [←e1]
        cases hd with
        |c hr=>exact hr.one)
      rw [A07] at hown
      simpa using hown
     simp at hs
    simp at hs
   simp at hs
  simp at hs
 all_goals (exfalso;(repeat' (split at hs))<;>simp at hs)
theorem B0u (hs:Ll T wr s op= .new cells):Dk op=1:=by
 unfold Ll at hs
 split at hs
 case h_5=>rfl
 case h_6=>rfl
 case h_3=>exact absurd hs ((Ny ..).1 _)
 all_goals (exfalso;(repeat' (split at hs))<;>simp at hs)
theorem B0t {bx:List Bx}(hs:Ll T wr s op= .mem bx):Dk op=2:=by
 unfold Ll at hs
 split at hs
 case h_9=>rfl
 case h_3=>exact absurd hs ((Ny ..).2.1 _)
 all_goals (exfalso;(repeat' (split at hs))<;>simp at hs)
theorem B0v (hs:Ll T wr s op= .own ps c):Dk op=1:=by
 unfold Ll at hs
 split at hs
 case h_20=>rfl
 case h_21=>rfl
 case h_3=>exact absurd hs ((Ny ..).2.2 _ _)
 all_goals (exfalso;(repeat' (split at hs))<;>simp at hs)
def Cg (P:Program) (Q:Exit→Act→World→Prop):List KI→Exit→Act→World→Prop
 | []=>Q
 | .code c::K=>Exit.then (c.wp P (Cg P Q K)) (Cg P Q K)
 | .block id::K=>Exit.inBlock id (Cg P Q K)
 | .loop I::K=>Exit.then I (Cg P Q K)
 | .ops false all l::K=>Exit.then (wpList P all (Cg P Q K) l) (Cg P Q K)
 | .ops true all l::K=>Exit.then (G6 P all (fun a w=>Cg P Q K .normal a w) l) (Cg P Q K)
def G (P:Program) (B:Fg) (Q:Exit→Act→World→Prop) (K:List KI) (s:AS):Prop:=∀E a w,s.is B E a w→Cg P Q K .normal a w
def Mz (P:Program) (f:FuncId):Prop:=∃fn,P.funcs[f]? =some fn∧(fn.name== "runtime.NumGoroutine")=false∧fn.body.isNone=false
def A3q (P:Program) (B:Fg) (Q:Exit→Act→World→Prop) (q:Bool) (f:FuncId) (xs:List AV) (dst:Option Tmp) (K:List KI) (s:AS):Prop:=
 Mz P f∧∀E a w,s.is B E a w→∀vs:List Value,vs.length=xs.length→(∀i x,xs[i]? =some x→Cy E w (s.ag E) s.next x (vs.getD i undef))→
  Calls P f vs.toArray w fun e w'=>∃v,e= .returned v∧(q=true→En w w')∧Cg P Q K .normal (a.put dst v) w'
def C89 (B:Fg) (Q:Exit→Act→World→Prop) (s:AS):Prop:=∀E a w,s.is B E a w→Q .ret a w
def vc (P:Program) (B:Fg) (Q:Exit→Act→World→Prop):Out→Prop
 | .aj K s=>G P B Q K s
 | .call q f xs dst K s=>A3q P B Q q f xs dst K s
 | .ret s=>C89 B Q s
 | .ite b t e=>(b=true→vc P B Q t)∧(b=false→vc P B Q e)
 | .need p o=>p∧vc P B Q o
theorem J5 (n:Nat)(k:Nat→α):Ma n k=k n:=by
 induction n generalizing k with
 |zero=>rfl
 |succ n ih=>simp [Ma,ih]
theorem C3s (x:AV)(k:AV→α):A63 x k=k x:=by cases x<;>simp [A63,J5]
theorem Z9 (l:List AV)(k:List AV→α):Rj l k=k l:=by
 induction l generalizing k with
 |nil=>rfl
 |cons x r ih=>simp [Rj,C3s,ih]
theorem B1j (x:AV)(k:AV→α):B28 x k=k x:=by cases x<;>simp [B28,Z9,A63,J5]
theorem Xf (l:List AV)(k:List AV→α):Tv l k=k l:=by
 induction l generalizing k with
 |nil=>rfl
 |cons x r ih=>simp [Tv,B1j,ih]
theorem B1k (l:List Bx)(k:List Bx→α):A64 l k=k l:=by
 induction l generalizing k with
 |nil=>rfl
 |cons x r ih=>cases x;simp [A64,Z9,J5,ih]
theorem B1m (l:List Ow)(k:List Ow→α):A66 l k=k l:=by
 induction l generalizing k with
 |nil=>rfl
 |cons x r ih=>cases x;simp [A66,J5,ih]
theorem B1l (l:List (Nat×Value))(k:List (Nat×Value)→α):A65 l k=k l:=by
 induction l generalizing k with
 |nil=>rfl
 |cons x r ih=>obtain ⟨a,v⟩:=x;simp [A65,J5,ih]
theorem Eg (s:AS)(k:AS→α):N6 s k=k s:=by cases s;simp [N6,J5,Xf,B1k,B1m,B1l]
theorem D05 (l:List AV)(i:Nat)(x:AV)(k:List AV→α):C8a l i x k=k (C9 l i x):=by
 induction l generalizing i k with
 |nil=>simp [C8a,C9]
 |cons y r ih=>cases i<;>simp [C8a,C9,ih]
theorem C9k (s:AS)(d:Option Tmp)(x:AV)(k:AS→α):Mv s d x k=k (s.put d x):=by
 cases d<;>simp [Mv,AS.put,B1j,D05]
theorem C7j (s:AS)(cells:List AV)(k:AS→α):C1p s cells k=k (s.newBox cells):=by
 simp [C1p,AS.newBox,Z9,J5]
theorem D0r (s:AS)(c:Ag)(k:AS→α):Qm s c k=k {s with own:=⟨s.next,c⟩::s.own,next:=s.next+1}:=by
 simp [Qm,J5]
theorem C7d (s:AS)(bx:List Bx)(k:AS→α):C1l s bx k=k {s with aw:=bx}:=by
 simp [C1l,B1k]
theorem C73 (P:Program)(Q:Exit→Act→World→Prop)(K:List KI)(a:Act)(w:World):Cg P Q K .ret a w=Q .ret a w:=by
 induction K with
 |nil=>rfl
 |cons k K ih=>rcases k with _|_|_|⟨_|_,_,_⟩<;>simpa [Cg,Exit.then,Exit.inBlock] using ih
theorem C4f (P:Program)(Q:Exit→Act→World→Prop){K K':List KI}(h:Yo id K=some K')(hp:Cg P Q K' .normal a w):Cg P Q K (.exit id) a w:=by
 induction K with
 |nil=>simp [Yo] at h
 |cons k K ih=>
  cases k with
  |block j=>
   unfold Yo at h
   split at h
   ·rename_i hj
    obtain rfl:=Fl hj;obtain rfl:=E6 h
    simpa [Cg,Exit.inBlock] using hp
   rename_i hj
   have hne:¬ id=j:=fun e=>by subst e;simp at hj
   simpa [Cg,Exit.inBlock,hne] using ih h
  |code c=>simpa [Cg,Exit.then] using ih (by simpa [Yo] using h)
  |loop I=>simpa [Cg,Exit.then] using ih (by simpa [Yo] using h)
  |ops q all l=>cases q<;>simpa [Cg,Exit.then] using ih (by simpa [Yo] using h)
theorem B8d {o:Out}(h:vc P B Q (A7w ps o)):(∀p∈ps,p)∧vc P B Q o:=by
 induction ps with
 |nil=>exact ⟨by simp,h⟩
 |cons p r ih=>
  obtain ⟨h1,h2⟩:p∧vc P B Q (A7w r o):=h;obtain ⟨h3,h4⟩:=ih h2;exact ⟨fun q hq=>by rcases Ch.1 hq with rfl|hq;exact h1;exact h3 q hq,h4⟩
theorem AS.is.setBool (h:s.is B E a w){d:Nat}{b:Bool}(hd:Ik s.am d= .v (.bool b)):
  ({s with am:=C9 s.am d (.v (.bool b))}:AS).is B E a w:=by
 have:C9 s.am d (.v (.bool b))=s.am:=by
  apply List.ext_getElem?
  intro i;rw [Co]
  split
  ·rename_i hi
   obtain ⟨rfl,hl⟩:=hi;rw [Ce,Dl hl] at hd;rw [Dl hl]
   simpa using hd.symm
  rfl
 rw [this];exact h
variable {all : Array Oper}
theorem AS.is.yielded (h:s.is B E a w){d:Tmp}{b:Bool}(hj:L9 all j=some d)(hd:Ik s.am d= .v (.bool b)):
  yielded all a.tmps j=some b:=by
 have hl:d<s.am.length:=by
  rw [Ce] at hd
  by_cases hl:d<s.am.length
  ·exact hl
  rw [A0f (A0c hl)] at hd;simp at hd
 have hv:a.tmps.getD d undef= .bool b:=by
  have:=h.am d (.v (.bool b)) (by rw [Ce,Dl hl] at hd;rw [Dl hl];simpa using hd)
  exact B3 this
 have hsz:d<a.tmps.size:=by rw [h.size];exact hl
 unfold L9 at hj;simp only [Array.getD,hsz,dif_pos] at hv;have h2:a.tmps[d]? =some (.bool b):=by rw [V5 hsz];exact A6 some hv
 unfold Go.yielded;rw [hj]
 simp [h2]
theorem A0y (all:Array Oper)(d:Option Tmp):Cy E w A N (Sk all d) undef:=by
 have h:Cy E w A N (.tup []) (.tuple ([]:List Value).toArray):= .tup [] rfl (fun i x hx=>by simp at hx);unfold Sk
 split
 ·exact .any _
 split
 ·exact h
 exact .any _
theorem C56 {v:Value}(h:Cy E w A N (.tup []) v):v=undef:=by
 cases h with
 |tup vs hl h=>
  have:vs=[]:=Pj hl
  subst this;rfl
theorem AS.is.yielded0 (h:s.is B E a w){d:Tmp}(hj:L9 all j=some d)(hd:Ik s.am d= .tup []):
  Go.yielded all a.tmps j=none:=by
 have hl:d<s.am.length:=by
  rw [Ce] at hd
  by_cases hl:d<s.am.length
  ·exact hl
  rw [A0f (A0c hl)] at hd;simp at hd
 have hv:a.tmps.getD d undef=undef:=by
  have:=h.am d (.tup []) (by rw [Ce,Dl hl] at hd;rw [Dl hl];simpa using hd)
  exact C56 this
 have hsz:d<a.tmps.size:=by rw [h.size];exact hl
 unfold L9 at hj;simp only [Array.getD,hsz,dif_pos] at hv;have h2:a.tmps[d]? =some undef:=by rw [V5 hsz];exact A6 some hv
 unfold Go.yielded;rw [hj]
 simp [h2,undef]
open Go.RowKit (Below)
structure AS.isA (s:AS) (B:Fg) (E:G0) (A:Nat→Prop) (a:Act) (w:World):Prop where
 defers:a.defers=[]
 ay:∀p∈s.ay,p.1<s.next∧E.ov p.1=p.2
 size:a.tmps.size=s.am.length
 am:∀i x,s.am[i]? =some x→Cy E w A s.next x (a.tmps.getD i undef)
 aw:∀x∈s.aw,x.key<s.next∧∃vs ty,w.heap[E.β x.key]? =some (.cells vs ty (0,0))∧vs.size=x.cells.length∧
  ∀i y,x.cells[i]? =some y→Cy E w A s.next y (vs.getD i undef)
 boxes2:∀x∈s.aw,∀y∈s.aw,E.β x.key=E.β y.key→x.key=y.key
 keys:(s.aw.map (·.key)).Nodup
 own:∀y∈s.own,y.key<s.next∧Bw w y.cell (E.ov y.key) (E.fp y.key)∧(E.fp y.key).Nodup
 ownkeys:(s.own.map (·.key)).Nodup
 sep:∀y∈s.own,∀z∈s.own,y.key≠z.key→∀b∈E.fp y.key,b∉E.fp z.key
 sepB:∀x∈s.aw,∀y∈s.own,E.β x.key∉E.fp y.key
 one:∀k,k<s.next→(E.ov k).oneCell'=true
 base:B.rel w
 fresh:∀b,s.ag E b→B.fresh b
 sub:∀b,s.ag E b→A b
theorem AS.isA.is (h:s.isA B E A a w):s.is B E a w:=by
 have mv:∀x v,Cy E w A s.next x v→Cy E w (s.ag E) s.next x v:=fun x v hx=>
  hx.move (Ds _) (fun _ _=>⟨rfl,rfl⟩) (fun _ _ _=>rfl) (fun b _ hb=>h.sub b hb)
 refine ⟨h.defers,h.ay,h.size,fun i x hx=>mv _ _ (h.am i x hx),fun x hx=>?_,h.boxes2,h.keys,h.own,h.ownkeys,h.sep,h.sepB,h.one,h.base,h.fresh⟩;obtain ⟨h1,vs,ty,h2,h3,h4⟩:=h.aw x hx;exact ⟨h1,vs,ty,h2,h3,fun i y hy=>mv _ _ (h4 i y hy)⟩
theorem AS.is.call (h:s.is B E a w)(hb:Below w.heap.size w w'):s.isA B E (fun b=>s.ag E b∨w.heap.size≤b) a w':=by
 have mv:∀x v,Cy E w (s.ag E) s.next x v→Cy E w' (fun b=>s.ag E b∨w.heap.size≤b) s.next x v:=fun x v hx=>
  hx.move (Ds _) (fun _ _=>⟨rfl,rfl⟩) (fun b _ hl=>hb.block b hl) (fun b hl hA=>by
   rcases hA with h|h
   ·exact h
   omega)
 refine ⟨h.defers,h.ay,h.size,fun i x hx=>mv _ _ (h.am i x hx),fun x hx=>?_,h.boxes2,h.keys,fun y hy=>?_,h.ownkeys,h.sep,h.sepB,h.one,?_,h.fresh,fun b hb=> .inl hb⟩
 ·obtain ⟨h1,vs,ty,h2,h3,h4⟩:=h.aw x hx
  exact ⟨h1,vs,ty,by rw [hb.block _ (Tb.1 h2).1];exact h2,h3,fun i y hy=>mv _ _ (h4 i y hy)⟩
 ·obtain ⟨h1,h2,h3⟩:=h.own y hy
  exact ⟨h1,h2.move (fun b hb'=>hb.block b (h2.lt b hb')),h3⟩
 have hB:=h.base;refine ⟨hb.os.trans hB.os,hb.tape.trans hB.tape,hb.output.trans hB.output,Fk hB.size hb.size,fun k hk hm=>?_⟩;rw [hb.block k (Kg hk hB.size)];exact hB.block k hk hm
def G0.withOwn (E:G0) (n:Nat) (v:Value) (fp:List Nat):G0:=
 {E with ov:=fun k=>if k=n then v else E.ov k,fp:=fun k=>if k=n then fp else E.fp k}
theorem G0.withOwn_keep (E:G0)(n:Nat)(v:Value)(fp:List Nat)(h:k≠n):(E.withOwn n v fp).β k=E.β k∧(E.withOwn n v fp).ov k=E.ov k:=by
 have h:(E.withOwn n v fp).ov k=E.ov k:=by simp [G0.withOwn,h]
 exact ⟨G0.β_of h,h⟩
def AS.addOwn (s:AS) (c:Ag):AS:= {s with own:=⟨s.next,c⟩::s.own,next:=s.next+1}
theorem AS.isA.addOwn (h:s.isA B E A a w){v:Value}(ho:Bw w c v fp)(hn:fp.Nodup)(hA:∀b∈fp,A b∧¬ s.ag E b∧B.fresh b):
  (s.addOwn c).isA B (E.withOwn s.next v fp) A a w∧Cy (E.withOwn s.next v fp) w A (s.next+1) (.own s.next) v:=by
 have kE:∀k,k<s.next→(E.withOwn s.next v fp).β k=E.β k∧(E.withOwn s.next v fp).ov k=E.ov k:=fun k hk=>by
  have:k≠s.next:=by omega
  have h:(E.withOwn s.next v fp).ov k=E.ov k:=by simp [G0.withOwn,this]
  exact ⟨G0.β_of h,h⟩
 have kb:∀x∈s.aw,(E.withOwn s.next v fp).β x.key=E.β x.key:=fun x hx=>(kE _ (h.aw x hx).1).1
 have kfp:∀y∈s.own,(E.withOwn s.next v fp).fp y.key=E.fp y.key:=fun y hy=>by
  have:y.key≠s.next:=by have:=(h.own y hy).1;omega
  simp [G0.withOwn,this]
 have kfn:(E.withOwn s.next v fp).fp s.next=fp:=by simp [G0.withOwn]
 have av:∀b,(s.addOwn c).ag (E.withOwn s.next v fp) b↔b∈fp∨s.ag E b:=by
  intro b
  constructor
  ·rintro (⟨x,hx,rfl⟩|⟨y,hy,hb⟩)
   ·exact .inr (.inl ⟨x,hx,(kb x hx).symm⟩)
   rcases Ch.1 hy with rfl|hy
   ·rw [kfn] at hb;exact .inl hb
   rw [kfp y hy] at hb;exact .inr (.inr ⟨y,hy,hb⟩)
  rintro (hb|⟨x,hx,rfl⟩|⟨y,hy,hb⟩)
  ·exact .inr ⟨_,L3,by rw [kfn];exact hb⟩
  ·exact .inl ⟨x,hx,kb x hx⟩
  exact .inr ⟨y,Db _ hy,by rw [kfp y hy];exact hb⟩
 have mv:∀x v',Cy E w A s.next x v'→Cy (E.withOwn s.next v fp) w A (s.next+1) x v':=fun x v' hx=>hx.move (A0h _) kE (fun _ _ _=>rfl) (fun _ _ hb=>hb);refine ⟨⟨h.defers,fun p hp=>⟨Tc (h.ay p hp).1,by rw [(kE _ (h.ay p hp).1).2];exact (h.ay p hp).2⟩,h.size,fun i x hx=>mv _ _ (h.am i x hx),fun x hx=>?_,fun x hx y hy e=>h.boxes2 x hx y hy (by rw [←kb x hx,←kb y hy];exact e),h.keys,fun y hy=>?_,?_,?_,?_,?_,h.base,?_,?_⟩,?_⟩
 ·obtain ⟨h1,vs,ty,h2,h3,h4⟩:=h.aw x hx
  exact ⟨Tc h1,vs,ty,by rw [kb x hx];exact h2,h3,fun i y hy=>mv _ _ (h4 i y hy)⟩
 ·rcases Ch.1 hy with rfl|hy
  ·refine ⟨Rz _,?_,?_⟩
   ·rw [kfn];simpa [G0.withOwn] using ho
   rw [kfn];exact hn
  obtain ⟨h1,h2,h3⟩:=h.own y hy;rw [kfp y hy,(kE _ h1).2];exact ⟨Tc h1,h2,h3⟩
 ·simp only [AS.addOwn,I1,Is]
  refine ⟨fun hm=>?_,h.ownkeys⟩;obtain ⟨y,hy,e⟩:=Fm.1 hm
  have:=(h.own y hy).1
  omega
 ·intro y hy z hz hne b hb hb'
  rcases Ch.1 hy with rfl|hy<;>rcases Ch.1 hz with rfl|hz
  ·exact hne rfl
  ·rw [kfn] at hb
   rw [kfp z hz] at hb';exact (hA b hb).2.1 (.inr ⟨z,hz,hb'⟩)
  ·rw [kfp y hy] at hb
   rw [kfn] at hb';exact (hA b hb').2.1 (.inr ⟨y,hy,hb⟩)
  rw [kfp y hy] at hb;rw [kfp z hz] at hb';exact h.sep y hy z hz hne b hb hb'
 ·intro x hx y hy hb
  rw [kb x hx] at hb
  rcases Ch.1 hy with rfl|hy
  ·rw [kfn] at hb
   exact (hA _ hb).2.1 (.inl ⟨x,hx,rfl⟩)
  rw [kfp y hy] at hb;exact h.sepB x hx y hy hb
 ·intro k hk
  by_cases e:k=s.next
  ·subst e;simpa [G0.withOwn] using ho.one
  have hk':k<s.next:=by have:k<s.next+1:=hk;omega
  rw [(kE _ hk').2];exact h.one k hk'
 ·intro b hb
  rcases (av b).1 hb with hb|hb
  ·exact (hA b hb).2.2
  exact h.fresh b hb
 ·intro b hb
  rcases (av b).1 hb with hb|hb
  ·exact (hA b hb).1
  exact h.sub b hb
 have:=Cy.own (E:=E.withOwn s.next v fp) (w:=w) (A:=A) (N:=s.next+1) (k:=s.next) (Rz _)
 simpa [G0.withOwn] using this
theorem AS.isA.put (h:s.isA B E A a w)(d:Option Tmp){v:Value}(hx:Cy E w A s.next x v):
  (s.put d x).isA B E A (a.put d v) w:=by
 cases d with
 |none=>exact h
 |some d=>
  refine ⟨h.defers,h.ay,?_,?_,h.aw,h.boxes2,h.keys,h.own,h.ownkeys,h.sep,h.sepB,h.one,h.base,h.fresh,h.sub⟩
  ·simp [Act.put,AS.put,Bk,h.size]
  intro i y hy;simp only [AS.put,Co] at hy;simp only [Act.put]
  by_cases hi:d=i∧i<s.am.length
  ·rw [Ak hi] at hy
   obtain ⟨rfl,hl⟩:=hi;obtain rfl:x=y:=by simpa using hy
   have:d<a.tmps.size:=by rw [h.size];exact hl
   change Cy E w A s.next x _
   simpa [Array.getD,A0e,this] using hx
  rw [Ab hi] at hy;have hl:i<s.am.length:=(Cx.1 hy).1;have hne:d≠i:=fun e=>hi ⟨e,hl⟩
  have hsz:i<a.tmps.size:=by rw [h.size];exact hl
  have:=h.am i y hy
  change Cy E w A s.next y _
  simpa [Array.getD,A0e,hsz,B40,hne] using this
theorem En.of_below (h:Go.RowKit.Below w.heap.size w w'):En w w':=⟨h.size,h.block⟩
variable {rest : List Oper}
theorem Ic {K:List KI}(hg:o.guard=none)(hk:Dk o.op≠0)(h:∀E a w,s.is B E a w→∃v w',((execOp a.eval o).run P w= .ok (.value v) w'∨((execOp a.eval o).run P w= .ok .skip w'∧v=undef))∧(Dk o.op=1→En w w')∧
   Cg P Q (.ops q all rest::K) .normal (a.put o.dst v) w'):G P B Q (.ops q all (o::rest)::K) s:=by
 intro E a w hs;obtain ⟨v,w',h1,h2,h3⟩:=h E a w hs
 cases q with
 |false=>
  show wpList P all (Cg P Q K) (o::rest) a w
  unfold wpList;rw [Ak (by simp [Region.wanted,hg])];refine .inl ?_;unfold Oper.wp
  rcases h1 with h1|⟨h1,rfl⟩<;>rw [h1]<;>exact h3
 |true=>
  show G6 P all _ (o::rest) a w
  unfold G6;rw [Ak (by simp [Region.wanted,hg])];refine .inr ⟨hk,?_⟩;unfold Ko
  rcases h1 with h1|⟨h1,rfl⟩<;>rw [h1]<;>exact ⟨fun h=>h2 A7,h3⟩
theorem Ek {K:List KI}(hg:o.guard=none)(h:∀E a w,s.is B E a w→∃v,(∀w',En w w'→(execOp a.eval o).run P w'= .ok (.value v) w')∧Cg P Q (.ops q all rest::K) .normal (a.put o.dst v) w):G P B Q (.ops q all (o::rest)::K) s:=by
 intro E a w hs;obtain ⟨v,h1,h3⟩:=h E a w hs
 cases q with
 |false=>
  show wpList P all (Cg P Q K) (o::rest) a w
  unfold wpList;rw [Ak (by simp [Region.wanted,hg])];refine .inl ?_;unfold Oper.wp;rw [h1 w (En.refl w)];exact h3
 |true=>
  show G6 P all _ (o::rest) a w
  unfold G6;rw [Ak (by simp [Region.wanted,hg])];exact .inl ⟨v,h1,h3⟩
theorem Og {K:List KI}(hw:Region.wanted o (yielded all a.tmps)=false)(h:Cg P Q (.ops q all rest::K) .normal (a.put o.dst undef) w):Cg P Q (.ops q all (o::rest)::K) .normal a w:=by
 cases q with
 |false=>
  show wpList P all (Cg P Q K) (o::rest) a w
  unfold wpList;rw [Ab (by simp [hw])];exact h
 |true=>
  show G6 P all _ (o::rest) a w
  unfold G6;rw [Ab (by simp [hw])];exact h
theorem A4n {K:List KI}(hw:Region.wanted o (yielded all a.tmps)=true)(h:Cg P Q (.ops q all ({o with guard:=none}::rest)::K) .normal a w):Cg P Q (.ops q all (o::rest)::K) .normal a w:=by
 cases q with
 |false=>
  change wpList P all (Cg P Q K) ({o with guard:=none}::rest) a w at h
  show wpList P all (Cg P Q K) (o::rest) a w
  unfold wpList at h ⊢;rw [Ak (by simp [Region.wanted])] at h;rw [Ak hw];exact h
 |true=>
  change G6 P all _ ({o with guard:=none}::rest) a w at h
  show G6 P all _ (o::rest) a w
  unfold G6 at h ⊢;rw [Ak (by simp [Region.wanted])] at h;rw [Ak hw];exact h
theorem B7l (f:FuncId)(hf:Mz P f)(args:Array Operand)(ats:Array TypeId)(a:Act)(o:Oper)(ho:o.op= .call {callee:= .value (.func f),args,argTypes:=ats})(w:World):
  (execOp a.eval o).run P w= .ok (.enter f (args.map a.eval)) w:=by
 obtain ⟨fn,h1,h2,h3⟩:=hf;obtain ⟨dst,op',ty,pos,after,guard⟩:=o
 simp only at ho
 subst ho;have e:a.eval (.func f)= .func (.func f) #[] #[]:=rfl;have h2':¬ fn.name= "runtime.NumGoroutine" :=by simpa using h2
 have h3':¬ fn.body=none:=by intro e;rw [e] at h3;simp at h3
 simp [execOp,resolve,e,Deferred.ofValue,invoke,callFunc,h1,h2',h3']
theorem B2h (f:FuncId)(hf:Mz P f)(t:Tmp)(vs:List Value)(args:Array Operand)(ats:Array TypeId)(a:Act)(o:Oper)(ho:o.op= .call {callee:= .value (.tmp t),args,argTypes:=ats})
  (hv:a.eval (.tmp t)= .func (.func f) #[] vs.toArray)(w:World):
  (execOp a.eval o).run P w= .ok (.enter f (args.map a.eval++vs.toArray)) w:=by
 obtain ⟨fn,h1,h2,h3⟩:=hf;obtain ⟨dst,op',ty,pos,after,guard⟩:=o
 simp only at ho
 subst ho;have h2':¬ fn.name= "runtime.NumGoroutine" :=by simpa using h2
 have h3':¬ fn.body=none:=by intro e;rw [e] at h3;simp at h3
 simp [execOp,resolve,hv,Deferred.ofValue,invoke,callFunc,h1,h2',h3']
theorem C4j (hT:Bz P T)(wr:Bool):∀(n:Nat) (K:List KI) (s:AS),vc P B Q (run T wr n K s)→G P B Q K s:=by
 intro n
 induction n with
 |zero=>intro K s h;simpa [run,Eg,vc] using h
 |succ n ih=>
  intro K s h
  match K with
  | []=>simpa [run,Eg,vc] using h
  | .block id::K=>exact fun E a w hs=>ih K s (by simpa [run] using h) E a w hs
  | .loop I::K=>simpa [run,Eg,vc] using h
  | .code c::K=>
   cases c with
   |skip=>exact fun E a w hs=>wp_skip (ih K s (by simpa [run] using h) E a w hs)
   |seq x y=>exact fun E a w hs=>wp_seq (ih (.code x:: .code y::K) s (by simpa [run] using h) E a w hs)
   |block id c=>exact fun E a w hs=>wp_block (ih (.code c:: .block id::K) s (by simpa [run] using h) E a w hs)
   |cond o t e=>
    simp only [run] at h
    split at h
    ·rename_i b hb
     intro E a w hs;have hv:=hs.ev o;rw [hb] at hv;have e1:=B3 hv;obtain ⟨h1,h2⟩:(b=true→_)∧(b=false→_):=h;exact wp_cond_split e1 (fun hb=>ih (.code t::K) s (h1 hb) E a w hs) (fun hb=>ih (.code e::K) s (h2 hb) E a w hs)
    simpa [Eg,vc] using h
   |exit id=>
    simp only [run] at h
    split at h
    ·rename_i K' hK
     exact fun E a w hs=>wp_exit (C4f P Q hK (ih K' s h E a w hs))
    simpa [Eg,vc] using h
   |ret=>
    simp only [run,Eg,vc] at h;exact fun E a w hs=>wp_ret (by rw [C73];exact h E a w hs)
   |region id ops draw=>
    cases draw with
    |false=>exact fun E a w hs=>wp_region_list (ih (.ops false ops ops.toList::K) s (by simpa [run] using h) E a w hs)
    |true=>simpa [run,Eg,vc] using h
   |loop c=>simpa [run,Eg,vc] using h
   |rangeFunc f ps x y=>simpa [run,Eg,vc] using h
   |scope c=>simpa [run,Eg,vc] using h
   |label l=>simpa [run,Eg,vc] using h
   |goto l=>simpa [run,Eg,vc] using h
   |refuse why=>simpa [run,Eg,vc] using h
  | .ops q all []::K=>exact fun E a w hs=>by have:=ih K s (by simpa [run] using h) E a w hs;cases q<;>exact this
  | .ops q all (o::rest)::K=>
   simp only [run,C9k,C7j,C7d,D0r] at h
   split at h
   ·rename_i hg
    split at h
    ·rename_i c x y hop
     split at h
     ·rename_i b hb
      obtain ⟨h1,h2⟩:(b=true→_)∧(b=false→_):=h;refine Ek hg (fun E a w hs=>?_);have hv:=hs.ev c;rw [hb] at hv;have e1:=B3 hv;obtain ⟨dst,op',ty,pos,after,guard⟩:=o
      simp only at hop
      subst hop
      cases b with
      |true=>exact ⟨a.eval x,fun w' _=>by simp [execOp,e1,asBool],ih _ _ (h1 rfl) E _ w (hs.put dst (hs.ev x))⟩
      |false=>exact ⟨a.eval y,fun w' _=>by simp [execOp,e1,asBool],ih _ _ (h2 rfl) E _ w (hs.put dst (hs.ev y))⟩
     simpa [Eg,vc] using h
    ·rename_i f args ats hop
     simp only [Xf,Eg,vc] at h;obtain ⟨hc,h⟩:=h;intro E a w hs
     have:=h E a w hs (args.toList.map a.eval) Ey (fun i x hx=>by
      simp only [Fa,F1] at hx;obtain ⟨y,hy,rfl⟩:=hx
      simpa [List.getD,hy] using hs.ev y)
     have e:(args.toList.map a.eval).toArray=args.map a.eval:=by obtain ⟨l⟩:=args;simp
     rw [e] at this
     cases q with
     |false=>
      show wpList P all (Cg P Q K) (o::rest) a w
      unfold wpList;rw [Ak (by simp [Region.wanted,hg])];refine .inl ?_;unfold Oper.wp;rw [B7l f hc args ats a o hop w];exact this.mono fun e w' ⟨v,he,_,hp⟩=>by subst he;exact hp
     |true=>
      show G6 P all _ (o::rest) a w
      unfold G6;rw [Ak (by simp [Region.wanted,hg])];refine .inr ⟨by rw [hop];simp [Dk],?_⟩;unfold Ko;rw [B7l f hc args ats a o hop w];exact this.mono fun e w' ⟨v,he,hk,hp⟩=>⟨v,he,fun _=>hk rfl,hp⟩
    ·rename_i t args ats hop
     split at h
     ·rename_i f ai hn
      simp only [Xf,Eg,vc] at h;obtain ⟨hc,h⟩:=h;intro E a w hs;have hv:=hs.ev (.tmp t);rw [show s.ev (.tmp t)= .fn f ai from hn] at hv
      generalize hu:a.eval (.tmp t)=u at hv
      cases hv with
      |fn vs hl hv'=>
       have:=h E a w hs (args.toList.map a.eval++vs) (by simp [hl]) (fun i x hx=>by
        by_cases hi:i<args.toList.length
        ·rw [Fi (by simpa using hi)] at hx
         simp only [Fa,F1] at hx;obtain ⟨y,hy,rfl⟩:=hx;rw [List.getD,Fi (by simpa using hi)]
         simpa [hy] using hs.ev y
        rw [Fo (by simpa using hi)] at hx
        have:=hv' _ x hx
        rw [List.getD,Fo (by simpa using hi)]
        simpa [List.getD] using this)
       have e:(args.toList.map a.eval++vs).toArray=args.map a.eval++vs.toArray:=by obtain ⟨l⟩:=args;simp
       rw [e] at this
       cases q with
       |false=>
        show wpList P all (Cg P Q K) (o::rest) a w
        unfold wpList;rw [Ak (by simp [Region.wanted,hg])];refine .inl ?_;unfold Oper.wp;rw [B2h f hc t vs args ats a o hop hu w];exact this.mono fun e w' ⟨v,he,_,hp⟩=>by subst he;exact hp
       |true=>
        show G6 P all _ (o::rest) a w
        unfold G6;rw [Ak (by simp [Region.wanted,hg])];refine .inr ⟨by rw [hop];simp [Dk],?_⟩;unfold Ko;rw [B2h f hc t vs args ats a o hop hu w];exact this.mono fun e w' ⟨v,he,hk,hp⟩=>⟨v,he,fun _=>hk rfl,hp⟩
     simpa [Eg,vc] using h
    rename_i op hn1 hn2 hn3
    split at h
    ·simpa [Eg,vc] using h
    ·rename_i ps x hst
     obtain ⟨hps,h⟩:=B8d h;refine Ek hg (fun E a w hs=>?_);obtain ⟨v,hr,hd⟩:=A18 hT hst hps hs o rfl;exact ⟨v,hr,ih _ _ h E _ w (hs.put o.dst hd)⟩
    ·rename_i cells hst
     have hkind:Dk o.op=1:=B0u hst;refine Ic hg A7 (fun E a w hs=>?_);obtain ⟨vs,ty,hr,h1,h2⟩:=C8o hT hst hs o rfl;obtain ⟨k1,k2⟩:=hs.newBox cells vs ty h1 h2.1;exact ⟨_,_,.inl hr,fun _=> .of_below (Jh w _),ih _ _ h _ _ _ (k1.put o.dst k2)⟩
    ·rename_i ps c hst
     obtain ⟨hps,h⟩:=B8d h;have hkind:Dk o.op=1:=B0v hst;refine Ic hg A7 (fun E a w hs=>?_);obtain ⟨v,w',fp,hr,h1,h2,h3,h4,_⟩:=C8p hT hst hps hs o rfl
     obtain ⟨k1,k2⟩:=(hs.call h4).addOwn h1 h2 (fun b hb=>⟨.inr (h3 b hb),fun hav=>by
      have:=hs.avoid_lt hav
      have:=h3 b hb
      omega,.inl (Fk hs.base.size (h3 b hb))⟩)
     exact ⟨_,_,.inl hr,fun _=> .of_below h4,ih _ _ h _ _ _ (k1.put o.dst k2).is⟩
    rename_i bx hst
    have hkind:Dk o.op=2:=B0t hst;refine Ic hg A7 (fun E a w hs=>?_);obtain ⟨w',hr,k1,_⟩:=C8n hT hst hs o rfl;exact ⟨_,_,.inr ⟨hr,rfl⟩,fun h=>by omega,ih _ _ h _ _ _ (k1.put o.dst (.any _))⟩
   ·rename_i j hg
    split at h
    ·rename_i d hd
     split at h
     ·rename_i b hb
      obtain ⟨h1,h2⟩:(b=true→_)∧(b=false→_):=h;intro E a w hs;have hy:=hs.yielded hd hb
      cases b with
      |true=>exact A4n (by simp [Region.wanted,hg,hy]) (ih _ _ (h1 rfl) E a w (hs.setBool hb))
      |false=>exact Og (by simp [Region.wanted,hg,hy]) (ih _ _ (h2 rfl) E _ w ((hs.setBool hb).put o.dst (A0y all o.dst)))
     ·rename_i hb
      intro E a w hs;have hy:=hs.yielded0 hd hb;exact Og (by simp [Region.wanted,hg,hy]) (ih _ _ h E _ w (hs.put o.dst (A0y all o.dst)))
     simpa [Eg,vc] using h
    simpa [Eg,vc] using h
   rename_i j hg
   split at h
   ·rename_i d hd
    split at h
    ·rename_i b hb
     obtain ⟨h1,h2⟩:(b=true→_)∧(b=false→_):=h;intro E a w hs;have hy:=hs.yielded hd hb
     cases b with
     |true=>exact Og (by simp [Region.wanted,hg,hy]) (ih _ _ (h1 rfl) E _ w ((hs.setBool hb).put o.dst (A0y all o.dst)))
     |false=>exact A4n (by simp [Region.wanted,hg,hy]) (ih _ _ (h2 rfl) E a w (hs.setBool hb))
    ·rename_i hb
     intro E a w hs;have hy:=hs.yielded0 hd hb;exact Og (by simp [Region.wanted,hg,hy]) (ih _ _ h E _ w (hs.put o.dst (A0y all o.dst)))
    simpa [Eg,vc] using h
   simpa [Eg,vc] using h
theorem C3g (hm:P.follows .mixedOrders=true){ops:Array Oper}{K:List KI}(ord:List Nat)(hB:C7g ops ord=true)(h:G P B Q (.ops true ops (Zi ops ord)::K) s):G P B Q (.code (.region id ops true)::K) s:=
 fun E a w hs=>B0x hm hB (h E a _ (hs.call (w':= {w with drawn:=w.drawn+1}) ⟨rfl,rfl,rfl,Ds _,fun _ _=>rfl⟩).is)
theorem C8d (hT:Bz P T)(wr:Bool)(n:Nat)(K:List KI)(s:AS)(h:vc P B Q (Py T wr n K s)):G P B Q K s:=
 C4j hT wr n K s (by simpa [Py,Eg] using h)
end Go.Sx
