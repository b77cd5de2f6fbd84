/- Part 1 of the proof that each of the laws FnScriptsBack returns true for every input. No conditions. -/
import Derived.WalkKit

set_option linter.unusedSimpArgs false
set_option linter.unusedVariables false
namespace Go.Sx
theorem A6:type_of% @congrArg:= @congrArg
theorem Ab:type_of% @if_neg:= @if_neg
theorem Ah:type_of% @if_pos:= @if_pos
theorem Bp:type_of% @of_decide_eq_true:= @of_decide_eq_true
theorem C7:type_of% @List.mem_cons:= @List.mem_cons
theorem Cx:type_of% @decide_eq_false:= @decide_eq_false
theorem Cy:type_of% @of_decide_eq_false:= @of_decide_eq_false
theorem D7:type_of% @decide_eq_true:= @decide_eq_true
theorem Dh:type_of% @List.getElem?_eq_getElem:= @List.getElem?_eq_getElem
theorem Dn:type_of% @List.length_append:= @List.length_append
theorem Bu:type_of% @Nat.le_refl:= @Nat.le_refl
theorem Bv:type_of% @Option.some.inj:= @Option.some.inj
theorem Ci:type_of% @List.append_assoc:= @List.append_assoc
theorem Cj:type_of% @Bool.and_eq_true:= @Bool.and_eq_true
theorem Cp:type_of% @Int.toNat_natCast:= @Int.toNat_natCast
theorem Cq:type_of% @List.mem_cons_of_mem:= @List.mem_cons_of_mem
theorem Cu:type_of% @List.getElem?_eq_some_iff:= @List.getElem?_eq_some_iff
theorem Cz:type_of% @Nat.le_of_ble_eq_true:= @Nat.le_of_ble_eq_true
theorem E7:type_of% @List.mem_flatMap:= @List.mem_flatMap
theorem E9:type_of% @Option.map_eq_some_iff:= @Option.map_eq_some_iff
theorem Ea:type_of% @List.mem_map:= @List.mem_map
theorem Ec:type_of% @List.getElem?_map:= @List.getElem?_map
theorem Em:type_of% @Option.some.injEq:= @Option.some.injEq
theorem Ep:type_of% @List.length_cons:= @List.length_cons
theorem F3:type_of% @List.getElem?_append_left:= @List.getElem?_append_left
theorem F7:type_of% @Nat.eq_of_beq_eq_true:= @Nat.eq_of_beq_eq_true
theorem F8:type_of% @List.getElem?_append_right:= @List.getElem?_append_right
theorem Ff:type_of% @Nat.zero_le:= @Nat.zero_le
theorem Fk:type_of% @List.mem_range:= @List.mem_range
theorem G0:type_of% @Nat.le_trans:= @Nat.le_trans
theorem G1:type_of% @Nat.add_mul:= @Nat.add_mul
theorem G2:type_of% @List.length_take:= @List.length_take
theorem Gh:type_of% @List.size_toArray:= @List.size_toArray
theorem Gm:type_of% @List.length_drop:= @List.length_drop
theorem Gw:type_of% @List.append_nil:= @List.append_nil
theorem H3:type_of% @List.getElem?_cons_zero:= @List.getElem?_cons_zero
theorem H4:type_of% @ByteArray.size_append:= @ByteArray.size_append
theorem H5:type_of% @List.take_length:= @List.take_length
theorem Hg:type_of% @List.mem_append:= @List.mem_append
theorem Hh:type_of% @List.mem_singleton:= @List.mem_singleton
theorem Hi:type_of% @List.length_nil:= @List.length_nil
theorem Hq:type_of% @List.mem_cons_self:= @List.mem_cons_self
theorem Hr:type_of% @List.mem_of_getElem? := @List.mem_of_getElem?
theorem Ja:type_of% @List.all_eq_true:= @List.all_eq_true
theorem I8:type_of% @List.map_cons:= @List.map_cons
theorem Ip:type_of% @List.nodup_cons:= @List.nodup_cons
theorem Jb:type_of% @List.length_singleton:= @List.length_singleton
theorem Jh:type_of% @Prod.mk.injEq:= @Prod.mk.injEq
theorem K0:type_of% @List.not_mem_nil:= @List.not_mem_nil
theorem K1:type_of% @List.length_set:= @List.length_set
theorem Kk:type_of% @Nat.lt_of_lt_of_le:= @Nat.lt_of_lt_of_le
theorem Kl:type_of% @Nat.mul_le_mul_right:= @Nat.mul_le_mul_right
theorem Ld:type_of% @or_false:= @or_false
theorem Le:type_of% @Nat.not_lt_zero:= @Nat.not_lt_zero
theorem Lf:type_of% @Bool.eq_iff_iff:= @Bool.eq_iff_iff
theorem Mo:type_of% @if_true:= @if_true
theorem Mp:type_of% @Bool.not_eq_true':= @Bool.not_eq_true'
theorem Nf:type_of% @List.cons.injEq:= @List.cons.injEq
theorem Ng:type_of% @List.length_take_le:= @List.length_take_le
theorem Nh:type_of% @beq_eq_false_iff_ne:= @beq_eq_false_iff_ne
theorem Ni:type_of% @bne_eq_false_iff_eq:= @bne_eq_false_iff_eq
theorem Nq:type_of% @decide_eq_true_eq:= @decide_eq_true_eq
theorem Nr:type_of% @Array.length_toList:= @Array.length_toList
theorem Oy:type_of% @List.length_map:= @List.length_map
theorem Oz:type_of% @bne_iff_ne:= @bne_iff_ne
theorem Pj:type_of% @Nat.succ_mul:= @Nat.succ_mul
theorem Pk:type_of% @List.eq_nil_of_length_eq_zero:= @List.eq_nil_of_length_eq_zero
theorem Pl:type_of% @List.length_replicate:= @List.length_replicate
theorem Pm:type_of% @List.length_filter_le:= @List.length_filter_le
theorem Pn:type_of% @List.take_of_length_le:= @List.take_of_length_le
theorem Po:type_of% @List.getElem_of_mem:= @List.getElem_of_mem
theorem Qu:type_of% @Nat.mul_comm:= @Nat.mul_comm
theorem Qv:type_of% @Option.map_some:= @Option.map_some
theorem Qw:type_of% @List.cons_append:= @List.cons_append
theorem Qx:type_of% @ByteArray.ext:= @ByteArray.ext
theorem Qy:type_of% @List.take_append_drop:= @List.take_append_drop
theorem Ru:type_of% @Nat.lt_succ_self:= @Nat.lt_succ_self
theorem Rv:type_of% @beq_iff_eq:= @beq_iff_eq
theorem Rw:type_of% @Nat.zero_add:= @Nat.zero_add
theorem Rx:type_of% @List.flatMap_cons:= @List.flatMap_cons
theorem Ry:type_of% @List.pairwise_iff_getElem:= @List.pairwise_iff_getElem
theorem T1:type_of% @decide_eq_false_iff_not:= @decide_eq_false_iff_not
theorem T2:type_of% @Array.getElem?_eq_some_iff:= @Array.getElem?_eq_some_iff
theorem T3:type_of% @Nat.add_zero:= @Nat.add_zero
theorem T4:type_of% @Nat.lt_succ_of_lt:= @Nat.lt_succ_of_lt
theorem T5:type_of% @Bool.false_eq_true:= @Bool.false_eq_true
theorem T6:type_of% @if_false:= @if_false
theorem T7:type_of% @List.getElem?_drop:= @List.getElem?_drop
theorem T8:type_of% @Int.le_refl:= @Int.le_refl
theorem Uu:type_of% @List.map_append:= @List.map_append
theorem Uv:type_of% @List.any_eq_true:= @List.any_eq_true
theorem Uw:type_of% @List.nil_append:= @List.nil_append
theorem Ux:type_of% @Bool.true_and:= @Bool.true_and
theorem Wm:type_of% @Nat.add_assoc:= @Nat.add_assoc
theorem Wn:type_of% @List.getElem?_take:= @List.getElem?_take
theorem Wo:type_of% @List.flatMap_append:= @List.flatMap_append
theorem Wp:type_of% @ByteArray.data_append:= @ByteArray.data_append
theorem Wq:type_of% @Bool.and_false:= @Bool.and_false
theorem Wr:type_of% @Bool.false_and:= @Bool.false_and
theorem Yd:type_of% @Bool.or_eq_true:= @Bool.or_eq_true
theorem Se:type_of% @Array.getElem?_eq_getElem:= @Array.getElem?_eq_getElem
theorem Ub:type_of% @Nat.mod_lt:= @Nat.mod_lt
theorem Uc:type_of% @Option.getD_some:= @Option.getD_some
theorem Ud:type_of% @Int.eq_ofNat_of_zero_le:= @Int.eq_ofNat_of_zero_le
theorem Ue:type_of% @List.getD_cons_zero:= @List.getD_cons_zero
theorem Uf:type_of% @Array.mem_toList_iff:= @Array.mem_toList_iff
theorem Ug:type_of% @List.eq_of_mem_replicate:= @List.eq_of_mem_replicate
theorem Uh:type_of% @Nat.lt_or_gt_of_ne:= @Nat.lt_or_gt_of_ne
theorem Ui:type_of% @List.getElem_range:= @List.getElem_range
theorem Uj:type_of% @Bool.not_eq_false':= @Bool.not_eq_false'
theorem Uk:type_of% @Nat.le_add_right:= @Nat.le_add_right
theorem Ul:type_of% @Array.toList_inj:= @Array.toList_inj
theorem Um:type_of% @decide_eq_decide:= @decide_eq_decide
theorem Wb:type_of% @Option.bind_eq_some_iff:= @Option.bind_eq_some_iff
theorem Wc:type_of% @List.length_range:= @List.length_range
theorem Wd:type_of% @Nat.mul_le_mul:= @Nat.mul_le_mul
theorem We:type_of% @List.map_map:= @List.map_map
theorem Wf:type_of% @List.getElem_map:= @List.getElem_map
theorem Wg:type_of% @List.all_cons:= @List.all_cons
theorem Wh:type_of% @Bool.eq_false_iff:= @Bool.eq_false_iff
theorem Wi:type_of% @List.drop_succ_cons:= @List.drop_succ_cons
theorem Wj:type_of% @Int.tmod_lt_of_pos:= @Int.tmod_lt_of_pos
theorem Wl:type_of% @Nat.lt_succ_iff_lt_or_eq:= @Nat.lt_succ_iff_lt_or_eq
theorem Z2:type_of% @Nat.pos_of_ne_zero:= @Nat.pos_of_ne_zero
theorem Z3:type_of% @Array.size_setIfInBounds:= @Array.size_setIfInBounds
theorem Z4:type_of% @Int.ofNat_lt:= @Int.ofNat_lt
theorem Z5:type_of% @Nat.le_succ:= @Nat.le_succ
theorem Z6:type_of% @List.contains_iff_mem:= @List.contains_iff_mem
theorem Z7:type_of% @List.flatMap_map:= @List.flatMap_map
theorem Z8:type_of% @Nat.add_comm:= @Nat.add_comm
theorem Z9:type_of% @List.map_nil:= @List.map_nil
theorem Za:type_of% @List.range_succ:= @List.range_succ
theorem Zb:type_of% @Bool.false_or:= @Bool.false_or
theorem Zc:type_of% @Go.getD_set_ne:= @Go.getD_set_ne
theorem Zd:type_of% @List.drop_zero:= @List.drop_zero
theorem A70:type_of% @Nat.le_of_not_lt:= @Nat.le_of_not_lt
theorem A2a:type_of% @Array.mapM_eq_mapM_toList:= @Array.mapM_eq_mapM_toList
theorem A2b:type_of% @map_eq_pure_bind:= @map_eq_pure_bind
theorem A2c:type_of% @Bool.or_false:= @Bool.or_false
theorem A2d:type_of% @List.any_eq_false:= @List.any_eq_false
theorem A2e:type_of% @Array.toList_append:= @Array.toList_append
theorem A2f:type_of% @Array.getD_eq_getD_getElem? := @Array.getD_eq_getD_getElem?
theorem A2g:type_of% @Int.tmod_nonneg:= @Int.tmod_nonneg
theorem A2h:type_of% @Bool.and_true:= @Bool.and_true
theorem A71:type_of% @List.getElem?_eq_none:= @List.getElem?_eq_none
theorem A72:type_of% @List.getElem_mem:= @List.getElem_mem
theorem A73:type_of% @Option.isSome_iff_exists:= @Option.isSome_iff_exists
theorem A74:type_of% @Array.toList_map:= @Array.toList_map
theorem A75:type_of% @List.getElem?_range:= @List.getElem?_range
theorem A76:type_of% @Nat.mod_eq_of_lt:= @Nat.mod_eq_of_lt
theorem A77:type_of% @List.range_succ_eq_map:= @List.range_succ_eq_map
theorem A78:type_of% @List.nodup_append:= @List.nodup_append
theorem A79:type_of% @List.mem_append_left:= @List.mem_append_left
theorem A8a:type_of% @List.mem_append_right:= @List.mem_append_right
theorem A8b:type_of% @List.pairwise_cons:= @List.pairwise_cons
theorem A8c:type_of% @List.mem_iff_getElem:= @List.mem_iff_getElem
theorem A8d:type_of% @List.foldl_append:= @List.foldl_append
theorem A8e:type_of% @List.drop_eq_getElem_cons:= @List.drop_eq_getElem_cons
theorem A8f:type_of% @List.mem_of_mem_drop:= @List.mem_of_mem_drop
theorem A8g:type_of% @List.map_congr_left:= @List.map_congr_left
theorem A8h:type_of% @Int.natCast_nonneg:= @Int.natCast_nonneg
theorem A8i:type_of% @Bool.true_eq_false:= @Bool.true_eq_false
theorem B3a:type_of% @Array.getElem_setIfInBounds:= @Array.getElem_setIfInBounds
theorem B3b:type_of% @List.Pairwise.imp_of_mem:= @List.Pairwise.imp_of_mem
theorem B3c:type_of% @List.take_succ_eq_append_getElem:= @List.take_succ_eq_append_getElem
theorem B3d:type_of% @List.getD_eq_getElem?_getD:= @List.getD_eq_getElem?_getD
variable {p : Prop}
theorem Dt (h:p:=by repeat' (first|exact trivial|exact ⟨_,rfl,rfl,by assumption⟩|exact ⟨_,rfl,rfl,rfl⟩|exact ⟨_,rfl,rfl,huo _ (by simp)⟩|exact ⟨_,rfl,rfl,fun v hv=>huo v (by simp only [C7,K0,Ld] at hv ⊢;rcases hv with h|h|h<;>simp [h])⟩|refine ⟨?_,?_⟩)):p:=h
theorem I1 (h:p:=by repeat' (first|exact trivial|exact A0p _ _|exact rfl|exact .inr ⟨rfl,rfl,_,_,rfl⟩|refine ⟨?_,?_⟩)):p:=h
theorem A7 (h:p:=by omega):p:=h
theorem Ak (h:p:=by kernel_rfl):p:=h
theorem S0 (h:p:=by repeat' (first|exact trivial|exact ⟨_,rfl,rfl⟩|refine ⟨?_,?_⟩)):p:=h
theorem Td (h:p:=by repeat' (first|exact trivial|exact rfl|refine ⟨?_,?_⟩)):p:=h
theorem Bk (h:p:=by decide):p:=h
theorem Ij (h:p:=by intro h;cases h):p:=h
theorem ab8 (h:p:=by first|exact trivial|exact ⟨rfl,trivial⟩|repeat' (first|exact trivial|exact rfl|refine ⟨?_,?_⟩)):p:=h
theorem Ef (h:p:=by simp):p:=h
theorem A8o (h:p:=by repeat' (first|exact trivial|exact A0p _ _|exact rfl|refine ⟨?_,?_⟩)):p:=h
theorem C0r (h:p:=by repeat' (first|exact trivial|exact .inl rfl|exact .inr ⟨rfl,_,_,rfl⟩|refine ⟨?_,?_⟩)):p:=h
theorem B6r (h:p:=by repeat' (first|exact trivial|refine ⟨?_,?_⟩|(show _∧_;omega)|omega)):p:=h
theorem R1 (h:p:=by exact Nat.zero_lt_one):p:=h
theorem C0s (h:p:=by first|with_reducible rfl|assumption|(simp only [Nq];omega)|simp):p:=h
theorem C3u (h:p:=by first|with_reducible rfl|assumption|(simp only [T1];omega)|simp):p:=h
theorem P4 (h:p:=by simp;omega):p:=h
theorem B3j (h:p:=by show L.length-(j.k+1)<_;omega):p:=h
inductive Ad where
 |val (x:Value)
 |sl (n es:Nat) (row:Nat→List Ad)
inductive AV where
 |any
 |c (x:Ad)
 |own (k:Nat)
 |box (k off:Nat)
 |agg (xs:List AV)
 |el (n es:Nat) (row:Nat→List Ad) (i:Int) (off:Nat)
 |oel (k es:Nat) (i:Int) (off:Nat)
 |tup (xs:List AV)
 |fn (f:FuncId) (ao:List AV)
abbrev AV.v (x:Value):AV:= .c (.val x)
structure Bx where
 key:Nat
 cells:List AV
structure Ow where
 key:Nat
 cell:Ad
structure AS where
 next:Nat
 ac:List AV
 aw:List Bx
 own:List Ow
 ak:List (Nat×Value):=[]
def Dv (l:List (Nat×Value)) (k:Nat):Option Value:=
 match l with
 | []=>none
 |(a,v)::r=>match Nat.beq a k with
  |true=>some v
  |false=>Dv r k
inductive CK where
 |int (k:IntKind)
 |bool
structure TI where
 agg:Bool
 size:Nat
 bytes:Nat
 zero:List Value
 fields:List (Nat×TypeId)
 elem:Option TypeId
 str:Bool
 flat:Option (List CK)
inductive KI where
 |code (c:Code)
 |block (id:Nat)
 |loop (I:Act→World→Prop)
 |ops (q:Bool) (all:Array Oper) (todo:List Oper)
inductive Out where
 |aj (K:List KI) (s:AS)
 |call (q:Bool) (f:FuncId) (xs:List AV) (dst:Option Tmp) (K:List KI) (s:AS)
 |ret (s:AS)
 |ite (b:Bool) (t e:Out)
 |need (p:Prop) (o:Out)
def A95 (fb:TypeId→Option (List CK)):List Field→Nat→Option (List CK)
 | [],_=>some []
 |f::r,off=>
  match f.name== "_",Nat.beq f.offset off with
  |false,true=>
   match fb f.type with
   |some ks=>match A95 fb r (off+ks.length) with
    |some js=>some (ks++js)
    |none=>none
   |none=>none
  |_,_=>none
def Xn (P:Program):Nat→TypeId→Option (List CK)
 | 0,_=>none
 |d+1,t=>
  match (match P.underlying t with
   |some (.int k)=>some [CK.int k]
   |some .bool=>some [CK.bool]
   |some (.struct fs)=>match P.stoodInHeld t with
    |true=>none
    |false=>A95 (Xn P d) fs.toList 0
   |_=>none) with
  |some ks=>match Nat.beq ks.length (P.cellsOf t),(P.info? t).isSome,Nat.ble 1 ks.length with
   |true,true,true=>some ks
   |_,_,_=>none
  |none=>none
def J5 (l:List Value):Bool:=
 match l with
 | []=>true
 | .agg _::_=>false
 | .tuple _::_=>false
 |_::r=>J5 r
def Ks:TypeDesc→Bool
 | .struct _=>true
 | .array _ _=>true
 |_=>false
def TI.of (P:Program) (t:TypeId):Option TI:=
 match P.info? t,P.underlying t with
 |some f,some d=>
  match f.zero,Ks d||Nat.beq f.size 1,Nat.beq ((f.zero.map (·.cells.size)).getD 0) f.size&&J5 ((f.zero.map (·.cells.toList)).getD []) with
  |none,_,_=>none
  |some _,false,_=>none
  |some _,_,false=>none
  |some z,true,true=>some
   {agg:=Ks d
    size:=f.size,bytes:=f.bytes,zero:=z.cells.toList
    fields:=match d with| .struct fs=>fs.toList.map fun F=>(F.offset,F.type)|_=>[]
    elem:=match d with| .slice e=>some e|_=>none
    str:=match d with| .string=>true|_=>false
    flat:=match P.eqGuardType P.depth t with|true=>none|false=>Xn P 10 t}
 |_,_=>none
def find (T:List (TypeId×TI)) (t:TypeId):Option TI:=
 match T with
 | []=>none
 |(u,i)::r=>match Nat.beq u t with|true=>some i|false=>find r t
def Fq (l:List Bx) (k:Nat):Option Bx:=
 match l with
 | []=>none
 |b::r=>match Nat.beq b.key k with|true=>some b|false=>Fq r k
def Fe (l:List Bx) (k:Nat) (cells:List AV):List Bx:=
 match l with
 | []=>[]
 |b::r=>match Nat.beq b.key k with|true=> {b with cells}::r|false=>b::Fe r k cells
def Bm (l:List Ow) (k:Nat):Option Ad:=
 match l with
 | []=>none
 |o::r=>match Nat.beq o.key k with|true=>some o.cell|false=>Bm r k
def I4 (l:List AV) (i:Nat):AV:=
 match l,i with
 | [],_=> .any
 |x::_,0=>x
 |_::r,i+1=>I4 r i
def Cd (l:List AV) (i:Nat) (x:AV):List AV:=
 match l,i with
 | [],_=>[]
 |_::r,0=>x::r
 |y::r,i+1=>y::Cd r i x
def seg (l:List AV) (off n:Nat):List AV:=(l.drop off).take n
def Sd (l:List AV) (off:Nat) (xs:List AV):List AV:=
 match xs with
 | []=>l
 |x::r=>Sd (Cd l off x) (off+1) r
def C73 (v:Value):AV:=
 match v with
 | .agg _=> .any
 | .tuple _=> .any
 |v=> .v v
def AS.ev (s:AS):Operand→AV
 | .tmp t=>I4 s.ac t
 | .const v=>C73 v
 | .global _=> .any
 | .func f=> .fn f []
def AS.put (s:AS) (dst:Option Tmp) (x:AV):AS:=
 match dst with
 |some d=> {s with ac:=Cd s.ac d x}
 |none=>s
inductive Gn where
 |stop
 |ok (ps:List Prop) (x:AV)
 |new (cells:List AV)
 |mem (bx:List Bx)
 |own (ps:List Prop) (c:Ad)
def AV.cellLike:AV→Bool
 | .any=>false
 | .agg _=>false
 | .tup _=>false
 |_=>true
def M4 (l:List AV):Bool:=
 match l with
 | []=>true
 |x::r=>match x.cellLike with|true=>M4 r|false=>false
def Js (k:IntKind) (n:Int):Prop:=
 match k with
 | .i8=> -128≤n∧n≤127
 | .i16=> -32768≤n∧n≤32767
 | .i32=> -2147483648≤n∧n≤2147483647
 | .i64=> -9223372036854775808≤n∧n≤9223372036854775807
 | .u8=>0≤n∧n≤255
 | .u16=>0≤n∧n≤65535
 | .u32=>0≤n∧n≤4294967295
 | .u64=>0≤n∧n≤18446744073709551615
def AV.ofCell (x:Ad):AV:= .c x
def Jo (i:TI):List AV:=i.zero.map AV.v
def O2 (i:TI) (cells:List AV) (off:Nat):AV:=
 match i.agg with
 |true=> .agg (seg cells off i.size)
 |false=>I4 cells off
def AV.cellsOf (x:AV):List AV:=
 match x with
 | .agg xs=>xs
 |x=>[x]
def Ny (a b:IntKind):Bool:=decide (a=b)
def B3n (a:Bool) (r:Option Bool):Option Bool:=
 match r with
 |some b=>some (a&&b)
 |none=>none
def A8r (ks:List CK) (xs ys:List AV):Option Bool:=
 match ks,xs,ys with
 | [],[],[]=>some true
 | .int k::ks,.c (.val (.int i a))::xs,.c (.val (.int j b))::ys=>
  match Ny i k,Ny j k with
  |true,true=>B3n (a==b) (A8r ks xs ys)
  |_,_=>none
 | .bool::ks,.c (.val (.bool a))::xs,.c (.val (.bool b))::ys=>B3n (a==b) (A8r ks xs ys)
 |_,_,_=>none
def C4b (T:List (TypeId×TI)) (t:TypeId):Bool:=
 match find T t with
 |some i=>match i.agg,i.flat with
  |false,some [.bool]=>true
  |_,_=>false
 |none=>false
def D1q (T:List (TypeId×TI)) (t:TypeId):Bool:=
 match find T t with
 |some i=>i.str
 |none=>false
def D0i (T:List (TypeId×TI)) (t:TypeId):Option (List CK):=
 match find T t with
 |some i=>match i.agg with
  |true=>i.flat
  |false=>none
 |none=>none
def A4u (wr:Bool) (T:List (TypeId×TI)) (op:BinOp) (t:TypeId) (x y:AV):Gn:=
 match x,y with
 | .c (.val (.int k a)),.c (.val (.int j b))=>
  match Ny k j with
  |false=> .stop
  |true=>
  match op with
  | .add=>match wr with|true=> .ok [] (.v (.int k (k.wrap (a+b))))|false=> .ok [Js k (a+b)] (.v (.int k (a+b)))
  | .sub=>match wr with|true=> .ok [] (.v (.int k (k.wrap (a-b))))|false=> .ok [Js k (a-b)] (.v (.int k (a-b)))
  | .mul=>match wr with|true=> .ok [] (.v (.int k (k.wrap (a * b))))|false=> .ok [Js k (a * b)] (.v (.int k (a * b)))
  | .quo=> .ok [b≠0,Js k (a.tdiv b)] (.v (.int k (a.tdiv b)))
  | .rem=> .ok [b≠0] (.v (.int k (a.tmod b)))
  | .eql=> .ok [] (.v (.bool (a==b)))
  | .neq=> .ok [] (.v (.bool (a !=b)))
  | .lss=> .ok [] (.v (.bool (decide (a<b))))
  | .leq=> .ok [] (.v (.bool (decide (a≤b))))
  | .gtr=> .ok [] (.v (.bool (decide (a>b))))
  | .geq=> .ok [] (.v (.bool (decide (a≥b))))
  |_=> .stop
 | .c (.val (.string a)),.c (.val (.string b))=>
  match op with
  | .add=> .ok [a.size+b.size≤9223372036854775807] (.v (.string (a++b)))
  | .eql=> .ok [] (.v (.bool (a==b)))
  | .neq=> .ok [] (.v (.bool !(a==b)))
  |_=> .stop
 | .c (.val (.bool a)),.c (.val (.bool b))=>
  match op,C4b T t with
  | .eql,true=> .ok [] (.v (.bool (a==b)))
  | .neq,true=> .ok [] (.v (.bool !(a==b)))
  |_,_=> .stop
 | .agg xs,.agg ys=>
  match D0i T t with
  |some ks=>match op,A8r ks xs ys with
   | .eql,some r=> .ok [] (.v (.bool r))
   | .neq,some r=> .ok [] (.v (.bool !r))
   |_,_=> .stop
  |none=> .stop
 |_,_=> .stop
def Zt (T:List (TypeId×TI)) (t:TypeId) (f:Nat):Option (Nat×TypeId):=
 match find T t with
 |some i=>i.fields[f]?
 |none=>none
def Tj (T:List (TypeId×TI)) (fields:List (Nat×TypeId)) (s:AS):List (Nat×Operand)→List AV→Option (List AV)
 | [],acc=>some acc
 |(f,x)::r,acc=>
  match fields[f]? with
  |none=>none
  |some (off,u)=>
   match find T u with
   |none=>none
   |some j=>
    match Nat.beq (s.ev x).cellsOf.length j.size&&Nat.ble (off+j.size) acc.length&&M4 (s.ev x).cellsOf with
    |true=>Tj T fields s r (Sd acc off (s.ev x).cellsOf)
    |false=>none
def B85 (T:List (TypeId×TI)) (l:List (Nat×TypeId)):Bool:=
 match l with
 | []=>true
 |(_,u)::r=>match find T u with
  |some _=>B85 T r
  |none=>false
def B28 (l:List AV):Option (List Ad):=
 match l with
 | []=>some []
 | .c (.val v)::r=>match B28 r with
  |some cs=>some (.val v::cs)
  |none=>none
 |_=>none
def P5 (l:List Ad):Option (List AV):=
 match l with
 | []=>some []
 | .val v::r=>match P5 r with
  |some cs=>some (.c (.val v)::cs)
  |none=>none
 |_=>none
def K9 (n i size:Nat) (e:TypeId):List (Nat×TypeId):=
 match n with
 | 0=>[]
 |n+1=>(i * size,e)::K9 n (i+1) size e
def repL {α:Type} (n:Nat) (l:List α):List α:=
 match n with
 | 0=>[]
 |n+1=>l++repL n l
def Lk (T:List (TypeId×TI)) (wr:Bool) (s:AS) (op:Op):Gn:=
 match op with
 | .move x=> .ok [] (s.ev x)
 | .assign x=> .ok [] (s.ev x)
 | .binOp b t x y _=>A4u wr T b t (s.ev x) (s.ev y)
 | .unOp u _ x=>
  match u,s.ev x with
  | .not,.c (.val (.bool b))=> .ok [] (.v (.bool !b))
  | .neg,.c (.val (.int k n))=>match wr with|true=> .ok [] (.v (.int k (k.wrap (0-n))))|false=> .ok [Js k (0-n)] (.v (.int k (0-n)))
  |_,_=> .stop
 | .alloc t=>
  match find T t with
  |some i=> .new (Jo i)
  |none=> .stop
 | .box _t x=>
  match M4 (s.ev x).cellsOf with
  |true=> .new (s.ev x).cellsOf
  |false=> .stop
 | .build t ps=>
  match find T t with
  |some i=>match i.fields,B85 T i.fields,Tj T i.fields s ps.toList (Jo i) with
   |_::_,true,some cs=> .ok [] (.agg cs)
   |_,_,_=> .stop
  |none=> .stop
 | .load t x=>
  match find T t,s.ev x with
  |some i,.box k off=>match Fq s.aw k with
   |some b=>match Nat.ble (off+i.size) b.cells.length with
    |true=> .ok [] (O2 i b.cells off)
    |false=> .stop
   |none=> .stop
  |some i,.oel k es j off=>match Bm s.own k with
   |some (.sl _ es' row)=>match i.flat.isSome||i.str with
    |false=> .stop
    |true=>match Nat.beq es es'&&Nat.ble (off+i.size) es,P5 (row j.toNat) with
     |true,some cs=> .ok [] (O2 i cs off)
     |_,_=> .stop
   |_=> .stop
  |some i,.el _n es row j off=>match Nat.ble (off+i.size) es with
   |true=> .ok [] (O2 i ((row j.toNat).map AV.ofCell) off)
   |false=> .stop
  |_,_=> .stop
 | .store t x y=>
  match find T t,s.ev x with
  |some i,.box k off=>match Fq s.aw k with
   |some b=>match Nat.ble (off+i.size) b.cells.length,Nat.beq (s.ev y).cellsOf.length i.size,M4 (s.ev y).cellsOf with
    |true,true,true=> .mem (Fe s.aw k (Sd b.cells off (s.ev y).cellsOf))
    |_,_,_=> .stop
   |none=> .stop
  |_,_=> .stop
 | .fieldAddr t x f=>
  match Zt T t f with
  |some (o,u)=>
   match (find T u).map (fun j=>Nat.ble 1 j.size),s.ev x with
   |some true,.box k off=> .ok [] (.box k (off+o))
   |some true,.el n es row j off=> .ok [] (.el n es row j (off+o))
   |some true,.oel k es j off=> .ok [] (.oel k es j (off+o))
   |_,_=> .stop
  |none=> .stop
 | .field t x f=>
  match Zt T t f,s.ev x with
  |some (o,u),.agg cs=>match find T u with
   |some j=>match Nat.ble (o+j.size) cs.length&&Nat.ble 1 j.size with
    |true=> .ok [] (O2 j cs o)
    |false=> .stop
   |none=> .stop
  |_,_=> .stop
 | .indexAddr t x y=>
  match (find T t).bind (·.elem),s.ev x,s.ev y with
  |some e,.c (.sl n es row),.c (.val (.int _ j))=>
   match (find T e).map (fun i=>Nat.beq i.size es) with
   |some true=> .ok [0≤j∧j<(n:Int)] (.el n es row j 0)
   |_=> .stop
  |some e,.own k,.c (.val (.int _ j))=>
   match Bm s.own k with
   |some (.sl n es _)=>match (find T e).map (fun i=>Nat.beq i.size es) with
    |some true=> .ok [0≤j∧j<(n:Int)] (.oel k es j 0)
    |_=> .stop
   |_=> .stop
  |_,_,_=> .stop
 | .index t x y=>
  match D1q T t,s.ev x,s.ev y with
  |true,.c (.val (.string b)),.c (.val (.int _ j))=> .ok [0≤j∧j<(b.size:Int)] (.v (.int .u8 (b.data.getD j.toNat 0).toNat))
  |_,_,_=> .stop
 | .extract x i=>
  match s.ev x with
  | .tup xs=>match Nat.blt i xs.length with
   |true=> .ok [] (I4 xs i)
   |false=> .stop
  |_=> .stop
 | .nilCheck x=>
  match s.ev x with
  | .box k off=> .ok [] (.box k off)
  | .el n es row j off=> .ok [] (.el n es row j off)
  | .oel k es j off=> .ok [] (.oel k es j off)
  |_=> .stop
 | .call {callee:= .builtin .len,args,argTypes}=>
  match args.toList,argTypes.toList with
  | [x],[t]=>match find T t with
   |some i=>match i.str,i.elem,s.ev x with
    |true,_,.c (.val (.string b))=> .ok [] (.v (.int .i64 (b.size:Int)))
    |false,some _,.c (.val (.slice _ n _))=> .ok [] (.v (.int .i64 (n:Int)))
    |false,some _,.c (.sl n _ _)=> .ok [] (.v (.int .i64 (n:Int)))
    |false,some _,.own k=>match Bm s.own k with
     |some (.sl n _ _)=> .ok [] (.v (.int .i64 (n:Int)))
     |_=> .stop
    |_,_,_=> .stop
   |none=> .stop
  |_,_=> .stop
 | .call {callee:= .builtin .max,args,..}=>
  match args.toList with
  | [x,y]=>match s.ev x,s.ev y with
   | .c (.val (.int k a)),.c (.val (.int j b))=>match Ny k j with|true=> .ok [] (.v (.int k (if b>a then b else a)))|false=> .stop
   |_,_=> .stop
  |_=> .stop
 | .call {callee:= .builtin .min,args,..}=>
  match args.toList with
  | [x,y]=>match s.ev x,s.ev y with
   | .c (.val (.int k a)),.c (.val (.int j b))=>match Ny k j with|true=> .ok [] (.v (.int k (if b<a then b else a)))|false=> .stop
   |_,_=> .stop
  |_=> .stop
 | .convert t u x=>
  match find T t,find T u with
  |some _,some j=>
   match s.ev x with
   | .c (.val (.string b))=>match j.str with|true=> .ok [] (.v (.string b))|false=> .stop
   | .c (.val (.int _ n))=>match j.agg,j.flat with
    |false,some [.int k]=>match wr with|true=> .ok [] (.v (.int k (k.wrap n)))|false=> .ok [Js k n] (.v (.int k n))
    |_,_=> .stop
   |_=> .stop
  |_,_=> .stop
 | .makeSlice t x y=>
  match (find T t).bind (·.elem),s.ev x,s.ev y with
  |some e,.c (.val (.int _ a)),.c (.val (.int _ b))=>
   match find T e with
   |some j=>match Nat.ble j.bytes 256 with
    |true=> .own [0≤a∧a≤b∧b≤1099511627776] (.sl a.toNat j.size fun _=>j.zero.map Ad.val)
    |false=> .stop
   |none=> .stop
  |_,_,_=> .stop
 | .buildSlice t len ps=>
  match (find T t).bind (·.elem) with
  |some e=>match find T e with
   |some j=>match Nat.ble (len * j.size) 10000&&Nat.blt 0 j.size,Tj T (K9 len 0 j.size e) s ps.toList (repL len (Jo j)) with
    |true,some cs=>match B28 cs with
     |some vals=> .own [] (.sl len j.size fun i=>(vals.drop (i * j.size)).take j.size)
     |none=> .stop
    |_,_=> .stop
   |none=> .stop
  |none=> .stop
 | .makeFunc (.func f) first ao=>
  match first.toList with
  | []=> .ok [] (.fn f (ao.toList.map s.ev))
  |_=> .stop
 |_=> .stop
def Y5 (id:Nat):List KI→Option (List KI)
 | []=>none
 | .block j::K=>match Nat.beq j id with|true=>some K|false=>Y5 id K
 |_::K=>Y5 id K
def A6b (ps:List Prop) (o:Out):Out:=
 match ps with
 | []=>o
 |p::r=> .need p (A6b r o)
def L6 (all:Array Oper) (j:Nat):Option Tmp:=(all[j]?).bind (·.dst)
def A34 (all:List Oper) (arr:Array Oper) (d:Tmp):Bool:=
 match all with
 | []=>false
 |p::r=>match p.guard with
  |some (j,_)=>match L6 arr j with
   |some e=>match Nat.beq e d with
    |true=>true
    |false=>A34 r arr d
   |none=>A34 r arr d
  |none=>A34 r arr d
def Sb (all:Array Oper) (d:Option Tmp):AV:=
 match d with
 |none=> .any
 |some d=>match A34 all.toList all d with
  |true=> .tup []
  |false=> .any
def Mb {α:Type} (n:Nat) (k:Nat→α):α:=
 match n with
 | 0=>k 0
 |m+1=>Mb m fun r=>k (r+1)
def A5i {α:Type} (x:AV) (k:AV→α):α:=
 match x with
 | .any=>k .any
 | .c c=>k (.c c)
 | .own j=>Mb j fun j=>k (.own j)
 | .box j off=>Mb j fun j=>Mb off fun off=>k (.box j off)
 | .agg xs=>k (.agg xs)
 | .el n es row i off=>k (.el n es row i off)
 | .oel j es i off=>k (.oel j es i off)
 | .tup xs=>k (.tup xs)
 | .fn f ao=>k (.fn f ao)
def Ri {α:Type} (l:List AV) (k:List AV→α):α:=
 match l with
 | []=>k []
 |x::r=>A5i x fun x'=>Ri r fun r'=>k (x'::r')
def B1p {α:Type} (x:AV) (k:AV→α):α:=
 match x with
 | .agg xs=>Ri xs fun xs'=>k (.agg xs')
 | .tup xs=>Ri xs fun xs'=>k (.tup xs')
 | .fn f ao=>Ri ao fun xs'=>k (.fn f xs')
 |x=>A5i x k
def To {α:Type} (l:List AV) (k:List AV→α):α:=
 match l with
 | []=>k []
 |x::r=>B1p x fun x'=>To r fun r'=>k (x'::r')
def A5j {α:Type} (l:List Bx) (k:List Bx→α):α:=
 match l with
 | []=>k []
 |x::r=>match x with|⟨key,cells⟩=>Mb key fun key=>Ri cells fun cs=>A5j r fun r'=>k (⟨key,cs⟩::r')
def A5l {α:Type} (l:List Ow) (k:List Ow→α):α:=
 match l with
 | []=>k []
 |x::r=>match x with|⟨key,cell⟩=>Mb key fun key=>A5l r fun r'=>k (⟨key,cell⟩::r')
def A5k {α:Type} (l:List (Nat×Value)) (k:List (Nat×Value)→α):α:=
 match l with
 | []=>k []
 |(a,v)::r=>Mb a fun a=>A5k r fun r=>k ((a,v)::r)
def N2 {α:Type} (s:AS) (k:AS→α):α:=
 match s with
 |⟨next,ac,aw,own,ak⟩=>Mb next fun next=>To ac fun ac=>A5j aw fun aw=>A5l own fun own=>A5k ak fun ak=>k ⟨next,ac,aw,own,ak⟩
def C6y {α:Type} (l:List AV) (i:Nat) (x:AV) (k:List AV→α):α:=
 match l,i with
 | [],_=>k []
 |_::r,0=>k (x::r)
 |y::r,i+1=>C6y r i x fun r'=>k (y::r')
def Mr {α:Type} (s:AS) (dst:Option Tmp) (x:AV) (k:AS→α):α:=
 match dst with
 |none=>k s
 |some d=>B1p x fun x=>match s with
  |⟨next,ac,aw,own,ak⟩=>C6y ac d x fun ac=>k ⟨next,ac,aw,own,ak⟩
def B9w {α:Type} (s:AS) (cells:List AV) (k:AS→α):α:=
 Ri cells fun cells=>match s with
  |⟨next,ac,aw,own,ak⟩=>Mb (next+1) fun n=>k ⟨n,ac,{key:=next,cells}::aw,own,ak⟩
def Qm {α:Type} (s:AS) (c:Ad) (k:AS→α):α:=
 match s with
 |⟨next,ac,aw,own,ak⟩=>Mb (next+1) fun n=>k ⟨n,ac,aw,⟨next,c⟩::own,ak⟩
def B9t {α:Type} (s:AS) (bx:List Bx) (k:AS→α):α:=
 A5j bx fun bx=>match s with
  |⟨next,ac,_,own,ak⟩=>k ⟨next,ac,bx,own,ak⟩
def run (T:List (TypeId×TI)) (wr:Bool):Nat→List KI→AS→Out
 | 0,K,s=>N2 s (.aj K)
 |n+1,K,s=>
  match K with
  | []=>N2 s (.aj [])
  | .block _::K=>run T wr n K s
  | .loop I::K=>N2 s (.aj (.loop I::K))
  | .code c::K=>
   match c with
   | .skip=>run T wr n K s
   | .seq a b=>run T wr n (.code a:: .code b::K) s
   | .block id c=>run T wr n (.code c:: .block id::K) s
   | .cond o t e=>
    match s.ev o with
    | .c (.val (.bool b))=> .ite b (run T wr n (.code t::K) s) (run T wr n (.code e::K) s)
    |_=>N2 s (.aj (.code (.cond o t e)::K))
   | .exit id=>match Y5 id K with
    |some K'=>run T wr n K' s
    |none=>N2 s (.aj (.code (.exit id)::K))
   | .ret=>N2 s .ret
   | .region _id ops false=>run T wr n (.ops false ops ops.toList::K) s
   |c=>N2 s (.aj (.code c::K))
  | .ops q all l::K=>
   match l with
   | []=>run T wr n K s
   |o::rest=>
    match o.guard with
    |none=>
     match o.op with
     | .pick c x y=>
      match s.ev c with
      | .c (.val (.bool b))=> .ite b (Mr s o.dst (s.ev x) (run T wr n (.ops q all rest::K))) (Mr s o.dst (s.ev y) (run T wr n (.ops q all rest::K)))
      |_=>N2 s (.aj (.ops q all (o::rest)::K))
     | .call {callee:= .value (.func f),args,..}=>To (args.toList.map s.ev) fun xs=>N2 s fun s=> .call q f xs o.dst (.ops q all rest::K) s
     | .call {callee:= .value (.tmp t),args,..}=>
      match I4 s.ac t with
      | .fn f ao=>To (args.toList.map s.ev++ao) fun xs=>N2 s fun s=> .call q f xs o.dst (.ops q all rest::K) s
      |_=>N2 s (.aj (.ops q all (o::rest)::K))
     |op=>
      match Lk T wr s op with
      | .stop=>N2 s (.aj (.ops q all (o::rest)::K))
      | .ok ps x=>A6b ps (Mr s o.dst x (run T wr n (.ops q all rest::K)))
      | .new cells=>B9w s cells fun s'=>Mr s' o.dst (.box s.next 0) (run T wr n (.ops q all rest::K))
      | .own ps c=>A6b ps (Qm s c fun s'=>Mr s' o.dst (.own s.next) (run T wr n (.ops q all rest::K)))
      | .mem bx=>B9t s bx fun s=>Mr s o.dst .any (run T wr n (.ops q all rest::K))
    |some (j,true)=>
     match L6 all j with
     |some d=>match I4 s.ac d with
      | .c (.val (.bool b))=> .ite b
        (Mr s (some d) (.v (.bool true)) (run T wr n (.ops q all ({o with guard:=none}::rest)::K)))
        (Mr s (some d) (.v (.bool false)) fun s=>Mr s o.dst (Sb all o.dst) (run T wr n (.ops q all rest::K)))
      | .tup []=>Mr s o.dst (Sb all o.dst) (run T wr n (.ops q all rest::K))
      |_=>N2 s (.aj (.ops q all (o::rest)::K))
     |none=>N2 s (.aj (.ops q all (o::rest)::K))
    |some (j,false)=>
     match L6 all j with
     |some d=>match I4 s.ac d with
      | .c (.val (.bool b))=> .ite b
        (Mr s (some d) (.v (.bool true)) fun s=>Mr s o.dst (Sb all o.dst) (run T wr n (.ops q all rest::K)))
        (Mr s (some d) (.v (.bool false)) (run T wr n (.ops q all ({o with guard:=none}::rest)::K)))
      | .tup []=>Mr s o.dst (Sb all o.dst) (run T wr n (.ops q all rest::K))
      |_=>N2 s (.aj (.ops q all (o::rest)::K))
     |none=>N2 s (.aj (.ops q all (o::rest)::K))
def P7 (T:List (TypeId×TI)) (wr:Bool) (n:Nat) (K:List KI) (s:AS):Out:=N2 s (run T wr n K)
inductive Qz (w:World) (A:Nat→Prop):Ad→Value→Prop
 |val (x:Value) (h:x.oneCell'=true):Qz w A (.val x) x
 |nil (es:Nat) (row:Nat→List Ad):Qz w A (.sl 0 es row) (.slice none 0 0)
 |emp (es:Nat) (row:Nat→List Ad) (a:Addr):Qz w A (.sl 0 es row) (.slice (some a) 0 0)
 |sl (n es:Nat) (row:Nat→List Ad) (b off cap:Nat) (u:Nat→Nat→Value) (hA:0<n * es→¬ A b) (hn:n≤cap) (hc:cap≤maxLen)
   (hl:∀i,i<n→(row i).length=es) (hu:∀i j,i<n→j<es→w.cell? ⟨b,off+i * es+j,none⟩=some (u i j))
   (hr:∀i j c,i<n→(row i)[j]? =some c→Qz w A c (u i j)):Qz w A (.sl n es row) (.slice (some ⟨b,off,none⟩) n cap)
def Ed (w w':World):Prop:=w.heap.size≤w'.heap.size∧∀k,k<w.heap.size→w'.heap[k]? =w.heap[k]?
theorem Ed.refl (w:World):Ed w w:=⟨Bu _,fun _ _=>rfl⟩
variable {w : World} {w' : World}
theorem Ed.trans {w'':World}(h:Ed w w')(h':Ed w' w''):Ed w w'':=
 ⟨G0 h.1 h'.1,fun k hk=>(h'.2 k (Kk hk h.1)).trans (h.2 k hk)⟩
theorem Ed.cell (h:Ed w w'){a:Addr}{v:Value}(hc:w.cell? a=some v):w'.cell? a=some v:=
 (World.cell?_of_block (h.2 a.block (World.block_lt_of_cell? w a hc))).trans hc
variable {b : Nat}
theorem C71 {o:Nat}{v:Value}(h:w.cell? ⟨b,o,none⟩=some v):b<w.heap.size:=World.block_lt_of_cell? w ⟨b,o,none⟩ h
variable {A : Nat → Prop} {c : Ad}
theorem Qz.move {A':Nat→Prop}{v:Value}(h:Qz w A c v)(hk:∀b,¬ A b→b<w.heap.size→w'.heap[b]? =w.heap[b]?)(hA:∀b,b<w.heap.size→A' b→A b):Qz w' A' c v:=by
 induction h with
 |val x h=>exact .val x h
 |nil es row=>exact .nil es row
 |emp es row a=>exact .emp es row a
 |sl n es row b off cap u hAb hn hc hl hu hr ih=>
  by_cases h0:0<n * es
  ·have hn0:0<n:=Nat.pos_of_mul_pos_right h0
   have he0:0<es:=Nat.pos_of_mul_pos_left h0;have hb:b<w.heap.size:=C71 (hu 0 0 hn0 he0);have hnA:=hAb h0;refine .sl n es row b off cap u (fun _ h=>hnA (hA b hb h)) hn hc hl (fun i j hi hj=>?_) (fun i j c hi hj=>ih i j c hi hj);rw [←hu i j hi hj];exact World.cell?_of_block (hk b hnA hb)
  refine .sl n es row b off cap u (fun h=>absurd h h0) hn hc hl (fun i j hi hj=>?_) (fun i j c hi hj=>ih i j c hi hj);exact absurd (Nat.mul_pos (Nat.lt_of_le_of_lt (Ff _) hi) (Nat.lt_of_le_of_lt (Ff _) hj)) h0
theorem Qz.one {v:Value}(h:Qz w A c v):v.oneCell'=true:=by
 cases h<;>first|assumption|rfl
inductive Bz (w:World):Ad→Value→List Nat→Prop
 |val (x:Value) (h:x.oneCell'=true):Bz w (.val x) x []
 |nil (es:Nat) (row:Nat→List Ad):Bz w (.sl 0 es row) (.slice none 0 0) []
 |emp (es:Nat) (row:Nat→List Ad) (b o:Nat):Bz w (.sl 0 es row) (.slice (some ⟨b,o,none⟩) 0 0) []
 |sl (n es:Nat) (row:Nat→List Ad) (b off cap:Nat) (ty:TypeId) (cells:Array Value) (fps:Nat→List Nat) (hn:n≤cap) (hc:cap≤maxLen)
   (hb:w.heap[b]? =some (.cells cells ty (0,0))) (hs:(off+cap) * es≤cells.size)
   (hl:∀i,i<n→(row i).length=es)
   (hr:∀i j c,i<n→(row i)[j]? =some c→Bz w c (cells.getD ((off+i) * es+j) undef) (fps (i * es+j))):
   Bz w (.sl n es row) (.slice (some ⟨b,off * es,none⟩) n cap) (b::(List.range (n * es)).flatMap fps)
variable {fp : List Nat}
theorem Bz.one {v:Value}(h:Bz w c v fp):v.oneCell'=true:=by
 cases h<;>first|assumption|rfl
variable {n : Nat} {k : Nat}
theorem Dp {fps:Nat→List Nat}(h:k<n)(hb:b∈fps k):b∈(List.range n).flatMap fps:=
 E7.2 ⟨k,Fk.2 h,hb⟩
variable {i : Nat} {j : Nat}
theorem Gs {es:Nat}(hi:i<n)(hj:j<es):i * es+j<n * es:=by
 have:i * es+es≤n * es:=by rw [←Pj];exact Kl es hi
 omega
theorem Bz.move {v:Value}(h:Bz w c v fp)(hk:∀b∈fp,w'.heap[b]? =w.heap[b]?):Bz w' c v fp:=by
 induction h with
 |val x h=>exact .val x h
 |nil es row=>exact .nil es row
 |emp es row b o=>exact .emp es row b o
 |sl n es row b off cap ty cells fps hn hc hb hs hl hr ih=>
  refine .sl n es row b off cap ty cells fps hn hc (by rw [hk b Ef];exact hb) hs hl (fun i j c hi hj=>ih i j c hi hj ?_);intro b' hb';have hj':j<es:=by have:=(Cu.1 hj).1;rw [hl i hi] at this;exact this
  exact hk b' (Cq _ (Dp (Gs hi hj') hb'))
theorem Bz.lt {v:Value}(h:Bz w c v fp):∀b∈fp,b<w.heap.size:=by
 induction h with
 |val x h=>simp
 |nil es row=>simp
 |emp es row b o=>simp
 |sl n es row b off cap ty cells fps hn hc hb hs hl hr ih=>
  intro b' hb'
  rcases C7.1 hb' with rfl|hb'
  ·exact (T2.1 hb).1
  obtain ⟨k,hk,hk'⟩:=E7.1 hb';have hk:=Fk.1 hk;have he:0<es:=Z2 (fun h=>by subst h;simp at hk);have hi:k / es<n:=Nat.div_lt_of_lt_mul (by rw [Qu];exact hk);have hj:k % es<(row (k / es)).length:=by rw [hl _ hi];exact Ub _ he
  refine ih (k / es) (k % es) _ hi (Dh hj) b' ?_;rw [Qu,Nat.div_add_mod];exact hk'
theorem Bz.rep {v:Value}(h:Bz w c v fp)(hA:∀b∈fp,¬ A b):Qz w A c v:=by
 induction h with
 |val x h=>exact .val x h
 |nil es row=>exact .nil es row
 |emp es row b o=>exact .emp es row ⟨b,o,none⟩
 |sl n es row b off cap ty cells fps hn hc hb hs hl hr ih=>
  refine .sl n es row b (off * es) cap (fun i j=>cells.getD ((off+i) * es+j) undef) (fun _=>hA b Ef) hn hc hl (fun i j hi hj=>?_) (fun i j c hi hj=>ih i j c hi hj ?_)
  ·have h1:off * es+i * es+j=(off+i) * es+j:=by rw [G1]
   have h2:(off+i) * es+j<cells.size:=by
    have:=Gs (show off+i<off+cap by omega) hj
    omega
   rw [h1,cell_of_row w b _ cells ty (0,0) hb]
   simp [Array.getD,h2]
  intro b' hb';have hj':j<es:=by have:=(Cu.1 hj).1;rw [hl i hi] at this;exact this
  exact hA b' (Cq _ (Dp (Gs hi hj') hb'))
structure Fl where
 ov:Nat→Value
 fp:Nat→List Nat
def D2l (v:Value):Nat:=
 match v with
 | .pointer (some a)=>a.block
 |_=>0
def Fl.β (E:Fl) (k:Nat):Nat:=D2l (E.ov k)
variable {E : Fl}
theorem Fl.β_of {E':Fl}(h:E'.ov k=E.ov j):E'.β k=E.β j:=by unfold Fl.β;rw [h]
inductive D0 (E:Fl) (w:World) (A:Nat→Prop) (N:Nat):AV→Value→Prop
 |any (v:Value):D0 E w A N .any v
 |c {x:Ad} {v:Value} (h:Qz w A x v):D0 E w A N (.c x) v
 |own {k:Nat} (hk:k<N):D0 E w A N (.own k) (E.ov k)
 |box {k:Nat} (off:Nat) (hk:k<N):D0 E w A N (.box k off) (.pointer (some ⟨E.β k,off,none⟩))
 |agg {xs:List AV} (vs:List Value) (hl:vs.length=xs.length) (h:∀i x,xs[i]? =some x→D0 E w A N x (vs.getD i undef)):D0 E w A N (.agg xs) (.agg vs.toArray)
 |el {n es:Nat} {row:Nat→List Ad} {i:Int} (off b o cap:Nat) (hs:Qz w A (.sl n es row) (.slice (some ⟨b,o,none⟩) n cap)) (h0:0≤i) (hi:i<(n:Int)):
   D0 E w A N (.el n es row i off) (.pointer (some ⟨b,o+i.toNat * es+off,none⟩))
 |oel {k es:Nat} {i:Int} (off b o n cap:Nat) (hk:k<N) (hv:E.ov k= .slice (some ⟨b,o,none⟩) n cap) (h0:0≤i) (hi:i<(n:Int)):
   D0 E w A N (.oel k es i off) (.pointer (some ⟨b,o+i.toNat * es+off,none⟩))
 |tup {xs:List AV} (vs:List Value) (hl:vs.length=xs.length) (h:∀i x,xs[i]? =some x→D0 E w A N x (vs.getD i undef)):D0 E w A N (.tup xs) (.tuple vs.toArray)
 |fn {f:FuncId} {xs:List AV} (vs:List Value) (hl:vs.length=xs.length) (h:∀i x,xs[i]? =some x→D0 E w A N x (vs.getD i undef)):D0 E w A N (.fn f xs) (.func (.func f) #[] vs.toArray)
variable {N : Nat} {x : AV}
theorem D0.move {E':Fl}{A':Nat→Prop}{N':Nat}{v:Value}(h:D0 E w A N x v)(hN:N≤N')(hE:∀k,k<N→E'.β k=E.β k∧E'.ov k=E.ov k)(hk:∀b,¬ A b→b<w.heap.size→w'.heap[b]? =w.heap[b]?)(hA:∀b,b<w.heap.size→A' b→A b):D0 E' w' A' N' x v:=by
 induction h with
 |any v=>exact .any v
 |c h=>exact .c (h.move hk hA)
 |own hk=>rw [←(hE _ hk).2];exact .own (Kk hk hN)
 |box off hk=>rw [←(hE _ hk).1];exact .box off (Kk hk hN)
 |agg vs hl h ih=>exact .agg vs hl ih
 |el off b o cap hs h0 hi=>exact .el off b o cap (hs.move hk hA) h0 hi
 |oel off b o n cap hk hv h0 hi=>exact .oel off b o n cap (Kk hk hN) (by rw [(hE _ hk).2];exact hv) h0 hi
 |tup vs hl h ih=>exact .tup vs hl ih
 |fn vs hl h ih=>exact .fn vs hl ih
theorem D0.cell1 {v:Value}(h:D0 E w A N x v)(hc:x.cellLike=true)(hO:∀k,k<N→(E.ov k).oneCell'=true):v.oneCell'=true:=by
 cases h<;>first|rfl|(simp [AV.cellLike] at hc;done)|(rename_i h;exact h.one)|(rename_i h;exact hO _ h)
def AS.ag (s:AS) (E:Fl) (b:Nat):Prop:=(∃x∈s.aw,E.β x.key=b)∨∃y∈s.own,b∈E.fp y.key
structure Er where
 w0:World
 may:Nat→Prop
structure Er.rel (B:Er) (w:World):Prop where
 os:w.os=B.w0.os
 tape:w.tape=B.w0.tape
 output:w.output=B.w0.output
 size:B.w0.heap.size≤w.heap.size
 block:∀k,k<B.w0.heap.size→¬ B.may k→w.heap[k]? =B.w0.heap[k]?
def Er.fresh (B:Er) (b:Nat):Prop:=B.w0.heap.size≤b∨B.may b
structure AS.is (s:AS) (B:Er) (E:Fl) (a:Act) (w:World):Prop where
 defers:a.defers=[]
 ak:∀p∈s.ak,p.1<s.next∧E.ov p.1=p.2
 size:a.tmps.size=s.ac.length
 ac:∀i x,s.ac[i]? =some x→D0 E w (s.ag E) s.next x (a.tmps.getD i undef)
 aw:∀x∈s.aw,x.key<s.next∧∃vs ty,w.heap[E.β x.key]? =some (.cells vs ty (0,0))∧vs.size=x.cells.length∧
  ∀i y,x.cells[i]? =some y→D0 E w (s.ag E) s.next y (vs.getD i undef)
 boxes2:∀x∈s.aw,∀y∈s.aw,E.β x.key=E.β y.key→x.key=y.key
 keys:(s.aw.map (·.key)).Nodup
 own:∀y∈s.own,y.key<s.next∧Bz w y.cell (E.ov y.key) (E.fp y.key)∧(E.fp y.key).Nodup
 ownkeys:(s.own.map (·.key)).Nodup
 sep:∀y∈s.own,∀z∈s.own,y.key≠z.key→∀b∈E.fp y.key,b∉E.fp z.key
 sepB:∀x∈s.aw,∀y∈s.own,E.β x.key∉E.fp y.key
 one:∀k,k<s.next→(E.ov k).oneCell'=true
 base:B.rel w
 fresh:∀b,s.ag E b→B.fresh b
variable {s : AS} {B : Er} {a : Act}
theorem AS.is.avoid_lt (h:s.is B E a w)(hb:s.ag E b):b<w.heap.size:=by
 rcases hb with ⟨x,hx,rfl⟩|⟨y,hy,hb⟩
 ·obtain ⟨_,vs,ty,h1,_⟩:=h.aw x hx
  exact (T2.1 h1).1
 exact (h.own y hy).2.1.lt b hb
theorem Bj (l:List AV)(i:Nat)(x:AV):(Cd l i x).length=l.length:=by
 induction l generalizing i with
 |nil=>rfl
 |cons y r ih=>cases i<;>simp [Cd,ih]
theorem Cr (l:List AV)(i:Nat)(x:AV)(j:Nat):(Cd l i x)[j]? =if i=j∧j<l.length then some x else l[j]? :=by
 induction l generalizing i j with
 |nil=>simp [Cd]
 |cons y r ih=>
  cases i with
  |zero=>cases j<;>simp [Cd]
  |succ i=>cases j with
   |zero=>simp [Cd]
   |succ j=>simp [Cd,ih]
theorem Cb (l:List AV)(i:Nat):I4 l i=(l[i]?).getD .any:=by
 induction l generalizing i with
 |nil=>simp [I4]
 |cons y r ih=>cases i<;>simp [I4,ih]
theorem AS.is.put (h:s.is B E a w)(d:Option Tmp){v:Value}(hx:D0 E w (s.ag E) s.next x v):
  (s.put d x).is B E (a.put d v) w:=by
 cases d with
 |none=>exact h
 |some d=>
  refine ⟨h.defers,h.ak,?_,?_,h.aw,h.boxes2,h.keys,h.own,h.ownkeys,h.sep,h.sepB,h.one,h.base,h.fresh⟩
  ·simp [Act.put,AS.put,Bj,h.size]
  intro i y hy;simp only [AS.put,Cr] at hy;simp only [Act.put]
  by_cases hi:d=i∧i<s.ac.length
  ·rw [Ah hi] at hy
   obtain ⟨rfl,hl⟩:=hi;obtain rfl:x=y:=by simpa using hy
   have:d<a.tmps.size:=by rw [h.size];exact hl
   change D0 E w (s.ag E) s.next x _
   simpa [Array.getD,Z3,this] using hx
  rw [Ab hi] at hy;have hl:i<s.ac.length:=(Cu.1 hy).1;have hne:d≠i:=fun e=>hi ⟨e,hl⟩
  have hsz:i<a.tmps.size:=by rw [h.size];exact hl
  have:=h.ac i y hy
  change D0 E w (s.ag E) s.next y _
  simpa [Array.getD,Z3,hsz,B3a,hne] using this
theorem AS.is.ev (h:s.is B E a w)(o:Operand):D0 E w (s.ag E) s.next (s.ev o) (a.eval o):=by
 cases o with
 |tmp t=>
  simp only [AS.ev,Act.eval,Cb]
  by_cases hl:t<s.ac.length
  ·rw [Dh hl]
   exact h.ac t _ (Dh hl)
  rw [A71 (A70 hl)];exact .any _
 |const v=>
  simp only [AS.ev,Act.eval]
  cases v<;>first|exact .any _|exact .c (.val _ rfl)
 |global g=>exact .any _
 |func f=>exact .fn [] rfl Ef
def C0 (P:Program) (T:List (TypeId×TI)):Prop:=∀t i,find T t=some i→TI.of P t=some i
structure TI.Spec (P:Program) (t:TypeId) (i:TI) (f:TypeInfo) (d:TypeDesc) (z:Value):Prop where
 hf:P.info? t=some f
 hd:P.underlying t=some d
 hz:f.zero=some z
 size:f.size=i.size
 bytes:f.bytes=i.bytes
 cells:z.cells.toList=i.zero
 agg:i.agg=Ks d
 fields:i.fields=(match d with| .struct fs=>fs.toList.map fun F=>(F.offset,F.type)|_=>[])
 elem:i.elem=(match d with| .slice e=>some e|_=>none)
 str:i.str=(match d with| .string=>true|_=>false)
 flat:i.flat=(match P.eqGuardType P.depth t with|true=>none|false=>Xn P 10 t)
 one:Ks d=false→i.size=1
 zlen:i.zero.length=i.size
 zone:J5 i.zero=true
variable {t : TypeId}
theorem TI.of_spec {P:Program}{i:TI}(h:TI.of P t=some i):∃f d z,TI.Spec P t i f d z:=by
 unfold TI.of at h
 split at h
 ·rename_i f d hf hd
  split at h
  ·simp at h
  ·simp at h
  ·simp at h
  rename_i z hz h1 h2
  simp only [Em] at h;subst h;simp only [hz,Qv,Uc,Cj] at h2;refine ⟨f,d,z,hf,hd,hz,rfl,rfl,rfl,rfl,by cases d<;>rfl,by cases d<;>rfl,by cases d<;>rfl,rfl,fun ha=>?_,by simpa using h2.1,h2.2⟩
  rw [ha] at h1
  simpa using h1
 simp at h
variable {P : Program} {T : List (TypeId × TI)}
theorem B9 {i:TI}(h:TI.of P t=some i)(w:World):(sizeOf t).run P w= .ok i.size w:=by
 obtain ⟨f,d,z,S⟩:=TI.of_spec h
 simp [sizeOf,typeInfo,S.hf,S.size]
theorem W4 {i:TI}(h:TI.of P t=some i):∃z,z.cells.toList=i.zero∧∀w,(zeroValue t).run P w= .ok z w:=by
 obtain ⟨f,d,z,S⟩:=TI.of_spec h;exact ⟨z,S.cells,fun w=>by simp [zeroValue,typeInfo,S.hf,S.hz]⟩
theorem B2t {i:TI}(h:TI.of P t=some i)(w:World):(isAgg t).run P w= .ok i.agg w:=by
 obtain ⟨f,d,z,S⟩:=TI.of_spec h;have hd:=S.hd;rw [S.agg]
 cases d<;>simp [isAgg,run_underlying hd,Ks]
theorem C1 {e:TypeId}{i:TI}(h:TI.of P t=some i)(he:i.elem=some e):P.underlying t=some (.slice e):=by
 obtain ⟨f,d,z,S⟩:=TI.of_spec h;have hd:=S.hd;rw [S.elem] at he
 cases d<;>simp at he
 subst he;exact hd
theorem Qs {i:TI}(h:TI.of P t=some i)(hs:i.str=true):P.underlying t=some .string:=by
 obtain ⟨f,d,z,S⟩:=TI.of_spec h;have hd:=S.hd;rw [S.str] at hs
 cases d<;>simp at hs
 exact hd
theorem Iz (b o n:Nat):(⟨b,o,none⟩:Addr).add n=⟨b,o+n,none⟩:=by
 unfold Addr.add
 split<;>simp_all
theorem J7 {i:TI}(h:TI.of P t=some i)(w:World)(b o:Nat)(vs:List Value)(hl:vs.length=i.size)(hc:∀j,j<i.size→w.cell? ⟨b,o+j,none⟩=some (vs.getD j undef)):
  (loadVar t ⟨b,o,none⟩).run P w= .ok (match i.agg with|true=> .agg vs.toArray|false=>vs.getD 0 undef) w:=by
 simp only [loadVar,Sem.run_bind,B2t h,Result.andThen_ok]
 cases hag:i.agg with
 |true=>
  have:(loadCells ⟨b,o,none⟩ vs.length).run P w= .ok vs.toArray w:=by
   refine run_loadCells_list (P:=P) w _ vs (fun j v hv=>?_);have hj:j<vs.length:=(Cu.1 hv).1;rw [Iz,hc j A7]
   simp [List.getD,hv]
  simp [B9 h,←hl,this]
 |false=>
  obtain ⟨f,d,z,S⟩:=TI.of_spec h;have h1:=S.one (by rw [←S.agg];exact hag)
  have:=hc 0 A7
  simp only [T3] at this
  simp [this]
theorem A69 (l:List AV)(off n:Nat)(h:off+n≤l.length):(seg l off n).length=n:=by
 simp [seg];omega
theorem C9z (l:List AV)(off n j:Nat)(h:j<n):(seg l off n)[j]? =l[off+j]? :=by
 simp [seg,h]
theorem Vc (cells:List AV)(vs:List Value)(off:Nat)(i:TI)(hl:off+i.size≤cells.length)(h:∀j x,cells[j]? =some x→D0 E w A N x (vs.getD j undef)):
  D0 E w A N (O2 i cells off) (match i.agg with|true=> .agg ((List.range i.size).map fun j=>vs.getD (off+j) undef).toArray|false=>vs.getD off undef):=by
 unfold O2
 cases hag:i.agg with
 |true=>
  refine .agg _ (by simp [A69 _ _ _ hl]) (fun j x hj=>?_)
  have hj':j<i.size:=by
   have:=(Cu.1 hj).1
   rwa [A69 _ _ _ hl] at this
  rw [C9z _ _ _ _ hj'] at hj
  have:=h _ _ hj
  simpa [List.getD,hj'] using this
 |false=>
  simp only [Cb]
  by_cases ho:off<cells.length
  ·rw [Dh ho]
   exact h off _ (Dh ho)
  rw [A71 (A70 ho)];exact .any _
variable {l : List Bx}
theorem F9 {b:Bx}(h:Fq l k=some b):b∈l∧b.key=k:=by
 induction l with
 |nil=>simp [Fq] at h
 |cons x r ih=>
  unfold Fq at h
  split at h
  ·rename_i hk
   obtain rfl:=Bv h;exact ⟨by simp,F7 hk⟩
  exact ⟨Cq _ (ih h).1,(ih h).2⟩
theorem Ca {l:List Ow}(h:Bm l k=some c):⟨k,c⟩∈l:=by
 induction l with
 |nil=>simp [Bm] at h
 |cons x r ih=>
  unfold Bm at h
  split at h
  ·rename_i hk
   obtain rfl:=Bv h;obtain rfl:=F7 hk
   simp
  exact Cq _ (ih h)
theorem Bn (vs:Array Value)(j:Nat)(d:Value):vs.toList.getD j d=vs.getD j d:=by
 simp only [Array.getD,List.getD]
 split<;>simp_all
theorem AS.is.load (h:s.is B E a w){i:TI}(ht:TI.of P t=some i){off:Nat}{b:Bx}(hb:Fq s.aw k=some b)(hl:off+i.size≤b.cells.length):∃v,(∀w',Ed w w'→(Instr.loadAt t (.pointer (some ⟨E.β k,off,none⟩))).run P w'= .ok v w')∧D0 E w (s.ag E) s.next (O2 i b.cells off) v:=by
 obtain ⟨hm,rfl⟩:=F9 hb;obtain ⟨_,vs,ty,hh,hs,hd⟩:=h.aw b hm;refine ⟨_,fun w' hw'=>?_,Vc b.cells vs.toList off i hl (fun j x hj=>by rw [Bn];exact hd j x hj)⟩
 have:=J7 ht w' (E.β b.key) off ((List.range i.size).map fun j=>vs.toList.getD (off+j) undef) Ef (fun j hj=>by
  refine hw'.cell ?_;rw [cell_of_row w _ _ vs ty (0,0) hh]
  have:off+j<vs.size:=by omega
  simp [List.getD,this,hj])
 simp only [Instr.loadAt,Instr.sureAddr,Sem.run_bind,Sem.run_pure,Result.andThen_ok,this]
 cases hag:i.agg with
 |true=>rfl
 |false=>
  obtain ⟨f,d,z,S⟩:=TI.of_spec ht;have h1:=S.one (by rw [←S.agg];exact hag)
  simp [h1,List.getD]
theorem C8w {i:TI}(ht:TI.of P t=some i){es:Nat}{row:Nat→List Ad}{j:Int}{off o cap:Nat}(hs:Qz w A (.sl n es row) (.slice (some ⟨b,o,none⟩) n cap))(h0:0≤j)(hj:j<(n:Int))(hl:off+i.size≤(row j.toNat).length):
  ∃v,(∀w',Ed w w'→(Instr.loadAt t (.pointer (some ⟨b,o+j.toNat * es+off,none⟩))).run P w'= .ok v w')∧D0 E w A N (O2 i ((row j.toNat).map AV.ofCell) off) v:=by
 obtain ⟨m,rfl⟩:=Ud h0;simp only [Cp,Z4] at *
 cases hs with
 |emp=>omega
 |sl _ _ _ _ _ _ u hA hn hc hll hu hr=>
  have hes:=hll m hj;refine ⟨_,fun w' hw'=>?_,Vc ((row m).map AV.ofCell) ((List.range es).map (u m)) off i (by simpa using hl) (fun k x hk=>?_)⟩
  ·have:=J7 ht w' b (o+m * es+off) ((List.range i.size).map fun k=>((List.range es).map (u m)).getD (off+k) undef) Ef (fun k hk=>by
    have h1:off+k<es:=by omega
    have:=hw'.cell (hu m (off+k) hj h1)
    rw [show o+m * es+off+k=o+m * es+(off+k) by omega,this]
    simp [List.getD,hk,h1])
   simp only [Instr.loadAt,Instr.sureAddr,Sem.run_bind,Sem.run_pure,Result.andThen_ok,this]
   cases hag:i.agg with
   |true=>rfl
   |false=>
    obtain ⟨f,d,z,S⟩:=TI.of_spec ht;have h1:=S.one (by rw [←S.agg];exact hag)
    simp [h1,List.getD]
  simp only [Ec,E9] at hk;obtain ⟨c,hc',rfl⟩:=hk;have hk':k<es:=by have:=(Cu.1 hc').1;omega
  have:=hr m k c hj hc'
  simpa [List.getD,hk',AV.ofCell] using D0.c (E:=E) (N:=N) this
theorem Rb {v:Value}(h:D0 E w A N x v)(hc:M4 x.cellsOf=true)(hO:∀k,k<N→(E.ov k).oneCell'=true):
  v.cells.size=x.cellsOf.length∧(∀j y,x.cellsOf[j]? =some y→D0 E w A N y (v.cells.getD j undef))∧∀y∈v.cells.toList,y.oneCell'=true:=by
 have all:∀(l:List AV),M4 l=true→∀y∈l,y.cellLike=true:=by
  intro l
  induction l with
  |nil=>simp
  |cons x r ih=>
   intro h;unfold M4 at h
   split at h
   ·rename_i hx
    intro y hy
    rcases C7.1 hy with rfl|hy
    ·exact hx
    exact ih h y hy
   simp at h
 have hall:=all _ hc
 have single:x.cellsOf=[x]→v.cells= #[v]→v.cells.size=x.cellsOf.length∧(∀j y,x.cellsOf[j]? =some y→D0 E w A N y (v.cells.getD j undef))∧∀y∈v.cells.toList,y.oneCell'=true:=by
  intro e1 e2;rw [e1] at hall;have h1:=h.cell1 (hall x Ef) hO;rw [e1,e2];refine ⟨rfl,fun j y hj=>?_,by simpa using h1⟩
  cases j with
  |zero=>obtain rfl:=Bv hj;simpa [Array.getD] using h
  |succ j=>simp at hj
 cases h with
 |any v=>simp [AV.cellsOf,M4,AV.cellLike] at hc
 | @agg xs vs hl h=>
  simp only [AV.cellsOf] at *;refine ⟨by simp [Value.cells,hl],fun j y hj=>?_,?_⟩
  ·have e:(Value.agg vs.toArray).cells.getD j undef=vs.getD j undef:=by rw [←Bn];rfl
   rw [e];exact h j y hj
  intro y hy;simp only [Value.cells] at hy;obtain ⟨j,hj⟩:=List.mem_iff_getElem?.1 hy;have hj':j<xs.length:=by rw [←hl];exact (Cu.1 (by simpa using hj)).1
  have:=h j _ (Dh hj')
  have h1:=this.cell1 (hall _ (A72 hj')) hO
  simpa [List.getD,(show vs[j]? =some y by simpa using hj)] using h1
 |tup vs hl h=>simp [AV.cellsOf,M4,AV.cellLike] at hc
 |c h=>exact single rfl (by have:=h.one;cases v<;>first|rfl|simp [Value.oneCell'] at this)
 |own hk=>exact single rfl (by have:=hO _ hk;revert this;generalize E.ov _=v;intro this;cases v<;>first|rfl|simp [Value.oneCell'] at this)
 |box off hk=>exact single rfl rfl
 |el off b o cap hs h0 hi=>exact single rfl rfl
 |oel off b o n cap hk hv h0 hi=>exact single rfl rfl
 |fn vs hl h=>exact single rfl rfl
def Fl.with (E:Fl) (n b:Nat):Fl:= {E with ov:=fun k=>if k=n then .pointer (some ⟨b,0,none⟩) else E.ov k}
theorem Fl.with_self (E:Fl)(n b:Nat):(E.with n b).β n=b:=by simp [Fl.with,Fl.β,D2l]
theorem Fl.with_keep (E:Fl)(n b:Nat):∀k,k<n→(E.with n b).β k=E.β k∧(E.with n b).ov k=E.ov k:=by
 intro k hk
 have:k≠n:=by omega
 have h:(E.with n b).ov k=E.ov k:=by simp [Fl.with,this]
 exact ⟨Fl.β_of h,h⟩
theorem Ho (w:World)(o:Obj)(b:Nat)(h:b<w.heap.size):(w.alloc o).heap[b]? =w.heap[b]? :=by
 show (w.heap.push o)[b]? =_
 rw [Array.getElem?_push,Ab A7]
def AS.newBox (s:AS) (cells:List AV):AS:= {s with aw:= {key:=s.next,cells}::s.aw,next:=s.next+1}
theorem AS.is.newBox (h:s.is B E a w)(cells:List AV)(vs:Array Value)(ty:TypeId)(hs:vs.size=cells.length)(hd:∀j y,cells[j]? =some y→D0 E w (s.ag E) s.next y (vs.getD j undef)):
  (s.newBox cells).is B (E.with s.next w.heap.size) a (w.alloc (.cells vs ty))∧
   D0 (E.with s.next w.heap.size) (w.alloc (.cells vs ty)) ((s.newBox cells).ag (E.with s.next w.heap.size)) (s.newBox cells).next (.box s.next 0) (.pointer (some ⟨w.heap.size,0,none⟩)):=by
 have kb:∀x∈s.aw,(E.with s.next w.heap.size).β x.key=E.β x.key:=fun x hx=>(Fl.with_keep E _ _ _ (h.aw x hx).1).1
 have av:∀b,(s.newBox cells).ag (E.with s.next w.heap.size) b↔b=w.heap.size∨s.ag E b:=by
  intro b
  constructor
  ·rintro (⟨x,hx,rfl⟩|⟨y,hy,hb⟩)
   ·rcases C7.1 hx with rfl|hx
    ·left;exact Fl.with_self _ _ _
    right;left;exact ⟨x,hx,(kb x hx).symm⟩
   right;right;exact ⟨y,hy,hb⟩
  rintro (rfl|⟨x,hx,rfl⟩|⟨y,hy,hb⟩)
  ·left;exact ⟨_,Hq,Fl.with_self _ _ _⟩
  ·left;exact ⟨x,Cq _ hx,kb x hx⟩
  right;exact ⟨y,hy,hb⟩
 have mv:∀x v,D0 E w (s.ag E) s.next x v→D0 (E.with s.next w.heap.size) (w.alloc (.cells vs ty)) ((s.newBox cells).ag (E.with s.next w.heap.size)) (s.newBox cells).next x v:=
  fun x v hx=>hx.move (Z5 _) (Fl.with_keep E _ _) (fun b _ hb=>Ho w _ b hb) (fun b hb hav=>by
   rcases (av b).1 hav with rfl|h
   ·omega
   exact h)
 refine ⟨⟨h.defers,fun p hp=>⟨T4 (h.ak p hp).1,(Fl.with_keep E _ _ _ (h.ak p hp).1).2.trans (h.ak p hp).2⟩,h.size,fun i x hx=>mv _ _ (h.ac i x hx),?_,?_,?_,?_,h.ownkeys,?_,?_,?_,?_,?_⟩,?_⟩
 ·intro x hx
  rcases C7.1 hx with rfl|hx
  ·refine ⟨Ru _,vs,ty,?_,hs,fun j y hj=>mv _ _ (hd j y hj)⟩
   have:(E.with s.next w.heap.size).β s.next=w.heap.size:=Fl.with_self _ _ _
   rw [this];exact heap_alloc_new w _
  obtain ⟨h1,vs',ty',h2,h3,h4⟩:=h.aw x hx;refine ⟨T4 h1,vs',ty',?_,h3,fun j y hj=>mv _ _ (h4 j y hj)⟩;rw [kb x hx,Ho w _ _ (T2.1 h2).1];exact h2
 ·intro x hx y hy he
  rcases C7.1 hx with rfl|hx<;>rcases C7.1 hy with rfl|hy
  ·rfl
  ·exfalso
   rw [kb y hy] at he;simp only [Fl.with_self] at he
   have:=h.avoid_lt (.inl ⟨y,hy,rfl⟩)
   omega
  ·exfalso
   rw [kb x hx] at he;simp only [Fl.with_self] at he
   have:=h.avoid_lt (.inl ⟨x,hx,rfl⟩)
   omega
  rw [kb x hx,kb y hy] at he;exact h.boxes2 x hx y hy he
 ·simp only [AS.newBox,I8,Ip]
  refine ⟨fun hm=>?_,h.keys⟩;obtain ⟨x,hx,e⟩:=Ea.1 hm
  have:=(h.aw x hx).1
  omega
 ·intro y hy
  obtain ⟨h1,h2,h3⟩:=h.own y hy;refine ⟨T4 h1,?_,h3⟩;rw [(Fl.with_keep E _ _ _ h1).2];exact h2.move (fun b hb=>Ho w _ b (h2.lt b hb))
 ·exact h.sep
 ·intro x hx y hy hb
  rcases C7.1 hx with rfl|hx
  ·simp only [Fl.with_self] at hb
   have:=(h.own y hy).2.1.lt _ hb
   omega
  rw [kb x hx] at hb;exact h.sepB x hx y hy hb
 ·intro k hk
  by_cases e:k=s.next
  ·subst e;simp [Fl.with,Value.oneCell']
  have hk':k<s.next:=by have:k<s.next+1:=hk;omega
  rw [(Fl.with_keep E _ _ _ hk').2];exact h.one k hk'
 ·refine ⟨h.base.os,h.base.tape,h.base.output,by simp;have:=h.base.size;omega,fun k hk hm=>?_⟩
  rw [Ho w _ _ (Kk hk h.base.size)];exact h.base.block k hk hm
 ·intro b hb
  rcases (av b).1 hb with rfl|hb
  ·exact .inl h.base.size
  exact h.fresh b hb
 have e:(E.with s.next w.heap.size).β s.next=w.heap.size:=Fl.with_self _ _ _
 have:=D0.box (E:=E.with s.next w.heap.size) (w:=w.alloc (.cells vs ty)) (A:=(s.newBox cells).ag (E.with s.next w.heap.size)) (N:=s.next+1) (k:=s.next) 0 (Ru _)
 rw [e] at this;exact this
theorem Fb {cs:List AV}{x:Bx}(hx:x∈Fe l k cs)(hn:(l.map (·.key)).Nodup):(x.key=k∧x.cells=cs∧∃y∈l,y.key=k)∨(x∈l∧x.key≠k):=by
 induction l with
 |nil=>simp [Fe] at hx
 |cons y r ih=>
  simp only [I8,Ip] at hn;unfold Fe at hx
  split at hx
  ·rename_i hk
   have hk:=F7 hk
   rcases C7.1 hx with rfl|hx
   ·exact .inl ⟨hk,rfl,y,by simp,hk⟩
   refine .inr ⟨Cq _ hx,fun e=>hn.1 ?_⟩
   exact Ea.2 ⟨x,hx,by rw [e,hk]⟩
  rename_i hk
  rcases C7.1 hx with rfl|hx
  ·exact .inr ⟨by simp,fun e=>by rw [e] at hk;simp at hk⟩
  rcases ih hx hn.2 with ⟨h1,h2,z,hz,h3⟩|⟨h1,h2⟩
  ·exact .inl ⟨h1,h2,z,Cq _ hz,h3⟩
  exact .inr ⟨Cq _ h1,h2⟩
theorem Qt (l:List Bx)(k:Nat)(cs:List AV):(Fe l k cs).map (·.key)=l.map (·.key):=by
 induction l with
 |nil=>rfl
 |cons y r ih=>
  unfold Fe
  split
  ·rfl
  simp [ih]
theorem B01 {cs:List AV}{x:Bx}(hx:x∈l):∃y∈Fe l k cs,y.key=x.key:=by
 have:x.key∈(Fe l k cs).map (·.key):=by rw [Qt];exact Ea.2 ⟨x,hx,rfl⟩
 obtain ⟨y,hy,e⟩:=Ea.1 this;exact ⟨y,hy,e⟩
theorem Fx (w:World)(g k:Nat)(cs:Array Value)(h:k≠g):(w.setRow g cs).heap[k]? =w.heap[k]? :=by
 simp only [World.setRow,Array.getElem?_modify];rw [Ab A7]
theorem AS.is.setBox (h:s.is B E a w){b:Bx}(hb:Fq s.aw k=some b)(cells:List AV)(vs:Array Value)(hs:vs.size=cells.length)(hd:∀j y,cells[j]? =some y→D0 E w (s.ag E) s.next y (vs.getD j undef)):
  ({s with aw:=Fe s.aw k cells}:AS).is B E a (w.setRow (E.β k) vs):=by
 obtain ⟨hm,rfl⟩:=F9 hb;obtain ⟨hlt,vs0,ty0,hh0,_,_⟩:=h.aw b hm
 have av:∀c,({s with aw:=Fe s.aw b.key cells}:AS).ag E c↔s.ag E c:=by
  intro c
  constructor
  ·rintro (⟨x,hx,rfl⟩|h)
   ·rcases Fb hx h.keys with ⟨h1,_,y,hy,h2⟩|⟨h1,_⟩
    ·exact .inl ⟨y,hy,by rw [h1,h2]⟩
    exact .inl ⟨x,h1,rfl⟩
   exact .inr h
  rintro (⟨x,hx,rfl⟩|h)
  ·obtain ⟨y,hy,e⟩:=B01 (k:=b.key) (cs:=cells) hx
   exact .inl ⟨y,hy,by rw [e]⟩
  exact .inr h
 have hav:s.ag E (E.β b.key):= .inl ⟨b,hm,rfl⟩
 have mv:∀x v,D0 E w (s.ag E) s.next x v→D0 E (w.setRow (E.β b.key) vs) (({s with aw:=Fe s.aw b.key cells}:AS).ag E) s.next x v:=
  fun x v hx=>hx.move (Bu _) (fun _ _=>⟨rfl,rfl⟩) (fun c hc _=>Fx w _ _ _ (fun e=>hc (e▸hav))) (fun c _ hc=>(av c).1 hc)
 refine ⟨h.defers,h.ak,h.size,fun i x hx=>mv _ _ (h.ac i x hx),?_,?_,?_,?_,h.ownkeys,h.sep,?_,h.one,?_,?_⟩
 ·intro x hx
  rcases Fb hx h.keys with ⟨h1,h2,_⟩|⟨h1,h2⟩
  ·refine ⟨h1▸hlt,vs,ty0,?_,by rw [h2];exact hs,fun j y hj=>mv _ _ (hd j y (by rw [←h2];exact hj))⟩
   rw [h1];exact setRow_heap w _ vs0 vs ty0 (0,0) hh0
  obtain ⟨g1,vs',ty',g2,g3,g4⟩:=h.aw x h1;refine ⟨g1,vs',ty',?_,g3,fun j y hj=>mv _ _ (g4 j y hj)⟩;rw [Fx w _ _ _ (fun e=>h2 (h.boxes2 x h1 b hm e))];exact g2
 ·intro x hx y hy he
  rcases Fb hx h.keys with ⟨h1,_⟩|⟨h1,h2⟩<;>rcases Fb hy h.keys with ⟨g1,_⟩|⟨g1,g2⟩
  ·rw [h1,g1]
  ·rw [h1] at he ⊢
   exact h.boxes2 b hm y g1 he
  ·rw [g1] at he ⊢
   exact h.boxes2 x h1 b hm he
  exact h.boxes2 x h1 y g1 he
 ·show ((Fe s.aw b.key cells).map (·.key)).Nodup
  rw [Qt];exact h.keys
 ·intro y hy
  obtain ⟨g1,g2,g3⟩:=h.own y hy;refine ⟨g1,g2.move (fun c hc=>Fx w _ _ _ (fun e=>?_)),g3⟩;exact h.sepB b hm y hy (e▸hc)
 ·intro x hx y hy
  rcases Fb hx h.keys with ⟨h1,_⟩|⟨h1,_⟩
  ·rw [h1];exact h.sepB b hm y hy
  exact h.sepB x h1 y hy
 ·refine ⟨h.base.os,h.base.tape,h.base.output,by simpa using h.base.size,fun k hk hm'=>?_⟩
  have hne:k≠E.β b.key:=by
   intro e
   rcases h.fresh _ hav with h1|h1
   ·omega
   exact hm' (e▸h1)
  rw [Fx w _ _ _ hne];exact h.base.block k hk hm'
 intro c hc;exact h.fresh c ((av c).1 hc)
theorem Yb (l:List AV)(off:Nat)(xs:List AV):(Sd l off xs).length=l.length:=by
 induction xs generalizing l off with
 |nil=>rfl
 |cons x r ih=>simp [Sd,ih,Bj]
theorem B8p (l:List AV)(off:Nat)(xs:List AV)(j:Nat):(Sd l off xs)[j]? =if off≤j∧j<off+xs.length∧j<l.length then xs[j-off]? else l[j]? :=by
 induction xs generalizing l off with
 |nil=>simp [Sd];intro h1 h2;omega
 |cons x r ih=>
  simp only [Sd,ih,Bj,Cr,Ep]
  by_cases h1:off=j
  ·subst h1
   by_cases hl:off<l.length
   ·rw [Ab A7,Ah ⟨rfl,hl⟩,Ah A7];simp
   rw [Ab A7,Ab A7,Ab A7]
  by_cases h2:off+1≤j∧j<off+1+r.length∧j<l.length
  ·rw [Ah h2,Ah A7]
   obtain ⟨m,rfl⟩:∃m,j=off+1+m:=⟨j-(off+1),by omega⟩
   simp [show off+1+m-off=m+1 by omega]
  rw [Ab h2,Ab A7,Ab A7]
def eqV (ks:List CK) (xs ys:List Value):Option Bool:=
 match ks,xs,ys with
 | [],[],[]=>some true
 | .int k::ks,.int i a::xs,.int j b::ys=>
  match Ny i k,Ny j k with
  |true,true=>B3n (a==b) (eqV ks xs ys)
  |_,_=>none
 | .bool::ks,.bool a::xs,.bool b::ys=>B3n (a==b) (eqV ks xs ys)
 |_,_,_=>none
variable {r : Bool}
theorem Wt {a:Bool}{o:Option Bool}(h:B3n a o=some r):∃b,o=some b∧r=(a&&b):=by
 unfold B3n at h
 split at h
 ·rename_i b;exact ⟨b,rfl,by simpa using h.symm⟩
 simp at h
variable {ks : List CK} {xs : List Value} {ys : List Value}
theorem Rf (h:eqV ks xs ys=some r):
  (ks=[]∧xs=[]∧ys=[]∧r=true)∨(∃k a b ks' xs' ys' q,ks= .int k::ks'∧xs= .int k a::xs'∧ys= .int k b::ys'∧eqV ks' xs' ys'=some q∧r=(a==b&&q))∨
  (∃a b ks' xs' ys' q,ks= .bool::ks'∧xs= .bool a::xs'∧ys= .bool b::ys'∧eqV ks' xs' ys'=some q∧r=(a==b&&q)):=by
 unfold eqV at h
 split at h
 ·exact .inl ⟨rfl,rfl,rfl,by simpa using h.symm⟩
 ·rename_i k ks i a xs j b ys
  split at h
  ·rename_i h1 h2
   obtain rfl:i=k:=by simpa [Ny] using h1
   obtain rfl:j=i:=by simpa [Ny] using h2
   obtain ⟨q,hq,rfl⟩:=Wt h;exact .inr (.inl ⟨j,a,b,ks,xs,ys,q,rfl,rfl,rfl,hq,rfl⟩)
  simp at h
 ·rename_i ks a xs b ys
  obtain ⟨q,hq,rfl⟩:=Wt h;exact .inr (.inr ⟨a,b,ks,xs,ys,q,rfl,rfl,rfl,hq,rfl⟩)
 simp at h
variable {q : Bool}
theorem B9g {k:IntKind}{a b:Int}(h:eqV ks xs ys=some q):eqV (.int k::ks) (.int k a::xs) (.int k b::ys)=some (a==b&&q):=by
 simp [eqV,Ny,h,B3n]
theorem B33 {a b:Bool}(h:eqV ks xs ys=some q):eqV (.bool::ks) (.bool a::xs) (.bool b::ys)=some (a==b&&q):=by
 simp [eqV,h,B3n]
theorem B68 (h:eqV ks xs ys=some r):xs.length=ks.length∧ys.length=ks.length:=by
 induction ks generalizing xs ys r with
 |nil=>
  rcases Rf h with ⟨_,rfl,rfl,_⟩|⟨_,_,_,_,_,_,_,h,_⟩|⟨_,_,_,_,_,_,h,_⟩<;>simp_all
 |cons c ks ih=>
  rcases Rf h with ⟨h,_⟩|⟨k,a,b,ks',xs',ys',q,e,rfl,rfl,hq,_⟩|⟨a,b,ks',xs',ys',q,e,rfl,rfl,hq,_⟩
  ·simp at h
  ·simp only [Nf] at e;obtain ⟨_,rfl⟩:=e;have:=ih hq;simp [this]
  simp only [Nf] at e;obtain ⟨_,rfl⟩:=e;have:=ih hq;simp [this]
theorem C1x {js:List CK}(h:eqV (ks++js) xs ys=some r):
  ∃r1 r2,eqV ks (xs.take ks.length) (ys.take ks.length)=some r1∧eqV js (xs.drop ks.length) (ys.drop ks.length)=some r2∧r=(r1&&r2):=by
 induction ks generalizing xs ys r with
 |nil=>exact ⟨true,r,by simp [eqV],by simpa using h,by simp⟩
 |cons c ks ih=>
  rcases Rf h with ⟨h,_⟩|⟨k,a,b,ks',xs',ys',q,e,rfl,rfl,hq,rfl⟩|⟨a,b,ks',xs',ys',q,e,rfl,rfl,hq,rfl⟩
  ·simp at h
  ·simp only [Qw,Nf] at e
   obtain ⟨rfl,rfl⟩:=e;obtain ⟨r1,r2,h1,h2,rfl⟩:=ih hq;exact ⟨a==b&&r1,r2,by simpa using B9g h1,by simpa using h2,by simp [Bool.and_assoc]⟩
  simp only [Qw,Nf] at e;obtain ⟨rfl,rfl⟩:=e;obtain ⟨r1,r2,h1,h2,rfl⟩:=ih hq;exact ⟨a==b&&r1,r2,by simpa using B33 h1,by simpa using h2,by simp [Bool.and_assoc]⟩
theorem B3 {x v:Value}(h:D0 E w A N (.v x) v):v=x:=by
 cases h with|c h=>cases h;rfl
theorem B31 {xs ys:List AV}(h:A8r ks xs ys=some r):
  (ks=[]∧xs=[]∧ys=[]∧r=true)∨(∃k a b ks' xs' ys' q,ks= .int k::ks'∧xs= .v (.int k a)::xs'∧ys= .v (.int k b)::ys'∧A8r ks' xs' ys'=some q∧r=(a==b&&q))∨
  (∃a b ks' xs' ys' q,ks= .bool::ks'∧xs= .v (.bool a)::xs'∧ys= .v (.bool b)::ys'∧A8r ks' xs' ys'=some q∧r=(a==b&&q)):=by
 unfold A8r at h
 split at h
 ·exact .inl ⟨rfl,rfl,rfl,by simpa using h.symm⟩
 ·rename_i k ks i a xs j b ys
  split at h
  ·rename_i h1 h2
   obtain rfl:i=k:=by simpa [Ny] using h1
   obtain rfl:j=i:=by simpa [Ny] using h2
   obtain ⟨q,hq,rfl⟩:=Wt h;exact .inr (.inl ⟨j,a,b,ks,xs,ys,q,rfl,rfl,rfl,hq,rfl⟩)
  simp at h
 ·rename_i ks a xs b ys
  obtain ⟨q,hq,rfl⟩:=Wt h;exact .inr (.inr ⟨a,b,ks,xs,ys,q,rfl,rfl,rfl,hq,rfl⟩)
 simp at h
theorem C1w {xs ys:List AV}(h:A8r ks xs ys=some r){us vs:List Value}(lu:us.length=xs.length)(lv:vs.length=ys.length)(hx:∀i x,xs[i]? =some x→D0 E w A N x (us.getD i undef))(hy:∀i y,ys[i]? =some y→D0 E w A N y (vs.getD i undef)):
  eqV ks us vs=some r:=by
 induction ks generalizing xs ys us vs r with
 |nil=>
  rcases B31 h with ⟨_,rfl,rfl,rfl⟩|⟨_,_,_,_,_,_,_,h,_⟩|⟨_,_,_,_,_,_,h,_⟩
  ·obtain rfl:=Pk lu
   obtain rfl:=Pk lv;rfl
  ·simp at h
  simp at h
 |cons c ks ih=>
  have Lk:∀{x y:AV} {xs' ys':List AV} {u v:Value} {us' vs':List Value} {q:Bool},xs=x::xs'→ys=y::ys'→us=u::us'→vs=v::vs'→A8r ks xs' ys'=some q→
    D0 E w A N x u∧D0 E w A N y v∧eqV ks us' vs'=some q:=by
   rintro x y xs' ys' u v us' vs' q rfl rfl rfl rfl hq
   refine ⟨by simpa using hx 0 _ rfl,by simpa using hy 0 _ rfl,ih hq (by simpa using lu) (by simpa using lv) (fun i x hi=>by simpa using hx (i+1) x (by simpa using hi)) (fun i x hi=>by simpa using hy (i+1) x (by simpa using hi))⟩
  have ex:∀{α:Type} {l:List Value} {x:α} {m:List α},l.length=(x::m).length→∃u us',l=u::us':=by
   intro α l x m h
   cases l with
   |nil=>simp at h
   |cons u us'=>exact ⟨u,us',rfl⟩
  rcases B31 h with ⟨h,_⟩|⟨k,a,b,ks',xs',ys',q,e,e1,e2,hq,rfl⟩|⟨a,b,ks',xs',ys',q,e,e1,e2,hq,rfl⟩
  ·simp at h
  ·simp only [Nf] at e
   obtain ⟨rfl,rfl⟩:=e;obtain ⟨u,us',eu⟩:=ex (by rw [lu,e1]);obtain ⟨v,vs',ev⟩:=ex (by rw [lv,e2]);obtain ⟨d1,d2,hq'⟩:=Lk e1 e2 eu ev hq;obtain rfl:=B3 d1;obtain rfl:=B3 d2;rw [eu,ev];exact B9g hq'
  simp only [Nf] at e;obtain ⟨rfl,rfl⟩:=e;obtain ⟨u,us',eu⟩:=ex (by rw [lu,e1]);obtain ⟨v,vs',ev⟩:=ex (by rw [lv,e2]);obtain ⟨d1,d2,hq'⟩:=Lk e1 e2 eu ev hq;obtain rfl:=B3 d1;obtain rfl:=B3 d2;rw [eu,ev];exact B33 hq'
def Ut (P:Program) (t:TypeId) (us:List Value):Value:=
 match (P.underlying t).map Ks with
 |some true=> .agg us.toArray
 |_=>us.getD 0 undef
theorem A66 (t:TypeId)(us:List Value)(off:Nat)(w:World)(hd:(P.underlying t).isSome=true)(hi:(P.info? t).isSome=true)(hl:off+P.cellsOf t≤us.length)(h1:0<P.cellsOf t):
  (part t us.toArray off).run P w= .ok (Ut P t ((us.drop off).take (P.cellsOf t))) w:=by
 obtain ⟨d,hd⟩:=A73.1 hd;obtain ⟨i,hi⟩:=A73.1 hi;have hs:P.cellsOf t=i.size:=by simp [Program.cellsOf,hi]
 have hag:∀w,(isAgg t).run P w= .ok (Ks d) w:=by intro w;cases d<;>simp [isAgg,run_underlying hd,Ks]
 simp only [part,Sem.run_bind,hag,Result.andThen_ok,Ut,hd,Qv]
 cases hda:Ks d with
 |true=>
  simp only [Mo,Sem.run_bind,sizeOf,typeInfo,run_program,Result.andThen_ok,hi,Sem.run_pure,hs]
  congr 2
  apply Array.ext'
  simp [List.extract_eq_take_drop]
 |false=>
  have:off<us.length:=by omega
  simp only [T5,T6];rw [show us.toArray[off]? =some us[off] by simp [this]]
  simp [List.getD,h1,this]
structure C3m (P:Program) (d:Nat) (t:TypeId) (ks:List CK):Prop where
 len:ks.length=P.cellsOf t
 info:(P.info? t).isSome=true
 pos:0<ks.length
 desc:P.underlying t=some (.int (match ks with| [.int k]=>k|_=> .i64))∧(∃k,ks=[.int k])∨(P.underlying t=some .bool∧ks=[.bool])∨
  ∃fs,P.underlying t=some (.struct fs)∧P.stoodInHeld t=false∧A95 (Xn P d) fs.toList 0=some ks
theorem Tk {d:Nat}(h:Xn P (d+1) t=some ks):C3m P d t ks:=by
 unfold Xn at h
 split at h
 ·rename_i js hj
  split at h
  ·rename_i h1 h2 h3
   obtain rfl:=Bv h;refine ⟨F7 h1,h2,Cz h3,?_⟩
   split at hj
   ·rename_i k hk
    obtain rfl:=Bv hj;exact .inl ⟨hk,k,rfl⟩
   ·rename_i hk
    obtain rfl:=Bv hj;exact .inr (.inl ⟨hk,rfl⟩)
   ·rename_i fs hk
    split at hj
    ·simp at hj
    rename_i hs
    exact .inr (.inr ⟨fs,hk,hs,hj⟩)
   simp at hj
  simp at h
 simp at h
theorem C8l:∀(d:Nat) (t:TypeId) (ks:List CK),Xn P d t=some ks→∀(us vs:List Value) (r:Bool),eqV ks us vs=some r→∀(m:Nat),d≤m→∀w,
  (Op.equalIn m t (Ut P t us) (Ut P t vs)).run P w= .ok r w:=by
 intro d
 induction d with
 |zero=>intro t ks h;simp [Xn] at h
 |succ d ih=>
  intro t ks h us vs r he m hm w;obtain ⟨m,rfl⟩:∃k,m=k+1:=⟨m-1,by omega⟩;have S:=Tk h
  rcases S.desc with ⟨hk,k,rfl⟩|⟨hk,rfl⟩|⟨fs,hk,hst,hf⟩
  ·rcases Rf he with ⟨h,_⟩|⟨k',a,b,ks',xs',ys',q,e,rfl,rfl,hq,rfl⟩|⟨a,b,ks',xs',ys',q,e,_⟩
   ·simp at h
   ·simp only [Nf,CK.int.injEq] at e
    obtain ⟨rfl,rfl⟩:=e
    rcases Rf hq with ⟨_,rfl,rfl,rfl⟩|⟨_,_,_,_,_,_,_,h,_⟩|⟨_,_,_,_,_,_,h,_⟩
    ·simp only [Ut,hk,Qv,Ks,Ue]
     rw [run_equalIn_int w m t k k a b hk]
     simp
    ·simp at h
    simp at h
   simp at e
  ·rcases Rf he with ⟨h,_⟩|⟨k',a,b,ks',xs',ys',q,e,_⟩|⟨a,b,ks',xs',ys',q,e,rfl,rfl,hq,rfl⟩
   ·simp at h
   ·simp at e
   simp only [Nf] at e;obtain ⟨_,rfl⟩:=e
   rcases Rf hq with ⟨_,rfl,rfl,rfl⟩|⟨_,_,_,_,_,_,_,h,_⟩|⟨_,_,_,_,_,_,h,_⟩
   ·simp only [Ut,hk,Qv,Ks,Ue]
    rw [run_equalIn_bool' w m t a b hk]
    simp
   ·simp at h
   simp at h
  have hfo:P.fieldsOf t=fs:=by simp [Program.fieldsOf,hk]
  have key:∀(l:List Field) (off:Nat) (js:List CK) (q:Bool),A95 (Xn P d) l off=some js→eqV js (us.drop off) (vs.drop off)=some q→∀w,
    (Op.eqFields m us.toArray vs.toArray l).run P w= .ok q w:=by
   intro l
   induction l with
   |nil=>
    intro off js q hj hq w;obtain rfl:[]=js:=by simpa [A95] using hj
    rcases Rf hq with ⟨_,_,_,rfl⟩|⟨_,_,_,_,_,_,_,h,_⟩|⟨_,_,_,_,_,_,h,_⟩
    ·simp [Op.eqFields]
    ·simp at h
    simp at h
   |cons f l ihl=>
    intro off js q hj hq w;unfold A95 at hj
    split at hj
    ·rename_i hnm hof
     obtain rfl:=F7 hof
     split at hj
     ·rename_i k1 hk1
      split at hj
      ·rename_i k2 hk2
       obtain rfl:=Bv hj;obtain ⟨r1,r2,h1,h2,rfl⟩:=C1x hq;simp only [List.drop_drop] at h2
       obtain ⟨dd,rfl⟩:∃dd,d=dd+1:=by
        cases d with
        |zero=>simp [Xn] at hk1
        |succ dd=>exact ⟨dd,rfl⟩
       have S1:=Tk hk1
       have hund:(P.underlying f.type).isSome=true:=by
        rcases S1.desc with ⟨h,_⟩|⟨h,_⟩|⟨_,h,_⟩<;>simp [h]
       have l1:=B68 h1;have hp:=S1.pos;simp only [G2,Gm] at l1;have hne:f.name≠ "_" :=by simpa using hnm
       have p1:=A66 (P:=P) f.type us f.offset w hund S1.info (by rw [←S1.len];omega) (by rw [←S1.len];omega);have p2:=A66 (P:=P) f.type vs f.offset w hund S1.info (by rw [←S1.len];omega) (by rw [←S1.len];omega);rw [←S1.len] at p1 p2;have p3:=ih f.type k1 hk1 _ _ r1 h1 m A7 w;simp only [Op.eqFields,hne,ne_eq,not_false_eq_true,Mo,Sem.run_bind,p1,p2,p3,Result.andThen_ok,Sem.run_ite,Sem.run_pure]
       cases r1 with
       |true=>simpa using ihl _ _ _ hk2 h2 w
       |false=>simp
      simp at hj
     simp at hj
    simp at hj
  have:=key fs.toList 0 ks r hf (by simpa using he) w
  simp only [Ut,hk,Qv,Ks];rw [run_equalIn_struct w m t us.toArray vs.toArray (by rw [hfo];exact hk) hst,hfo];exact this
theorem L0 {k:IntKind}{n:Int}(h:Js k n):k.wrap n=n:=by
 cases k<;>simp only [Js] at h<;>simp only [IntKind.wrap,IntKind.bits,IntKind.signed]<;>simp<;>omega
theorem Re (op:BinOp)(t:TypeId)(x y:Operand)(k j:IntKind)(a b:Int)(w:World):(eqGuard op t x y (.int k a) (.int j b)).run P w= .ok () w:=by
 cases op<;>simp [eqGuard]
theorem Zq (op:BinOp)(t:TypeId)(x y:Operand)(a b:Bool)(w:World):(eqGuard op t x y (.bool a) (.bool b)).run P w= .ok () w:=by
 cases op<;>simp [eqGuard]
theorem B32 (op:BinOp)(t:TypeId)(x y:Operand)(a b:ByteArray)(w:World):(eqGuard op t x y (.string a) (.string b)).run P w= .ok () w:=by
 cases op<;>simp [eqGuard]
variable {wr : Bool} {ps : List Prop}
theorem C38 (hT:C0 P T){op:BinOp}{y z:AV}(hs:A4u wr T op t x y= .ok ps z)(hp:∀p∈ps,p){u v:Value}(hu:D0 E w A N x u)(hv:D0 E w A N y v)(ox oy:Operand):
  ∃r,(∀w,(do eqGuard op t ox oy u v;binOp op t u v:Sem Value).run P w= .ok r w)∧D0 E w A N z r:=by
 have den:∀(r:Value),r.oneCell'=true→D0 E w A N (.v r) r:=fun r h=> .c (.val r h);unfold A4u at hs
 split at hs
 ·rename_i k a j b
  obtain rfl:=B3 hu;obtain rfl:=B3 hv
  split at hs
  ·simp at hs
  rename_i hk
  obtain rfl:k=j:=by simpa [Ny] using hk
  have hb:binOp op t (.int k a) (.int k b)=(match op with
    | .shl=>Op.shift .shl k a k b| .shr=>Op.shift .shr k a k b
    | .add| .sub| .mul=>Op.intArith op k a b
    | .quo| .rem=>Op.intDiv op k a b
    | .and| .or| .xor| .andNot=>Op.intBits op k a b
    |_=>Op.intCmp op a b):=by cases op<;>simp [binOp]
  cases op<;>simp only [reduceCtorEq] at hs<;>simp only [Sem.run_bind,Re,Result.andThen_ok,hb]<;>
   first
    |(simp only [Gn.ok.injEq] at hs;obtain ⟨rfl,rfl⟩:=hs;refine ⟨_,fun _=>rfl,den _ rfl⟩)
    |skip
  ·cases wr<;>simp only [Gn.ok.injEq] at hs<;>obtain ⟨rfl,rfl⟩:=hs
   ·have h1:Js k (a+b):=hp _ Ef
    exact ⟨.int k (a+b),fun _=>by simp [Op.intArith,L0 h1],den _ rfl⟩
   exact ⟨.int k (k.wrap (a+b)),fun _=>by simp [Op.intArith],den _ rfl⟩
  ·cases wr<;>simp only [Gn.ok.injEq] at hs<;>obtain ⟨rfl,rfl⟩:=hs
   ·have h1:Js k (a-b):=hp _ Ef
    exact ⟨.int k (a-b),fun _=>by simp [Op.intArith,L0 h1],den _ rfl⟩
   exact ⟨.int k (k.wrap (a-b)),fun _=>by simp [Op.intArith],den _ rfl⟩
  ·cases wr<;>simp only [Gn.ok.injEq] at hs<;>obtain ⟨rfl,rfl⟩:=hs
   ·have h1:Js k (a * b):=hp _ Ef
    exact ⟨.int k (a * b),fun _=>by simp [Op.intArith,L0 h1],den _ rfl⟩
   exact ⟨.int k (k.wrap (a * b)),fun _=>by simp [Op.intArith],den _ rfl⟩
  ·simp only [Gn.ok.injEq] at hs
   obtain ⟨rfl,rfl⟩:=hs;have h1:b≠0:=hp _ Ef;have h2:Js k (a.tdiv b):=hp _ Ef;exact ⟨.int k (a.tdiv b),fun _=>by simp [Op.intDiv,h1,L0 h2],den _ rfl⟩
  simp only [Gn.ok.injEq] at hs;obtain ⟨rfl,rfl⟩:=hs;have h1:b≠0:=hp _ Ef;exact ⟨.int k (a.tmod b),fun _=>by simp [Op.intDiv,h1],den _ rfl⟩
 ·rename_i a b
  obtain rfl:=B3 hu;obtain rfl:=B3 hv;have hb:binOp op t (.string a) (.string b)=Op.stringOp op a b:=by cases op<;>simp [binOp]
  cases op<;>simp only [reduceCtorEq] at hs<;>simp only [Sem.run_bind,B32,Result.andThen_ok,hb]<;>simp only [Gn.ok.injEq] at hs<;>obtain ⟨rfl,rfl⟩:=hs
  ·have h1:a.size+b.size≤9223372036854775807:=hp _ Ef
   have h2:¬ (((a.size+b.size:Nat):Int)>IntKind.i64.max):=by
    simp only [IntKind.max,IntKind.signed,IntKind.bits]
    simp
    omega
   refine ⟨.string (a++b),?_,den _ rfl⟩;simp only [Op.stringOp,Ab h2];exact fun _=>rfl
  ·exact ⟨.bool (a==b),fun _=>by rw [beq_toListBytes];rfl,den _ rfl⟩
  exact ⟨.bool !(a==b),fun _=>by rw [beq_toListBytes];rfl,den _ rfl⟩
 ·rename_i a b
  obtain rfl:=B3 hu;obtain rfl:=B3 hv
  have hfl:C4b T t=true→P.underlying t=some .bool:=by
   intro h;unfold C4b at h
   split at h
   ·rename_i i hi
    split at h
    ·rename_i hag hf
     obtain ⟨f,d,z,S⟩:=TI.of_spec (hT t i hi)
     have:=S.flat
     rw [hf] at this
     split at this
     ·simp at this
     have:=Tk this.symm
     rcases this.desc with ⟨_,k,h⟩|⟨h,_⟩|⟨fs,h,_,_⟩
     ·simp at h
     ·exact h
     have e:=S.hd.symm.trans h;simp only [Em] at e;subst e;rw [S.agg] at hag
     simp [Ks] at hag
    simp at h
   simp at h
  split at hs
  ·rename_i hf
   simp only [Gn.ok.injEq] at hs;obtain ⟨rfl,rfl⟩:=hs;refine ⟨.bool (a==b),fun w=>?_,den _ rfl⟩
   simp [Zq,binOp,Op.equal,Op.maxDepth,run_equalIn_bool' w 9999 t a b (hfl hf)]
  ·rename_i hf
   simp only [Gn.ok.injEq] at hs;obtain ⟨rfl,rfl⟩:=hs;refine ⟨.bool !(a==b),fun w=>?_,den _ rfl⟩
   simp [Zq,binOp,Op.equal,Op.maxDepth,run_equalIn_bool' w 9999 t a b (hfl hf)]
  simp at hs
 ·rename_i xs ys
  split at hs
  ·rename_i ks hf
   unfold D0i at hf
   split at hf
   ·rename_i i hi
    split at hf
    ·rename_i hag
     obtain ⟨f,d,z,S⟩:=TI.of_spec (hT t i hi);have hfl:=S.flat;rw [hf] at hfl;have hd:Ks d=true:=by rw [←S.agg];exact hag
     split at hfl
     ·simp at hfl
     rename_i hg
     cases hu with
     |agg us lu hu=>
      cases hv with
      |agg vs lv hv=>
       have gd:∀w,(eqGuard op t ox oy (.agg us.toArray) (.agg vs.toArray)).run P w= .ok () w:=fun w=>run_eqGuard_agg w op t ox oy _ _ hg
       have hval:∀us:List Value,Ut P t us= .agg us.toArray:=by
        intro us
        simp [Ut,S.hd,hd]
       have main:∀r w,A8r ks xs ys=some r→(Op.equalIn 10000 t (.agg us.toArray) (.agg vs.toArray)).run P w= .ok r w:=by
        intro r w hr
        have:=C8l 10 t ks hfl.symm us vs r (C1w hr lu lv hu hv) 10000 A7 w
        rwa [hval us,hval vs] at this
       split at hs
       ·rename_i r hr
        simp only [Gn.ok.injEq] at hs;obtain ⟨rfl,rfl⟩:=hs;refine ⟨.bool r,fun w=>?_,den _ rfl⟩;simp only [Sem.run_bind,gd,Result.andThen_ok,run_eql_struct,main r w hr]
       ·rename_i r hr
        simp only [Gn.ok.injEq] at hs;obtain ⟨rfl,rfl⟩:=hs;refine ⟨.bool !r,fun w=>?_,den _ rfl⟩;simp only [Sem.run_bind,gd,Result.andThen_ok,run_neq_struct,main r w hr]
       simp at hs
    simp at hf
   simp at hf
  simp at hs
 simp at hs
variable {u : TypeId}
theorem Zu (hT:C0 P T){f o:Nat}(h:Zt T t f=some (o,u)):
  ∃fs F,P.underlying t=some (.struct fs)∧fs[f]? =some F∧F.offset=o∧F.type=u:=by
 unfold Zt at h
 split at h
 ·rename_i i hi
  obtain ⟨g,d,z,S⟩:=TI.of_spec (hT t i hi);rw [S.fields] at h;have hd:=S.hd
  cases d<;>simp only [List.getElem?_nil,reduceCtorEq] at h
  rename_i fs
  simp only [Ec,E9,Jh,Array.getElem?_toList] at h;obtain ⟨F,hF,h1,h2⟩:=h;exact ⟨fs,F,hd,hF,h1,h2⟩
 simp at h
theorem A5e (hT:C0 P T){j:TI}{k:IntKind}(hj:find T u=some j)(ha:j.agg=false)(hf:j.flat=some [.int k]):P.underlying u=some (.int k):=by
 obtain ⟨f,d,z,S⟩:=TI.of_spec (hT u j hj)
 have:=S.flat
 rw [hf] at this
 split at this
 ·simp at this
 have:=Tk this.symm
 rcases this.desc with ⟨h,_⟩|⟨h,h'⟩|⟨fs,h,_,_⟩
 ·exact h
 ·simp at h'
 have e:=S.hd.symm.trans h;simp only [Em] at e;subst e;rw [S.agg] at ha
 simp [Ks] at ha
theorem Mm (hT:C0 P T){f o:Nat}{j:TI}(h:Zt T t f=some (o,u))(hj:find T u=some j)(hp:0<j.size)(b off:Nat)(w:World):
  (Instr.fieldAt t (.pointer (some ⟨b,off,none⟩)) f).run P w= .ok (.pointer (some ⟨b,off+o,none⟩)) w:=by
 obtain ⟨fs,F,h1,h2,h3,h4⟩:=Zu hT h;subst h3 h4;have hs:=B9 (hT _ _ hj) w
 have:j.size≠0:=by omega
 simp [Instr.fieldAt,run_underlying h1,h2,Instr.sureAddr,fieldPlace,hs,this,Iz]
def DL (E:Fl) (w:World) (A:Nat→Prop) (N:Nat) (acc:List AV) (cs:Array Value):Prop:=
 cs.size=acc.length∧∀i y,acc[i]? =some y→D0 E w A N y (cs.getD i undef)
theorem DL.set {acc:List AV}{cs:Array Value}(h:DL E w A N acc cs)(p:Nat){v:Value}(hx:D0 E w A N x v):
  DL E w A N (Cd acc p x) (cs.setIfInBounds p v):=by
 refine ⟨by simp [Bj,h.1],fun i y hy=>?_⟩;rw [Cr] at hy
 by_cases hi:p=i∧i<acc.length
 ·rw [Ah hi] at hy
  obtain rfl:=Bv hy;obtain ⟨rfl,hl⟩:=hi
  have:p<cs.size:=by rw [h.1];exact hl
  simpa [Array.getD,this] using hx
 rw [Ab hi] at hy;have hl:i<acc.length:=(Cu.1 hy).1;have hne:p≠i:=fun e=>hi ⟨e,hl⟩
 have:i<cs.size:=by rw [h.1];exact hl
 have:=h.2 i y hy
 simpa [Array.getD,‹i<cs.size›,B3a,hne] using this
theorem DL.fold (off:Nat):∀(vs:List Value) (xs:List AV) (k:Nat) (acc:List AV) (cs:Array Value),DL E w A N acc cs→
  vs.length=xs.length→(∀i x,xs[i]? =some x→D0 E w A N x (vs.getD i undef))→
  DL E w A N (Sd acc (off+k) xs) ((vs.zipIdx k).foldl (fun cs (p:Value×Nat)=>cs.setIfInBounds (off+p.2) p.1) cs):=by
 intro vs
 induction vs with
 |nil=>
  intro xs k acc cs h hl _;obtain rfl:=Pk hl.symm;exact h
 |cons v vs ih=>
  intro xs k acc cs h hl hx
  match xs,hl with
  |x::xs,hl=>
   simp only [List.zipIdx_cons,List.foldl_cons,Sd]
   have:=ih xs (k+1) _ _ (h.set (off+k) (by simpa using hx 0 x rfl)) (by simpa using hl) (fun i x hi=>by simpa using hx (i+1) x (by simpa using hi))
   simpa [Wm] using this
theorem B1n (_hT:C0 P T)(h:s.is B E a w)(fields:List (Nat×TypeId))(place:Nat→Option (Nat×Nat))(hpl:∀k o u,fields[k]? =some (o,u)→∀j,find T u=some j→place k=some (o,j.size)):∀(ps:List (Nat×Operand)) (acc:List AV) (cs:Array Value) (out:List AV),
  Tj T fields s ps acc=some out→DL E w (s.ag E) s.next acc cs→
  ∃cs',Instr.fill place cs (ps.map fun p=>(p.1,a.eval p.2))=some cs'∧DL E w (s.ag E) s.next out cs':=by
 intro ps
 induction ps with
 |nil=>
  intro acc cs out ho hd;obtain rfl:=Bv ho;exact ⟨cs,rfl,hd⟩
 |cons p ps ih=>
  intro acc cs out ho hd;obtain ⟨f,x⟩:=p;unfold Tj at ho
  split at ho
  ·simp at ho
  rename_i off u hf
  split at ho
  ·simp at ho
  rename_i j hj
  split at ho
  ·rename_i hc
   simp only [Cj] at hc;obtain ⟨⟨h1,h2⟩,h3⟩:=hc;have h1:=F7 h1;have h2:=Cz h2;obtain ⟨c1,c2,c3⟩:=Rb (h.ev x) h3 h.one;have hp:=hpl f off u hf j hj;have hsz:(a.eval x).cells.size=j.size:=by rw [c1,h1]
   have hfit:¬ (off+(a.eval x).cells.size>cs.size):=by rw [hd.1,hsz];omega
   have hd2:=DL.fold (E:=E) (w:=w) (A:=s.ag E) (N:=s.next) off (a.eval x).cells.toList (s.ev x).cellsOf 0 acc cs hd (by simpa using c1) (fun i y hi=>by rw [Bn];exact c2 i y hi);obtain ⟨cs',e,hd'⟩:=ih _ _ out ho hd2;refine ⟨cs',?_,hd'⟩;simp only [I8,Instr.fill,hp];rw [Ab (by simp [hsz];rw [←hsz];omega)];rw [←e]
   congr 1
   rw [←Array.foldl_toList,Array.toList_zipIdx]
  simp at ho
theorem B42 (P:Program)(w:World)(g:Field→Sem (Nat×Nat)):∀(fs:List Field),(∀F∈fs,(g F).run P w= .ok (F.offset,P.cellsOf F.type) w)→
  (fs.mapM g).run P w= .ok (fs.map fun F=>(F.offset,P.cellsOf F.type)) w:=by
 intro fs
 induction fs with
 |nil=>intro _;rfl
 |cons F fs ih=>
  intro h;simp only [List.mapM_cons,Sem.run_bind,h F Ef,ih (fun G hG=>h G (by simp [hG])),Result.andThen_ok,Sem.run_pure,I8]
theorem K7 {l:List Value}(h:J5 l=true):∀v∈l,v.oneCell'=true:=by
 induction l with
 |nil=>simp
 |cons v l ih=>
  intro u hu
  rcases C7.1 hu with rfl|hu
  ·cases u<;>first|rfl|simp [J5] at h
  refine ih ?_ u hu
  cases v<;>first|exact h|simp [J5] at h
theorem B6u {l:List (Nat×TypeId)}(h:B85 T l=true):∀p∈l,∃j,find T p.2=some j:=by
 induction l with
 |nil=>simp
 |cons p l ih=>
  obtain ⟨o,u⟩:=p;unfold B85 at h
  split at h
  ·rename_i j hj
   intro q hq
   rcases C7.1 hq with rfl|hq
   ·exact ⟨j,hj⟩
   exact ih h q hq
  simp at h
theorem Yi {j:TI}(h:TI.of P u=some j):P.cellsOf u=j.size:=by
 obtain ⟨f,d,z,S⟩:=TI.of_spec h
 simp [Program.cellsOf,S.hf,S.size]
theorem A4b {i:TI}(ht:TI.of P t=some i){z:Value}(hz:z.cells.toList=i.zero)(E:Fl)(w:World)(A:Nat→Prop)(N:Nat):DL E w A N (Jo i) z.cells:=by
 obtain ⟨f,d,z',S⟩:=TI.of_spec ht;refine ⟨by simp [Jo,←hz],fun k y hy=>?_⟩;simp only [Jo,Ec,E9] at hy;obtain ⟨v,hv,rfl⟩:=hy;have hm:v∈i.zero:=Hr hv;rw [←Bn,hz];simp only [List.getD,hv,Uc];exact .c (.val v (K7 S.zone v hm))
theorem A3t (vs:List Value)(off n:Nat)(h:off+n≤vs.length):(vs.drop off).take n=(List.range n).map fun k=>vs.getD (off+k) undef:=by
 apply List.ext_getElem?
 intro i;simp only [Wn,T7,Ec]
 by_cases hi:i<n
 ·have:off+i<vs.length:=by omega
  simp [hi,List.getD,this]
 simp [hi]
theorem C3b (hT:C0 P T)(h:D1q T t=true):P.underlying t=some .string:=by
 unfold D1q at h
 split at h
 ·rename_i i hi;exact Qs (hT t i hi) h
 simp at h
theorem A2v {l:List Ad}{xs:List AV}(h:P5 l=some xs):xs.length=l.length∧∀(k:Nat) (x:AV),xs[k]? =some x→∃v,l[k]? =some (.val v)∧x= .v v:=by
 induction l generalizing xs with
 |nil=>obtain rfl:=Bv h;simp
 |cons c l ih=>
  cases c with
  |val v=>
   unfold P5 at h
   split at h
   ·rename_i cs hcs
    obtain rfl:=Bv h;obtain ⟨h1,h2⟩:=ih hcs;refine ⟨by simp [h1],fun k x hk=>?_⟩
    cases k with
    |zero=>simp only [H3,Em] at hk;subst hk;exact ⟨v,by simp,rfl⟩
    |succ k=>simpa using h2 k x (by simpa using hk)
   simp at h
  |sl n es row=>simp [P5] at h
variable {op : Op}
theorem A00 (hT:C0 P T)(hs:Lk T wr s op= .ok ps x)(hp:∀p∈ps,p)(h:s.is B E a w)(o:Oper)(ho:o.op=op):∃v,(∀w',Ed w w'→(execOp a.eval o).run P w'= .ok (.value v) w')∧D0 E w (s.ag E) s.next x v:=by
 have den:∀(r:Value),r.oneCell'=true→D0 E w (s.ag E) s.next (.v r) r:=fun r h=> .c (.val r h);obtain ⟨dst,op',ty,pos,after,guard⟩:=o
 simp only at ho
 subst ho;unfold Lk at hs
 split at hs
 ·rename_i y
  simp only [Gn.ok.injEq] at hs;obtain ⟨rfl,rfl⟩:=hs;exact ⟨a.eval y,fun _ _=>rfl,h.ev y⟩
 ·rename_i y
  simp only [Gn.ok.injEq] at hs;obtain ⟨rfl,rfl⟩:=hs;exact ⟨a.eval y,fun _ _=>rfl,h.ev y⟩
 ·rename_i b t x' y z
  obtain ⟨r,h1,h2⟩:=C38 hT hs hp (h.ev x') (h.ev y) x' y;refine ⟨r,fun w' _=>?_,h2⟩;have h1:=h1 w';simp only [execOp,Sem.run_bind];simp only [Sem.run_bind] at h1;rw [h1];rfl
 ·rename_i u t y
  have hy:=h.ev y
  split at hs
  ·rename_i b e
   rw [e] at hy;have e1:=B3 hy;simp only [Gn.ok.injEq] at hs;obtain ⟨rfl,rfl⟩:=hs;exact ⟨.bool !b,fun w' _=>by simp [execOp,e1,Op.unary],den _ rfl⟩
  ·rename_i k n e
   rw [e] at hy;have e1:=B3 hy
   cases wr<;>simp only [Gn.ok.injEq] at hs<;>obtain ⟨rfl,rfl⟩:=hs
   ·have h1:Js k (0-n):=hp _ Ef
    exact ⟨.int k (0-n),fun w' _=>by simp [execOp,e1,Op.unary,Op.intArith];simpa using L0 h1,den _ rfl⟩
   exact ⟨.int k (k.wrap (0-n)),fun w' _=>by simp [execOp,e1,Op.unary,Op.intArith],den _ rfl⟩
  simp at hs
 ·split at hs<;>simp at hs
 ·split at hs<;>simp at hs
 ·rename_i t parts
  split at hs
  ·rename_i i hi
   split at hs
   ·rename_i p0 r0 cs hf0 hall hcs
    simp only [Gn.ok.injEq] at hs;obtain ⟨rfl,rfl⟩:=hs;have ht:=hT t i hi;obtain ⟨f,d,z,S⟩:=TI.of_spec ht;have hd:=S.hd;have hfs:=S.fields
    cases d<;>simp only [hf0,reduceCtorEq] at hfs
    rename_i fs
    have hfs:=hf0.trans hfs;obtain ⟨z',hz',hrun⟩:=W4 ht
    have hplaces:∀F∈fs.toList,∃j,find T F.type=some j:=by
     intro F hF
     have:(F.offset,F.type)∈i.fields:=by rw [hfs];exact Ea.2 ⟨F,hF,rfl⟩
     exact B6u hall _ this
    have hm:∀w,(fs.toList.mapM (fun f=>do pure (f.offset,←sizeOf f.type):Field→Sem (Nat×Nat))).run P w= .ok (fs.toList.map fun F=>(F.offset,P.cellsOf F.type)) w:=by
     intro w;refine B42 P w _ _ (fun F hF=>?_);obtain ⟨j,hj⟩:=hplaces F hF
     simp [B9 (hT _ _ hj),Yi (hT _ _ hj)]
    obtain ⟨cs',hfill,hDL⟩:=B1n hT h i.fields (fun k=>(fs.toList.map fun F=>(F.offset,P.cellsOf F.type))[k]?) (fun k o u hk j hj=>by
     rw [hfs] at hk;simp only [Ec,E9,Jh] at hk ⊢;obtain ⟨F,hF,rfl,rfl⟩:=hk
     exact ⟨F,hF,rfl,Yi (hT _ _ hj)⟩) parts.toList (Jo i) z'.cells cs hcs (A4b ht hz' E w _ _)
    refine ⟨.agg cs',fun w' _=>?_,?_⟩
    ·simp only [execOp,Instr.build,Sem.run_bind,hrun,Result.andThen_ok,run_underlying hd]
     have hm2:(fs.mapM (fun f=>do pure (f.offset,←sizeOf f.type):Field→Sem (Nat×Nat))).run P w'= .ok (fs.toList.map fun F=>(F.offset,P.cellsOf F.type)).toArray w':=by
      rw [A2a];simp only [A2b,Sem.run_bind,hm,Result.andThen_ok,Sem.run_pure]
     simp only [hm2,Result.andThen_ok,A74,List.getElem?_toArray,hfill,Sem.run_pure]
    have:=D0.agg (E:=E) (w:=w) (A:=s.ag E) (N:=s.next) (xs:=cs) cs'.toList (by simpa using hDL.1) (fun k y hk=>by rw [Bn];exact hDL.2 k y hk)
    simpa using this
   simp at hs
  simp at hs
 ·rename_i t y
  have hy:=h.ev y
  split at hs
  ·rename_i i k off hi e
   rw [e] at hy
   split at hs
   ·rename_i b hb
    split at hs
    ·rename_i hle
     simp only [Gn.ok.injEq] at hs;obtain ⟨rfl,rfl⟩:=hs;generalize hv:a.eval y=v at hy
     cases hy with
     |box _ hk=>
      obtain ⟨r,h1,h2⟩:=h.load (hT t i hi) hb (Cz hle);exact ⟨r,fun w' hk=>by simp only [execOp,hv,Sem.run_bind,h1 w' hk,Result.andThen_ok];rfl,h2⟩
    simp at hs
   simp at hs
  ·rename_i i k es j off hi e
   rw [e] at hy
   split at hs
   ·rename_i n es' row hg
    split at hs
    ·simp at hs
    split at hs
    ·rename_i cs hle hcs
     simp only [Cj] at hle;obtain rfl:=F7 hle.1;have hle2:=Cz hle.2;simp only [Gn.ok.injEq] at hs;obtain ⟨rfl,rfl⟩:=hs;generalize hv:a.eval y=v at hy
     cases hy with
     |oel _ b o n' cap hk hov h0 hj=>
      have hown:=(h.own _ (Ca hg)).2.1
      simp only at hown
      rw [hov] at hown;generalize hfp:E.fp k=fp at hown;obtain ⟨m,rfl⟩:=Ud h0;simp only [Cp,Z4] at *
      cases hown with
      |emp=>exact absurd hj (Le _)
      |sl _ _ _ _ offb _ ty cells fps hn hc hb hsz hl hr=>
       have hrl:=hl m hj;obtain ⟨f1,f2⟩:=A2v hcs
       have hlt:∀k,k<es→(offb+m) * es+k<cells.size:=fun k hk=>by
        have:=Gs (show offb+m<offb+cap by omega) hk
        omega
       have hd:∀k x,cs[k]? =some x→D0 E w (s.ag E) s.next x (((List.range es).map fun k=>cells.getD ((offb+m) * es+k) undef).getD k undef):=by
        intro k x hk';obtain ⟨v',hv1,rfl⟩:=f2 k x hk';have hkl:k<es:=by rw [←hrl];exact (Cu.1 hv1).1
        have:=hr m k _ hj hv1
        simp only [List.getD,Ec,A75,hkl,Qv,Uc];generalize cells.getD ((offb+m) * es+k) undef=u,fps (m * es+k)=g at this
        cases this with
        |val _ h1=>exact .c (.val _ h1)
       have hread:=Vc cs ((List.range es).map fun k=>cells.getD ((offb+m) * es+k) undef) off i (by rw [f1,hrl];exact hle2) hd
       have hrun:∀w',Ed w w'→_:=fun w' hkw=>J7 (hT t i hi) w' b (offb * es+m * es+off) ((List.range i.size).map fun k=>((List.range es).map fun k=>cells.getD ((offb+m) * es+k) undef).getD (off+k) undef) Ef (fun k hk=>by
        have h1:off+k<es:=by omega
        have:=hlt (off+k) h1
        rw [show offb * es+m * es+off+k=(offb+m) * es+(off+k) by rw [G1];omega]
        refine hkw.cell ?_;rw [cell_of_row w b _ cells ty (0,0) hb]
        simp [List.getD,hk,h1,Array.getD,this])
       refine ⟨_,fun w' hkw=>?_,hread⟩;simp only [execOp,hv,Instr.loadAt,Instr.sureAddr,Sem.run_bind,Sem.run_pure,Result.andThen_ok,hrun w' hkw]
       cases hag:i.agg with
       |true=>rfl
       |false=>
        obtain ⟨f,d,z,S⟩:=TI.of_spec (hT t i hi);have h1:=S.one (by rw [←S.agg];exact hag)
        simp [h1,List.getD]
    simp at hs
   simp at hs
  ·rename_i i n es row j off hi e
   rw [e] at hy
   split at hs
   ·rename_i hle
    simp only [Gn.ok.injEq] at hs;obtain ⟨rfl,rfl⟩:=hs;generalize hv:a.eval y=v at hy
    cases hy with
    |el _ b o cap hr h0 hj=>
     have hlen:(row j.toNat).length=es:=by
      cases hr with
      |emp=>omega
      |sl _ _ _ _ _ _ u hA hn hc hl hu hr=>exact hl _ A7
     obtain ⟨r,h1,h2⟩:=C8w (E:=E) (N:=s.next) (hT t i hi) hr h0 hj (off:=off) (by rw [hlen];exact Cz hle);exact ⟨r,fun w' hk=>by simp only [execOp,hv,Sem.run_bind,h1 w' hk,Result.andThen_ok];rfl,h2⟩
   simp at hs
  simp at hs
 ·split at hs
  ·split at hs
   ·split at hs<;>simp at hs
   simp at hs
  simp at hs
 ·rename_i t y f
  have hy:=h.ev y
  split at hs
  ·rename_i o u hf
   split at hs
   ·rename_i k off hsz e
    obtain ⟨j,hj,hjs⟩:=E9.1 hsz;rw [e] at hy;simp only [Gn.ok.injEq] at hs;obtain ⟨rfl,rfl⟩:=hs;generalize hv:a.eval y=v at hy
    cases hy with
    |box _ hk=>exact ⟨_,fun w' _=>by simp only [execOp,hv,Sem.run_bind,Mm hT hf hj (Cz hjs),Result.andThen_ok];rfl,.box _ hk⟩
   ·rename_i n es row j' off hsz e
    obtain ⟨j,hj,hjs⟩:=E9.1 hsz;rw [e] at hy;simp only [Gn.ok.injEq] at hs;obtain ⟨rfl,rfl⟩:=hs;generalize hv:a.eval y=v at hy
    cases hy with
    |el _ b o' cap hr h0 hi=>exact ⟨_,fun w' _=>by simp only [execOp,hv,Sem.run_bind,Mm hT hf hj (Cz hjs),Result.andThen_ok];rfl,by rw [Wm];exact .el _ b o' cap hr h0 hi⟩
   ·rename_i k es j' off hsz e
    obtain ⟨j,hj,hjs⟩:=E9.1 hsz;rw [e] at hy;simp only [Gn.ok.injEq] at hs;obtain ⟨rfl,rfl⟩:=hs;generalize hv:a.eval y=v at hy
    cases hy with
    |oel _ b o' n cap hk hov h0 hi=>exact ⟨_,fun w' _=>by simp only [execOp,hv,Sem.run_bind,Mm hT hf hj (Cz hjs),Result.andThen_ok];rfl,by rw [Wm];exact .oel _ b o' n cap hk hov h0 hi⟩
   simp at hs
  simp at hs
 ·rename_i t y f
  have hy:=h.ev y
  split at hs
  ·rename_i o u cs hf e
   rw [e] at hy
   split at hs
   ·rename_i j hj
    split at hs
    ·rename_i hle
     simp only [Gn.ok.injEq] at hs;obtain ⟨rfl,rfl⟩:=hs;generalize hv:a.eval y=v at hy
     cases hy with
     |agg vs hl hx=>
      obtain ⟨fs,F,h1,h2,h3,h4⟩:=Zu hT hf;subst h3 h4;have htj:=hT _ _ hj;obtain ⟨f',d,z,S⟩:=TI.of_spec htj;simp only [Cj] at hle;have hle1:=Cz hle.1;have hle2:=Cz hle.2;have hsz:=Yi htj;have hp:=fun w=>A66 (P:=P) F.type vs F.offset w (by simp [S.hd]) (by simp [S.hf]) (by rw [hsz,hl];exact hle1) (by rw [hsz];exact hle2);have hd:=Vc cs vs F.offset j hle1 hx
      have heq:Ut P F.type ((vs.drop F.offset).take (P.cellsOf F.type))=(match j.agg with|true=> .agg ((List.range j.size).map fun k=>vs.getD (F.offset+k) undef).toArray|false=>vs.getD F.offset undef):=by
       rw [hsz,S.agg];simp only [Ut,S.hd,Qv]
       cases Ks d with
       |true=>
        congr 2
        rw [A3t vs F.offset j.size (by rw [hl];exact hle1)]
       |false=>
        have:F.offset<vs.length:=by rw [hl];omega
        simp [List.getD,show 0<j.size by omega]
      refine ⟨_,fun w' _=>?_,(by rw [heq];exact hd:D0 E w (s.ag E) s.next (O2 j cs F.offset) (Ut P F.type ((vs.drop F.offset).take (P.cellsOf F.type))))⟩;simp only [execOp,hv,Instr.field,Sem.run_bind,run_underlying h1,Result.andThen_ok,h2,asAgg,Sem.run_pure,hp]
    simp at hs
   simp at hs
  simp at hs
 ·rename_i t y z
  have hy:=h.ev y;have hz:=h.ev z
  split at hs
  ·rename_i e n es row k j he ey ez
   obtain ⟨i,hi,hie⟩:=Wb.1 he;rw [ey] at hy;rw [ez] at hz
   split at hs
   ·rename_i hes
    obtain ⟨i',hi',hb⟩:=E9.1 hes;have hes:=F7 hb;simp only [Gn.ok.injEq] at hs;obtain ⟨rfl,rfl⟩:=hs;obtain ⟨h0,h1⟩:0≤j∧j<(n:Int):=hp _ Ef;generalize hv:a.eval y=v at hy;have hw:=B3 hz;have hund:=C1 (hT t i hi) hie;have hel:P.elem t=e:=by simp [Program.elem,hund]
    cases hy with
    |c hr=>
     cases hr with
     |nil=>simp at h1;omega
     |emp=>simp at h1;omega
     |sl _ _ _ b off cap u hA hn hc hl hu hr=>
      refine ⟨.pointer (some ⟨b,off+j.toNat * es+0,none⟩),fun w _=>?_,.el 0 b off cap (.sl n es row b off cap u hA hn hc hl hu hr) h0 h1⟩
      have:=run_indexAt_slice (P:=P) w t ⟨b,off,none⟩ n cap k j (by rw [hel];exact hund)
      rw [Ah ⟨h0,h1⟩,hel,B9 (hT _ _ hi')] at this;simp only [Result.andThen_ok,Iz] at this;simp only [execOp,hv,hw,Sem.run_bind,this,Result.andThen_ok,hes];rfl
   simp at hs
  ·rename_i e k ik j he ey ez
   obtain ⟨i,hi,hie⟩:=Wb.1 he;rw [ey] at hy;rw [ez] at hz
   split at hs
   ·rename_i n es row hg
    split at hs
    ·rename_i hes
     obtain ⟨i',hi',hb⟩:=E9.1 hes;have hes:=F7 hb;simp only [Gn.ok.injEq] at hs;obtain ⟨rfl,rfl⟩:=hs;obtain ⟨h0,h1⟩:0≤j∧j<(n:Int):=hp _ Ef;generalize hv:a.eval y=v at hy;have hw:=B3 hz;have hund:=C1 (hT t i hi) hie;have hel:P.elem t=e:=by simp [Program.elem,hund]
     cases hy with
     |own hk=>
      have hown:=(h.own _ (Ca hg)).2.1
      simp only at hown
      generalize hov:E.ov k=u,hfp:E.fp k=fp at hown
      cases hown with
      |nil=>simp at h1;omega
      |emp=>simp at h1;omega
      |sl _ _ _ b offb cap ty cells fps hn hc hb' hsz hl hr=>
       refine ⟨.pointer (some ⟨b,offb * es+j.toNat * es+0,none⟩),fun w _=>?_,.oel 0 b (offb * es) n cap hk hov h0 h1⟩
       have:=run_indexAt_slice (P:=P) w t ⟨b,offb * es,none⟩ n cap ik j (by rw [hel];exact hund)
       rw [Ah ⟨h0,h1⟩,hel,B9 (hT _ _ hi')] at this;simp only [Result.andThen_ok,Iz] at this;simp only [execOp,hv,hov,hw,Sem.run_bind,this,Result.andThen_ok,hes];rfl
    simp at hs
   simp at hs
  simp at hs
 ·rename_i t y z
  have hy:=h.ev y;have hz:=h.ev z
  split at hs
  ·rename_i b k j hst ey ez
   rw [ey] at hy;rw [ez] at hz;have e1:=B3 hy;have e2:=B3 hz;simp only [Gn.ok.injEq] at hs;obtain ⟨rfl,rfl⟩:=hs;obtain ⟨h0,h1⟩:0≤j∧j<(b.size:Int):=hp _ Ef;have hlt:j.toNat<b.size:=by omega
   have hg:b[j.toNat]? =some (b.data.getD j.toNat 0):=by
    rw [getElem?_pos b j.toNat hlt];have h2:j.toNat<b.data.size:=hlt;simp only [Array.getD,h2,dif_pos];rfl
   exact ⟨.int .u8 (b.data.getD j.toNat 0).toNat,fun w' _=>by simp [execOp,e1,e2,Instr.index,asIntOf,h0,hg,run_underlying (C3b hT hst)],den _ rfl⟩
  simp at hs
 ·rename_i y i
  have hy:=h.ev y
  split at hs
  ·rename_i xs e
   rw [e] at hy
   split at hs
   ·rename_i hlt
    simp only [Gn.ok.injEq] at hs;obtain ⟨rfl,rfl⟩:=hs;generalize hv:a.eval y=v at hy
    cases hy with
    |tup vs hl hx=>
     rw [Cb];have hi:i<xs.length:=by simp [Nat.blt] at hlt;omega
     have hi':i<vs.length:=by omega
     have:=hx i _ (Dh hi)
     refine ⟨vs[i],fun w' _=>by simp [execOp,hv,Instr.extract,hi'],?_⟩
     rw [Dh hi]
     simpa [List.getD,hi'] using this
   simp at hs
  simp at hs
 ·rename_i y
  have hy:=h.ev y
  split at hs
  ·rename_i k off e
   rw [e] at hy;simp only [Gn.ok.injEq] at hs;obtain ⟨rfl,rfl⟩:=hs;generalize hv:a.eval y=v at hy
   cases hy with
   |box _ hk=>exact ⟨_,fun w' _=>by simp only [execOp,hv];rfl,.box _ hk⟩
  ·rename_i n es row j off e
   rw [e] at hy;simp only [Gn.ok.injEq] at hs;obtain ⟨rfl,rfl⟩:=hs;generalize hv:a.eval y=v at hy
   cases hy with
   |el _ b o' cap hr h0 hi=>exact ⟨_,fun w' _=>by simp only [execOp,hv];rfl,.el _ b o' cap hr h0 hi⟩
  ·rename_i k es j off e
   rw [e] at hy;simp only [Gn.ok.injEq] at hs;obtain ⟨rfl,rfl⟩:=hs;generalize hv:a.eval y=v at hy
   cases hy with
   |oel _ b o' n cap hk hov h0 hi=>exact ⟨_,fun w' _=>by simp only [execOp,hv];rfl,.oel _ b o' n cap hk hov h0 hi⟩
  simp at hs
 ·rename_i args ats
  split at hs
  ·rename_i x' t ea et
   split at hs
   ·rename_i i hi
    have hy:=h.ev x';obtain rfl:args= #[x']:=by cases args;simp at ea;simp [ea]
    obtain rfl:ats= #[t]:=by cases ats;simp at et;simp [et]
    split at hs
    ·rename_i b hst e
     rw [e] at hy;have e1:=B3 hy;simp only [Gn.ok.injEq] at hs;obtain ⟨rfl,rfl⟩:=hs;exact ⟨.int .i64 b.size,fun w' _=>by simp [execOp,resolve,invoke,builtin,e1,Builtin.len_,run_underlying (Qs (hT t i hi) hst),goInt],den _ rfl⟩
    ·rename_i el a0 n c hst hel e
     rw [e] at hy;have e1:=B3 hy;simp only [Gn.ok.injEq] at hs;obtain ⟨rfl,rfl⟩:=hs;exact ⟨.int .i64 n,fun w' _=>by simp [execOp,resolve,invoke,builtin,e1,Builtin.len_,run_underlying (C1 (hT t i hi) hel),goInt],den _ rfl⟩
    ·rename_i el n es row hst hel e
     rw [e] at hy;simp only [Gn.ok.injEq] at hs;obtain ⟨rfl,rfl⟩:=hs
     have hsl:∃a0 c,a.eval x'= .slice a0 n c:=by
      generalize a.eval x'=v at hy
      cases hy with
      |c hr=>cases hr<;>exact ⟨_,_,rfl⟩
     obtain ⟨a0,c,e1⟩:=hsl;exact ⟨.int .i64 n,fun w' _=>by simp [execOp,resolve,invoke,builtin,e1,Builtin.len_,run_underlying (C1 (hT t i hi) hel),goInt],den _ rfl⟩
    ·rename_i el k hst hel e
     rw [e] at hy
     split at hs
     ·rename_i n es row hg
      simp only [Gn.ok.injEq] at hs;obtain ⟨rfl,rfl⟩:=hs
      have hsl:∃a0 c,a.eval x'= .slice a0 n c:=by
       generalize a.eval x'=v at hy
       cases hy with
       |own hk=>
        have:=(h.own _ (Ca hg)).2.1
        simp only at this
        generalize E.ov k=v,E.fp k=fp at this
        cases this<;>exact ⟨_,_,rfl⟩
      obtain ⟨a0,c,e1⟩:=hsl;exact ⟨.int .i64 n,fun w' _=>by simp [execOp,resolve,invoke,builtin,e1,Builtin.len_,run_underlying (C1 (hT t i hi) hel),goInt],den _ rfl⟩
     simp at hs
    simp at hs
   simp at hs
  simp at hs
 ·rename_i args ats
  split at hs
  ·rename_i x' y' ea
   obtain rfl:args= #[x',y']:=by cases args;simp at ea;simp [ea]
   have hy:=h.ev x';have hz:=h.ev y'
   split at hs
   ·rename_i k m j n ex ey
    rw [ex] at hy;rw [ey] at hz;have e1:=B3 hy;have e2:=B3 hz
    split at hs
    ·rename_i hk
     simp only [Gn.ok.injEq] at hs;obtain ⟨rfl,rfl⟩:=hs;exact ⟨_,fun w' _=>by simp [execOp,resolve,invoke,builtin,e1,e2,Builtin.max_,Builtin.max2],den _ rfl⟩
    simp at hs
   simp at hs
  simp at hs
 ·rename_i args ats
  split at hs
  ·rename_i x' y' ea
   obtain rfl:args= #[x',y']:=by cases args;simp at ea;simp [ea]
   have hy:=h.ev x';have hz:=h.ev y'
   split at hs
   ·rename_i k m j n ex ey
    rw [ex] at hy;rw [ey] at hz;have e1:=B3 hy;have e2:=B3 hz
    split at hs
    ·rename_i hk
     simp only [Gn.ok.injEq] at hs;obtain ⟨rfl,rfl⟩:=hs;exact ⟨_,fun w' _=>by simp [execOp,resolve,invoke,builtin,e1,e2,Builtin.min_,Builtin.min2],den _ rfl⟩
    simp at hs
   simp at hs
  simp at hs
 ·rename_i t u y
  split at hs
  ·rename_i i j hi hj
   obtain ⟨f1,d1,z1,S1⟩:=TI.of_spec (hT t i hi);have hy:=h.ev y
   split at hs
   ·rename_i b e
    rw [e] at hy;have e1:=B3 hy
    split at hs
    ·rename_i hst
     simp only [Gn.ok.injEq] at hs;obtain ⟨rfl,rfl⟩:=hs;exact ⟨.string b,fun w' _=>by simp [execOp,convert,e1,run_underlying S1.hd,run_underlying (Qs (hT u j hj) hst)],den _ rfl⟩
    simp at hs
   ·rename_i k0 n e
    rw [e] at hy;have e1:=B3 hy
    split at hs
    ·rename_i k hag hfl
     have hund:=A5e hT hj hag hfl
     cases wr<;>simp only [Gn.ok.injEq] at hs<;>obtain ⟨rfl,rfl⟩:=hs
     ·have h1:Js k n:=hp _ Ef
      exact ⟨.int k n,fun w' _=>by simp [execOp,convert,e1,run_underlying S1.hd,run_underlying hund,Conv.intToInt,L0 h1],den _ rfl⟩
     exact ⟨.int k (k.wrap n),fun w' _=>by simp [execOp,convert,e1,run_underlying S1.hd,run_underlying hund,Conv.intToInt],den _ rfl⟩
    simp at hs
   simp at hs
  simp at hs
 ·(repeat' (split at hs))<;>simp at hs
 ·(repeat' (split at hs))<;>simp at hs
 ·rename_i f first ao
  split at hs
  ·rename_i ef
   simp only [Gn.ok.injEq] at hs;obtain ⟨rfl,rfl⟩:=hs;obtain rfl:first= #[]:=by cases first;simp at ef;simp [ef]
   refine ⟨.func (.func f) #[] (ao.toList.map a.eval).toArray,fun w' _=>?_,.fn _ Ef (fun i x hx=>?_)⟩
   ·obtain ⟨ao⟩:=ao
    simp [execOp,Instr.makeFunc]
   simp only [Ec,E9] at hx;obtain ⟨c,hc,rfl⟩:=hx
   simpa [List.getD,hc] using h.ev c
  simp at hs
 simp at hs
variable {ops : Array Oper}
def Di:Op→Nat
 | .alloc _=>1
 | .box _ _=>1
 | .makeSlice _ _ _=>1
 | .buildSlice _ _ _=>1
 | .store _ _ _=>2
 | .call {callee:= .value _,..}=>1
 | .call {callee:= .builtin .append,..}=>2
 | .call {callee:= .builtin .copy,..}=>2
 | .call {callee:= .builtin .clear,..}=>2
 |_=>0
def Pd:Op→Bool
 | .move _=>true
 | .assign _=>true
 |_=>false
variable {o : Oper}
theorem Si (h:Pd o.op=true)(ρ:Operand→Value){v:Value}(hr:(execOp ρ o).run P w= .ok (.value v) w):(execOp ρ o).run P w'= .ok (.value v) w':=by
 obtain ⟨dst,op,ty,pos,after,guard⟩:=o
 cases op<;>simp [Pd] at h
 all_goals
  rename_i x
  simp only [execOp] at hr ⊢
  have:ρ x=v:=by simpa using hr
  rw [this];rfl
def Yc (P:Program) (N:Value→World→Prop):Result Next→Prop
 | .ok (.value v) w=>N v w
 | .ok .skip w=>N undef w
 | .ok (.enter f args) w=>Calls P f args w fun e w'=>∃v,e= .returned v∧N v w'
 |_=>False
theorem Yc.mono {N N':Value→World→Prop}(h:∀v w,N v w→N' v w){r:Result Next}(hr:Yc P N r):Yc P N' r:=by
 cases r with
 |ok n w=>cases n<;>first|exact h _ _ hr|exact hr|exact Calls.mono hr fun e w' ⟨v,h1,h2⟩=>⟨v,h1,h _ _ h2⟩
 |halt x w=>exact hr
def Kp (P:Program) (o:Oper) (a:Act) (w:World) (K:Act→World→Prop):Prop:=
 Yc P (fun v w'=>(Di o.op≤1→Ed w w')∧K (a.put o.dst v) w') ((execOp a.eval o).run P w)
variable {K : Act → World → Prop} {K' : Act → World → Prop}
theorem Kp.mono (h:∀a w,K a w→K' a w)(hd:Kp P o a w K):Kp P o a w K':=
 Yc.mono (fun _ _ ⟨h1,h2⟩=>⟨h1,h _ _ h2⟩) hd
variable {Q : Exit → Act → World → Prop}
theorem Kp.wp (hd:Kp P o a w K):o.wp P a w K Q:=by
 unfold Kp at hd;unfold Oper.wp;generalize (execOp a.eval o).run P w=r at *
 cases r with
 |ok n w'=>
  cases n<;>simp only [Yc] at hd<;>simp only [Oper.upon]
  case value v=>exact hd.2
  case skip=>exact hd.2
  case enter f args=>exact hd.mono fun e w'' ⟨v,he,h⟩=>by subst he;exact h.2
 |halt x w'=>simp only [Yc] at hd
def C3q (P:Program) (o:Oper) (a:Act) (w:World) (v:Value):Prop:=∀w',Pd o.op=true∨Ed w w'→(execOp a.eval o).run P w'= .ok (.value v) w'
def Fz (P:Program) (ops:Array Oper) (Q:Act→World→Prop):List Oper→Act→World→Prop
 | [],a,w=>Q a w
 |o::rest,a,w=>
  if Region.wanted o (yielded ops a.tmps) then
   (∃v,(∀w',Ed w w'→(execOp a.eval o).run P w'= .ok (.value v) w')∧Fz P ops Q rest (a.put o.dst v) w)∨(Di o.op≠0∧Kp P o a w (Fz P ops Q rest))
  else Fz P ops Q rest (a.put o.dst undef) w
def opM (P:Program) (ops:Array Oper) (i:Nat) (K:Act→World→Prop) (a:Act) (w:World):Prop:=
 match ops[i]? with
 |none=>K a w
 |some o=>if Region.wanted o (yielded ops a.tmps) then Kp P o a w K else K (a.put o.dst undef) w
theorem B47 (h:∀a w,K a w→K' a w)(hh:opM P ops i K a w):opM P ops i K' a w:=by
 unfold opM at *
 split
 ·exact h _ _ (by simpa [*] using hh)
 rename_i o ho
 simp only [ho] at hh
 split
 ·rename_i hw;simp only [hw,Mo] at hh;exact Kp.mono h hh
 rename_i hw;simp only [hw] at hh;exact h _ _ hh
def R3 (P:Program) (ops:Array Oper) (Q:Act→World→Prop):Nat→Array Bool→Act→World→Prop
 | 0,listed,a,w=>Region.ready .any ops listed=[]∧Q a w
 |fuel+1,listed,a,w=>(Region.ready .any ops listed=[]→Q a w)∧∀i∈Region.ready .any ops listed,opM P ops i (R3 P ops Q fuel (listed.setIfInBounds i true)) a w
theorem Wu {Q:Act→World→Prop}{Q':Exit→Act→World→Prop}(hQ:∀a w,Q a w→Q' .normal a w):∀(fuel:Nat) (listed:Array Bool) (a:Act) (w:World),
  R3 P ops Q fuel listed a w→wpAny P .any ops Q' fuel listed a w
 | 0,_,_,_,h=>⟨h.1,hQ _ _ h.2⟩
 |fuel+1,listed,a,w,h=>⟨fun h0=>hQ _ _ (h.1 h0),fun i hi=>by
   have:=h.2 i hi
   unfold opM at this;unfold wpOp
   split
   ·rename_i ho;simp only [ho] at this;exact Wu hQ _ _ _ _ this
   rename_i o ho
   simp only [ho] at this
   split
   ·rename_i hw;simp only [hw,Mo] at this;exact .inl (Kp.wp (this.mono fun a' w'=>Wu hQ fuel _ a' w'))
   rename_i hw;simp only [hw] at this;exact Wu hQ fuel _ _ _ this⟩
def M3 (P:Program) (ops:Array Oper) (o:Oper) (v:Value) (a:Act) (w:World):Prop:=
 (Region.wanted o (yielded ops a.tmps)=true∧C3q P o a w v)∨(Region.wanted o (yielded ops a.tmps)=false∧v=undef)
theorem M3.opM {v:Value}(hi:ops[i]? =some o)(hy:M3 P ops o v a w)(h:K (a.put o.dst v) w):opM P ops i K a w:=by
 unfold Sx.opM;simp only [hi]
 rcases hy with ⟨hw,hv⟩|⟨hw,rfl⟩
 ·simp only [hw,Mo]
  unfold Kp;rw [hv w (.inr (Ed.refl w))];exact ⟨fun _=>Ed.refl w,h⟩
 simp only [hw,T5,T6];exact h
theorem M3.of_same {v:Value}{a':Act}(hy:M3 P ops o v a w)(he:execOp a'.eval o=execOp a.eval o)(hw:Region.wanted o (yielded ops a'.tmps)=Region.wanted o (yielded ops a.tmps))(hk:Pd o.op=true∨Ed w w'):M3 P ops o v a' w':=by
 unfold M3 C3q at *;rw [he,hw];refine hy.imp (fun ⟨h1,h2⟩=>⟨h1,fun w'' h=>h2 w'' ?_⟩) id
 rcases hk with hk|hk
 ·exact .inl hk
 exact h.imp id hk.trans
theorem C9i {oi oj:Oper}{v:Value}(hj:ops[j]? =some oj)(hap:oi.apart ops oj=true)(hkind:Pd oi.op=true∨Di oj.op≤1)(hsi:∀cs b,oi.op≠ .select cs b)(hsj:∀cs b,oj.op≠ .select cs b)(hy:M3 P ops oi v a w)(h:opM P ops j K (a.put oi.dst v) w):
  opM P ops j (fun a' w'=>M3 P ops oi v a' w'∧K (a'.put oi.dst v) w') a w:=by
 obtain ⟨h1,h2,h3⟩:=Oper.apart_spec hap
 have keep:∀w',(Pd oi.op=true∨Ed w w')→∀u,M3 P ops oi v (a.put oj.dst u) w':=fun w' hk u=>
  hy.of_same (execOp_put oi hsi a oj.dst u h3) (wanted_put oi a oj.dst u h3) hk
 unfold opM at *;simp only [hj] at *;rw [wanted_put oj a oi.dst v h1] at h
 split
 ·rename_i hw
  simp only [hw,Mo] at h;unfold Kp at *;rw [execOp_put oj hsj a oi.dst v h1] at h;refine Yc.mono (fun u w' ⟨k1,k2⟩=>⟨k1,keep w' (hkind.imp id k1) u,?_⟩) h;rw [←Act.put_comm a v u h2];exact k2
 rename_i hw
 simp only [hw] at h;exact ⟨keep w (.inr (Ed.refl w)) _,by rw [←Act.put_comm a v undef h2];exact h⟩
def Pp (ops:Array Oper) (listed:Array Bool):Prop:=∀j o,ops[j]? =some o→listed.getD j false=true→∀e∈o.after,Region.binds .any e=true→listed.getD e.on false=true
variable {listed : Array Bool}
theorem Pp.set (h:Pp ops listed)(hi:i∈Region.ready .any ops listed):Pp ops (listed.setIfInBounds i true):=by
 intro j o ho hl e he hb;refine getD_set_true ?_
 by_cases hij:i=j
 ·subst hij
  obtain ⟨_,o',ho',hall⟩:=mem_ready.1 hi;rw [ho] at ho';obtain rfl:=Bv ho';exact hall e he hb
 rw [getD_set_ne false hij] at hl;exact h j o ho hl e he hb
def inN (i:Nat):List Nat→Bool
 | []=>false
 |j::r=>match Nat.beq i j with
  |true=>true
  |false=>inN i r
theorem B9m:∀{l:List Nat},inN i l=true→i∈l
 | [],h=>by simp [inN] at h
 |j::r,h=>by
  unfold inN at h
  split at h
  ·rename_i e;rw [F7 e];exact Hq
  exact Cq _ (B9m h)
def B70:List Edge→List Nat
 | []=>[]
 |e::r=>match Region.binds .any e with
  |true=>e.on::B70 r
  |false=>B70 r
theorem A0o:∀{l:List Edge},k∈B70 l→∃e∈l,Region.binds .any e=true∧e.on=k
 | [],h=>by simp [B70] at h
 |e::r,h=>by
  unfold B70 at h
  split at h
  ·rename_i hb
   rcases C7.1 h with h|h
   ·exact ⟨e,Hq,hb,h.symm⟩
   obtain ⟨e',h1,h2⟩:=A0o h;exact ⟨e',Cq _ h1,h2⟩
  obtain ⟨e',h1,h2⟩:=A0o h;exact ⟨e',Cq _ h1,h2⟩
def Vv (ops:Array Oper) (i:Nat):Nat→List Nat→List Nat→Bool
 | 0,_,_=>false
 |_+1,[],_=>false
 |f+1,j::todo,seen=>
  match inN j seen with
  |true=>Vv ops i f todo seen
  |false=>match ops[j]? with
   |some o=>match inN i (B70 o.after.toList) with
    |true=>true
    |false=>Vv ops i f (B70 o.after.toList++todo) (j::seen)
   |none=>Vv ops i f todo seen
theorem Ob (hc:Pp ops listed):∀(f:Nat) (todo seen:List Nat),Vv ops i f todo seen=true→
  (∀j∈todo,∀o,ops[j]? =some o→∀e∈o.after,Region.binds .any e=true→listed.getD e.on false=true)→listed.getD i false=true
 | 0,_,_,h,_=>by simp [Vv] at h
 |f+1,[],_,h,_=>by simp [Vv] at h
 |f+1,j::todo,seen,h,hj=>by
  unfold Vv at h
  split at h
  ·exact Ob hc f todo seen h (fun k hk=>hj k (Cq _ hk))
  split at h
  ·rename_i o ho
   have hP:=hj j Hq o ho
   split at h
   ·rename_i hm
    obtain ⟨e,he,hb,hon⟩:=A0o (B9m hm)
    have:=hP e (Uf.1 he) hb
    rw [hon] at this;exact this
   refine Ob hc f _ _ h (fun k hk=>?_)
   rcases Hg.1 hk with hk|hk
   ·obtain ⟨e,he,hb,hon⟩:=A0o hk
    have hl:=hP e (Uf.1 he) hb;rw [hon] at hl;exact fun o' ho' e' he' hb'=>hc k o' ho' hl e' he' hb'
   exact hj k (Cq _ hk)
  exact Ob hc f todo seen h (fun k hk=>hj k (Cq _ hk))
def Wa (ops:Array Oper) (_ j i:Nat):Bool:=Vv ops i 2000 [j] []
theorem A9k (hc:Pp ops listed)(f j:Nat)(h:Wa ops f j i=true)(hj:∀o,ops[j]? =some o→∀e∈o.after,Region.binds .any e=true→listed.getD e.on false=true):listed.getD i false=true:=
 Ob hc 2000 [j] [] h (fun k hk=>by rw [Hh.1 hk];exact hj)
theorem Vy (hi:i∈Region.ready .any ops listed):listed.getD i false=false:=by
 have h0:=(mem_ready.1 hi).1
 rcases Nat.lt_or_ge i listed.size with h'|h'
 ·simp [h'] at h0 ⊢;exact h0
 simp [Array.getElem?_eq_none h']
theorem Nt {Q:Act→World→Prop}{oi:Oper}{v:Value}(hi:ops[i]? =some oi)(hsel:∀(j:Nat) (o:Oper) cs b,ops[j]? =some o→o.op≠ .select cs b)(n:Nat):
  ∀(fuel:Nat) (listed:Array Bool) (a:Act) (w:World),Pp ops listed→
   (∀j oj,ops[j]? =some oj→j≠i→listed.getD j true=false→Wa ops n j i=true∨(oi.apart ops oj=true∧(Pd oi.op=true∨Di oj.op≤1)))→
   i∈Region.ready .any ops listed→M3 P ops oi v a w→
   R3 P ops Q fuel (listed.setIfInBounds i true) (a.put oi.dst v) w→R3 P ops Q (fuel+1) listed a w:=by
 intro fuel
 induction fuel with
 |zero=>
  intro listed a w _ _ hr hy H;refine ⟨fun h=>(by rw [h] at hr;cases hr),fun j hj=>?_⟩
  by_cases hji:j=i
  ·subst hji;exact hy.opM hi H
  have:=ready_mono hj hji
  rw [H.1] at this
  cases this
 |succ fuel ih=>
  intro listed a w hcl hfree hr hy H;refine ⟨fun h=>(by rw [h] at hr;cases hr),fun j hj=>?_⟩
  by_cases hji:j=i
  ·subst hji;exact hy.opM hi H
  have h1:=H.2 j (ready_mono hj hji);obtain ⟨hjun,oj,hoj,hall⟩:=mem_ready.1 hj;have hun:=Vy hr
  have hf:oi.apart ops oj=true∧(Pd oi.op=true∨Di oj.op≤1):=by
   rcases hfree j oj hoj hji hjun with h|h
   ·have:=A9k hcl n j h (fun o ho e he hb=>by rw [hoj] at ho;obtain rfl:=Bv ho;exact hall e he hb)
    rw [hun] at this
    cases this
   exact h
  have h2:=C9i hoj hf.1 hf.2 (fun cs b=>hsel i oi cs b hi) (fun cs b=>hsel j oj cs b hoj) hy h1
  have hfree':∀k ok,ops[k]? =some ok→k≠i→(listed.setIfInBounds j true).getD k true=false→
    Wa ops n k i=true∨(oi.apart ops ok=true∧(Pd oi.op=true∨Di ok.op≤1)):=fun k ok hk hki hun=>by
   refine hfree k ok hk hki ?_
   by_cases hjk:j=k
   ·subst hjk;exact hjun
   rw [getD_set_ne true hjk] at hun;exact hun
  refine B47 (fun a' w' h3=>ih (listed.setIfInBounds j true) a' w' (hcl.set hj) hfree' (ready_mono hr (Ne.symm hji)) h3.1 ?_) h2;rw [Array.setIfInBounds_comm _ _ hji];exact h3.2
def B35 (ops:Array Oper) (listed:Array Bool) (i:Nat) (oi:Oper):Bool:=
 (List.range ops.size).all fun j=>j==i||listed.getD j true||(match ops[j]? with
  |some oj=>oi.apart ops oj&&(Pd oi.op||Nat.ble (Di oj.op) 1)
  |none=>true)||Wa ops ops.size j i
def X2 (ops:Array Oper):List Nat→Array Bool→Bool
 | [],listed=>(Region.ready .any ops listed).isEmpty
 |i::rest,listed=>(match ops[i]? with
   |some o=>match Di o.op with
    | 0=>(Region.ready .any ops listed).contains i&&B35 ops listed i o
    |_=>match Region.ready .any ops listed with
     | [j]=>j==i
     |_=>false
   |none=>false)&&X2 ops rest (listed.setIfInBounds i true)
def Ys (ops:Array Oper) (ord:List Nat):List Oper:=ord.filterMap fun i=>ops[i]?
def C54 (ops:Array Oper) (ord:List Nat):Bool:=Region.noSelect ops&&(ord.length==ops.size)&&X2 ops ord (Array.replicate ops.size false)
theorem Zh {Q:Act→World→Prop}(hsel:∀(j:Nat) (o:Oper) cs b,ops[j]? =some o→o.op≠ .select cs b):∀(ord:List Nat) (listed:Array Bool) (a:Act) (w:World),
  X2 ops ord listed=true→Pp ops listed→Fz P ops Q (ord.filterMap fun i=>ops[i]?) a w→R3 P ops Q ord.length listed a w
 | [],listed,a,w,h,_,hq=>⟨by simpa [X2] using h,hq⟩
 |i::rest,listed,a,w,h,hc,hq=>by
  unfold X2 at h;simp only [Cj] at h;obtain ⟨h1,h2⟩:=h
  split at h1
  ·rename_i o ho
   have hl:(i::rest).filterMap (fun i=>ops[i]?)=o::rest.filterMap (fun i=>ops[i]?):=by simp [ho]
   rw [hl] at hq
   split at h1
   ·rename_i hk
    simp only [Cj,Z6] at h1;obtain ⟨hr,hf⟩:=h1
    have hfree:∀j oj,ops[j]? =some oj→j≠i→listed.getD j true=false→Wa ops ops.size j i=true∨(o.apart ops oj=true∧(Pd o.op=true∨Di oj.op≤1)):=by
     intro j oj hoj hji hun
     have:=Ja.1 hf j (Fk.2 (T2.1 hoj).1)
     simp only [hoj,hun,A2c,Yd,Rv,hji,false_or,Cj] at this;exact this.symm.imp id fun ⟨h1,h2⟩=>⟨h1,h2.imp id fun h=>Cz h⟩
    have hy:∃v,M3 P ops o v a w∧Fz P ops Q (rest.filterMap fun i=>ops[i]?) (a.put o.dst v) w:=by
     unfold Fz at hq
     by_cases hw:Region.wanted o (yielded ops a.tmps)=true
     ·rw [Ah hw] at hq
      rcases hq with ⟨v,h1,h2⟩|⟨hn,_⟩
      ·exact ⟨v,.inl ⟨hw,fun w' hk=>hk.elim (fun hb=>Si hb a.eval (h1 w (Ed.refl w))) (h1 w')⟩,h2⟩
      exact absurd hk hn
     rw [Ab hw] at hq;exact ⟨undef,.inr ⟨by simpa using hw,rfl⟩,hq⟩
    obtain ⟨v,hy,hK⟩:=hy;exact Nt ho hsel ops.size rest.length listed a w hc hfree hr hy (Zh hsel rest _ _ _ h2 (hc.set hr) hK)
   split at h1
   ·rename_i j hrd
    obtain rfl:j=i:=by simpa using h1
    have hr:j∈Region.ready .any ops listed:=by rw [hrd];simp
    refine ⟨fun h0=>(by rw [h0] at hrd;cases hrd),fun k hk=>?_⟩;rw [hrd] at hk;obtain rfl:k=j:=by simpa using hk
    have ih:=fun a w=>Zh (Q:=Q) hsel rest (listed.setIfInBounds k true) a w h2 (hc.set hr);unfold opM;simp only [ho];unfold Fz at hq
    split
    ·rename_i hw
     rw [Ah hw] at hq
     rcases hq with ⟨v,h1,h2⟩|⟨_,hd⟩
     ·unfold Kp
      rw [h1 w (Ed.refl w)];exact ⟨fun _=>Ed.refl w,ih _ _ h2⟩
     exact hd.mono fun a w h=>ih a w h
    rename_i hw
    rw [Ab hw] at hq;exact ih _ _ hq
   simp at h1
  simp at h1
variable {id : Nat}
theorem A9l {ord:List Nat}(hm:P.follows .mixedOrders=true)(hB:C54 ops ord=true)(h:Fz P ops (fun a w=>Q .normal a w) (Ys ops ord) a {w with drawn:=w.drawn+1}):(Code.region id ops true).wp P Q a w:=by
 simp only [C54,Cj,Rv] at hB;obtain ⟨⟨h1,h2⟩,h3⟩:=hB;refine wp_region_any hm (Wu (Q:=fun a w=>Q .normal a w) (fun _ _ h=>h) _ _ _ _ ?_)
 have:=Zh (Region.noSelect_spec h1) ord (Array.replicate ops.size false) a _ h3 (fun j o _ hl=>by exfalso;by_cases hj:j<ops.size<;>simp [hj] at hl) h
 rwa [h2] at this
open Go.RowKit (Below)
theorem Nu (wr:Bool)(op:BinOp)(t:TypeId)(x y:AV):(∀c,A4u wr T op t x y≠ .new c)∧(∀c,A4u wr T op t x y≠ .mem c)∧∀p c,A4u wr T op t x y≠ .own p c:=by
 refine ⟨?_,?_,?_⟩<;>intros<;>intro h<;>unfold A4u at h<;>(repeat' (split at h))<;>simp at h
variable {cells : List AV}
theorem C7c (hT:C0 P T)(hs:Lk T wr s op= .new cells)(h:s.is B E a w)(o:Oper)(ho:o.op=op):∃vs ty,(execOp a.eval o).run P w= .ok (.value (.pointer (some ⟨w.heap.size,0,none⟩))) (w.alloc (.cells vs ty))∧vs.size=cells.length∧
   (∀j y,cells[j]? =some y→D0 E w (s.ag E) s.next y (vs.getD j undef))∧Di op=1:=by
 obtain ⟨dst,op',ty,pos,after,guard⟩:=o
 simp only at ho
 subst ho;unfold Lk at hs
 split at hs
 case h_5 t=>
  split at hs
  ·rename_i i hi
   simp only [Gn.new.injEq] at hs;subst hs;obtain ⟨z,hz,hrun⟩:=W4 (hT t i hi);obtain ⟨h1,h2⟩:=A4b (hT t i hi) hz E w (s.ag E) s.next;exact ⟨z.cells,t,by simp [execOp,Instr.alloc,hrun,newVar,newRow],h1,h2,rfl⟩
  simp at hs
 case h_6 t x=>
  split at hs
  ·rename_i hc
   simp only [Gn.new.injEq] at hs;subst hs;obtain ⟨h1,h2,h3⟩:=Rb (h.ev x) hc h.one;exact ⟨(a.eval x).cells,t,by simp [execOp,Instr.box,newVar,newRow],h1,h2,rfl⟩
  simp at hs
 case h_3=>exact absurd hs ((Nu ..).1 _)
 all_goals (exfalso;(repeat' (split at hs))<;>simp at hs)
theorem C7b (hT:C0 P T){bx:List Bx}(hs:Lk T wr s op= .mem bx)(h:s.is B E a w)(o:Oper)(ho:o.op=op):∃w',(execOp a.eval o).run P w= .ok .skip w'∧({s with aw:=bx}:AS).is B E a w'∧Di op=2:=by
 obtain ⟨dst,op',ty,pos,after,guard⟩:=o
 simp only at ho
 subst ho;unfold Lk at hs
 split at hs
 case h_9 t x y=>
  split at hs
  ·rename_i i k off hi e
   split at hs
   ·rename_i b hb
    split at hs
    ·rename_i h1 h2 h3
     simp only [Gn.mem.injEq] at hs;subst hs;have hx:=h.ev x;rw [e] at hx;obtain ⟨c1,c2,c3⟩:=Rb (h.ev y) h3 h.one;have h1:=Cz h1;have h2:=F7 h2;generalize hv:a.eval x=v at hx
     cases hx with
     |box _ hk=>
      obtain ⟨hm,rfl⟩:=F9 hb;obtain ⟨hlt,vs0,ty0,hh0,hs0,hd0⟩:=h.aw b hm;have hst:=run_storeCells_at P (E.β b.key) off ty0 (a.eval y).cells.toList 0 vs0 w hh0 P4 c3;simp only [T3] at hst
      have hrun:(Instr.storeAt t (.pointer (some ⟨E.β b.key,off,none⟩)) (a.eval y)).run P w= .ok () (w.setRow (E.β b.key) (vs0.toList.take off++(a.eval y).cells.toList++vs0.toList.drop (off+(a.eval y).cells.toList.length)).toArray):=by
       simp [Instr.storeAt,Instr.sureAddr,storeVar,B9 (hT t i hi),c1,h2,hst]
      refine ⟨_,by simp only [execOp,hv,Sem.run_bind,hrun,Result.andThen_ok];rfl,?_,rfl⟩;refine h.setBox hb _ _ ?_ (fun j z hj=>?_)
      ·simp [Yb,c1];omega
      rw [B8p] at hj;have hlen:(List.take off vs0.toList).length=off:=by simp;omega
      simp only [←Bn,List.getD] at hd0 c2 ⊢
      by_cases hr:off≤j∧j<off+(s.ev y).cellsOf.length∧j<b.cells.length
      ·rw [Ah hr] at hj
       have:=c2 _ _ hj
       rw [Ci,F8 A7,hlen,F3 P4];exact this
      rw [Ab hr] at hj
      have:=hd0 _ _ hj
      have hjl:j<b.cells.length:=(Cu.1 hj).1
      by_cases hlo:j<off
      ·rw [Ci,F3 A7]
       simpa [Wn,hlo] using this
      rw [F8 P4];simp only [Dn,hlen,T7];rw [show off+(a.eval y).cells.toList.length+(j-(off+(a.eval y).cells.toList.length))=j by simp;omega]
      exact this
    simp at hs
   simp at hs
  simp at hs
 case h_3=>exact absurd hs ((Nu ..).2.1 _)
 all_goals (exfalso;(repeat' (split at hs))<;>simp at hs)
theorem Ko (h:Nat.blt k n=true):k<n:=by simp [Nat.blt] at h;omega
theorem Qg (z:Array Value)(n k:Nat)(hk:k<n):(madeCells z n).getD k undef=z[k % z.size]! :=by
 simp [madeCells,Array.getD,hk]
variable {α : Type}
theorem Zv (l:List α):l.flatMap (fun _=>([]:List Nat))=[]:=by
 induction l with
 |nil=>rfl
 |cons x l ih=>simp
theorem Xm {fields:List (Nat×TypeId)}{ps:List (Nat×Operand)}{acc out:List AV}(h:Tj T fields s ps acc=some out):out.length=acc.length:=by
 induction ps generalizing acc with
 |nil=>obtain rfl:=Bv h;rfl
 |cons p ps ih=>
  obtain ⟨f,x⟩:=p;unfold Tj at h
  split at h
  ·simp at h
  split at h
  ·simp at h
  split at h
  ·rw [ih h,Yb]
  simp at h
theorem Jc (w:World)(o:Obj):Below w.heap.size w (w.alloc o):=(Below.refl _ _).alloc (Bu _) o
theorem B6g {l:List AV}{xs:List Ad}(h:B28 l=some xs):xs.length=l.length∧∀(k:Nat) (x:Ad),xs[k]? =some x→∃v,l[k]? =some (.v v)∧x= .val v:=by
 induction l generalizing xs with
 |nil=>obtain rfl:=Bv h;simp
 |cons c l ih=>
  unfold B28 at h
  split at h
  ·rename_i heq;simp at heq
  ·rename_i v r heq
   simp only [Nf] at heq;obtain ⟨rfl,rfl⟩:=heq
   split at h
   ·rename_i cs hcs
    obtain rfl:=Bv h;obtain ⟨h1,h2⟩:=ih hcs;refine ⟨by simp [h1],fun k x hk=>?_⟩
    cases k with
    |zero=>simp only [H3,Em] at hk;subst hk;exact ⟨v,by simp,rfl⟩
    |succ k=>simpa using h2 k x (by simpa using hk)
   simp at h
  simp at h
theorem Y7 (n i size:Nat)(e:TypeId)(k:Nat)(o:Nat)(u:TypeId)(h:(K9 n i size e)[k]? =some (o,u)):o=(i+k) * size∧u=e:=by
 induction n generalizing i k with
 |zero=>simp [K9] at h
 |succ n ih=>
  cases k with
  |zero=>simp [K9] at h;exact ⟨by rw [←h.1];simp,h.2.symm⟩
  |succ k=>
   have:=ih (i+1) k (by simpa [K9] using h)
   exact ⟨by rw [this.1];congr 1;omega,this.2⟩
theorem Ml (n:Nat)(l:List α):(repL n l).length=n * l.length:=by
 induction n with
 |zero=>simp [repL]
 |succ n ih=>simp [repL,ih,Pj];omega
theorem B5o (n:Nat)(l:List α)(k:Nat)(h:k<n * l.length):(repL n l)[k]? =l[k % l.length]? :=by
 induction n generalizing k with
 |zero=>simp at h
 |succ n ih=>
  simp only [repL]
  by_cases hk:k<l.length
  ·rw [F3 hk,A76 hk]
  rw [F8 A7,ih (k-l.length) (by rw [G1,Nat.one_mul] at h;omega)]
  congr 1
  exact (Nat.mod_eq_sub_mod A7).symm
theorem C7d (hT:C0 P T)(hs:Lk T wr s op= .own ps c)(hp:∀p∈ps,p)(h:s.is B E a w)(o:Oper)(ho:o.op=op):∃v w' fp,(execOp a.eval o).run P w= .ok (.value v) w'∧Bz w' c v fp∧fp.Nodup∧(∀b∈fp,w.heap.size≤b)∧Below w.heap.size w w'∧Di op=1:=by
 obtain ⟨dst,op',ty,pos,after,guard⟩:=o
 simp only at ho
 subst ho;unfold Lk at hs
 split at hs
 case h_3=>exact absurd hs ((Nu ..).2.2 _ _)
 case h_20 t x y=>
  split at hs
  ·rename_i e kl la kc lb he ex ey
   obtain ⟨i,hi,hie⟩:=Wb.1 he
   split at hs
   ·rename_i j hj
    split at hs
    ·rename_i hbz
     simp only [Gn.own.injEq] at hs;obtain ⟨rfl,rfl⟩:=hs;obtain ⟨h0,h1,h2⟩:0≤la∧la≤lb∧lb≤1099511627776:=hp _ Ef;have hx:=h.ev x;have hy:=h.ev y;rw [ex] at hx;rw [ey] at hy;have e1:=B3 hx;have e2:=B3 hy;have hbz:=Cz hbz;obtain ⟨f,d,z,S⟩:=TI.of_spec (hT e j hj);have hzs:z.cells.size=j.size:=by have:=S.zlen;rw [←S.cells] at this;simpa using this
     have hbytes:(f.bytes:Int) * lb≤281474976710656:=by
      rw [S.bytes];have h3:(j.bytes:Int)≤256:=by omega
      have:(j.bytes:Int) * lb≤256 * 1099511627776:=Int.mul_le_mul h3 h2 A7 A7
      omega
     have hrun:=run_make (P:=P) w t e f z (C1 (hT t i hi) hie) S.hf S.hz kl kc la lb h0 h1 hbytes A7;refine ⟨_,_,[w.heap.size],by simp only [execOp,e1,e2,Sem.run_bind,hrun,Result.andThen_ok];rfl,?_,by simp,by simp,Jc w _,rfl⟩
     have hown:=Bz.sl (w:=w.alloc (.cells (madeCells z.cells (lb.toNat * f.size)) e)) la.toNat j.size (fun _=>j.zero.map Ad.val) w.heap.size 0 lb.toNat e (madeCells z.cells (lb.toNat * f.size)) (fun _=>[])
      A7 (by simp only [maxLen];omega) (heap_alloc_new w _) (by rw [S.size];simp [madeCells]) (fun _ _=>by simp [S.zlen]) (fun k m c hk hc=>by
       simp only [Ec,E9] at hc;obtain ⟨v,hv,rfl⟩:=hc;have hm:m<j.size:=by rw [←S.zlen];exact (Cu.1 hv).1
       have hlt:(0+k) * j.size+m<lb.toNat * f.size:=by rw [S.size];exact Gs A7 hm
       have hv1:(madeCells z.cells (lb.toNat * f.size)).getD ((0+k) * j.size+m) undef=v:=by
        rw [Qg _ _ _ hlt,hzs,Qu,Nat.mul_add_mod,A76 hm];have h4:m<z.cells.size:=by omega
        have h5:z.cells[m]? =some v:=by rw [←Array.getElem?_toList,S.cells];exact hv
        simp [getElem!_pos,h4]
        rw [Se h4] at h5;exact Bv h5
       rw [hv1]
       exact .val v (K7 S.zone v (Hr hv)))
     rw [Zv] at hown
     simpa using hown
    simp at hs
   simp at hs
  simp at hs
 case h_21 t len parts=>
  split at hs
  ·rename_i e he
   obtain ⟨i,hi,hie⟩:=Wb.1 he
   split at hs
   ·rename_i j hj
    split at hs
    ·rename_i cs hsmall hcs
     split at hs
     ·rename_i vals hvals
      simp only [Gn.own.injEq] at hs;obtain ⟨rfl,rfl⟩:=hs;obtain ⟨f,d,z,S⟩:=TI.of_spec (hT e j hj);have hzs:z.cells.size=j.size:=by have:=S.zlen;rw [←S.cells] at this;simpa using this
      simp only [Cj] at hsmall;have hpos:=Ko hsmall.2;have hsmall:=Cz hsmall.1;have hlen:len≤len * j.size:=Nat.le_mul_of_pos_right _ hpos
      have hz0:DL E w (s.ag E) s.next (repL len (Jo j)) ((Array.range (len * j.size)).map (z.cells[· % z.cells.size]!)):=by
       refine ⟨by simp [Ml,Jo,S.zlen],fun k y hy=>?_⟩;have hzl:(Jo j).length=j.size:=by simp [Jo,S.zlen]
       have hk:k<len * j.size:=by have:=(Cu.1 hy).1;rwa [Ml,hzl] at this
       rw [B5o _ _ _ (by rw [hzl];exact hk),hzl] at hy
       have:=(A4b (hT e j hj) S.cells E w (s.ag E) s.next).2 _ _ hy
       have hm:k % j.size<z.cells.size:=by rw [hzs];exact Ub _ (Z2 (fun h=>by rw [h] at hk;simp at hk))
       have e1:((Array.range (len * j.size)).map (z.cells[· % z.cells.size]!)).getD k undef=z.cells.getD (k % j.size) undef:=by
        have:=Qg z.cells (len * j.size) k hk
        rw [show (Array.range (len * j.size)).map (z.cells[· % z.cells.size]!)=madeCells z.cells (len * j.size) from rfl,this,hzs]
        rw [getElem!_pos z.cells _ hm];simp only [Array.getD,hm,dif_pos];rfl
       rw [e1];exact this
      obtain ⟨cs',hfill,hDL⟩:=B1n hT h (K9 len 0 j.size e) (fun k=>some (k * j.size,j.size)) (fun k o u hk j' hj'=>by
       obtain ⟨rfl,rfl⟩:=Y7 _ _ _ _ _ _ _ hk;rw [hj] at hj';obtain rfl:=Bv hj'
       simp) parts.toList _ _ cs hcs hz0
      obtain ⟨v1,v2⟩:=B6g hvals
      have hcsl:cs'.size=len * j.size:=by
       have:=hDL.1
       have h2:cs.length=len * j.size:=by
        have:=Xm hcs
        rw [this,Ml]
        simp [Jo,S.zlen]
       omega
      have hrun:(Instr.buildSlice t len (parts.map fun p=>(p.1,a.eval p.2))).run P w= .ok (.slice (some ⟨w.heap.size,0,none⟩) len len) (w.alloc (.cells cs' e)):=by
       have hnot:¬ (16777216<len * j.size):=by omega
       have hfill':Instr.fill (fun k=>some (k * j.size,j.size)) ((Array.range (len * j.size)).map (z.cells[· % z.cells.size]!)) (parts.map fun p=>(p.1,a.eval p.2)).toList=some cs':=by
        rw [A74];exact hfill
       by_cases h0:len * j.size=0
       ·simp [Instr.buildSlice,run_underlying (C1 (hT t i hi) hie),B9 (hT e j hj),h0,newRow,Array.range_zero']
        simp [h0,Array.range_zero'] at hfill'
        rw [hfill']
        simp
       simp [Instr.buildSlice,run_underlying (C1 (hT t i hi) hie),B9 (hT e j hj),hnot,h0,newRow,zeroValue,typeInfo,S.hf,S.hz]
       simp at hfill'
       rw [hfill']
       simp
      refine ⟨_,_,[w.heap.size],by simp only [execOp,Sem.run_bind,hrun,Result.andThen_ok];rfl,?_,by simp,by simp,Jc w _,rfl⟩;have hvl:vals.length=len * j.size:=by rw [v1,←hDL.1,hcsl]
      have hown:=Bz.sl (w:=w.alloc (.cells cs' e)) len j.size (fun i=>(vals.drop (i * j.size)).take j.size) w.heap.size 0 len e cs' (fun _=>[])
       (Bu _) (by simp only [maxLen];omega) (heap_alloc_new w _) (by simp [hcsl]) (fun k hk=>by
        have:=Gs hk (Ru 0)
        have h2:k * j.size+j.size≤len * j.size:=by rw [←Pj];exact Kl _ hk
        simp [hvl];omega) (fun k m c hk hc=>by
        have hm:m<j.size:=by have:=(Cu.1 hc).1;simp at this;omega
        rw [Wn,Ah hm,T7] at hc;obtain ⟨v,hv,rfl⟩:=v2 _ _ hc;have hd:=hDL.2 _ _ hv;have e1:=B3 hd;rw [show (0+k) * j.size+m=k * j.size+m by rw [Rw],e1]
        refine .val v ?_;rw [←e1]
        cases hd with
        |c hr=>exact hr.one)
      rw [Zv] at hown
      simpa using hown
     simp at hs
    simp at hs
   simp at hs
  simp at hs
 all_goals (exfalso;(repeat' (split at hs))<;>simp at hs)
theorem A9i (hs:Lk T wr s op= .new cells):Di op=1:=by
 unfold Lk at hs
 split at hs
 case h_5=>rfl
 case h_6=>rfl
 case h_3=>exact absurd hs ((Nu ..).1 _)
 all_goals (exfalso;(repeat' (split at hs))<;>simp at hs)
theorem A9h {bx:List Bx}(hs:Lk T wr s op= .mem bx):Di op=2:=by
 unfold Lk at hs
 split at hs
 case h_9=>rfl
 case h_3=>exact absurd hs ((Nu ..).2.1 _)
 all_goals (exfalso;(repeat' (split at hs))<;>simp at hs)
theorem A9j (hs:Lk T wr s op= .own ps c):Di op=1:=by
 unfold Lk at hs
 split at hs
 case h_20=>rfl
 case h_21=>rfl
 case h_3=>exact absurd hs ((Nu ..).2.2 _ _)
 all_goals (exfalso;(repeat' (split at hs))<;>simp at hs)
def post (P:Program) (Q:Exit→Act→World→Prop):List KI→Exit→Act→World→Prop
 | []=>Q
 | .code c::K=>Exit.then (c.wp P (post P Q K)) (post P Q K)
 | .block id::K=>Exit.inBlock id (post P Q K)
 | .loop I::K=>Exit.then I (post P Q K)
 | .ops false all l::K=>Exit.then (wpList P all (post P Q K) l) (post P Q K)
 | .ops true all l::K=>Exit.then (Fz P all (fun a w=>post P Q K .normal a w) l) (post P Q K)
def G (P:Program) (B:Er) (Q:Exit→Act→World→Prop) (K:List KI) (s:AS):Prop:=∀E a w,s.is B E a w→post P Q K .normal a w
def Lm (P:Program) (f:FuncId):Prop:=∃fn,P.funcs[f]? =some fn∧(fn.name== "runtime.NumGoroutine")=false∧fn.body.isNone=false
def A2i (P:Program) (B:Er) (Q:Exit→Act→World→Prop) (q:Bool) (f:FuncId) (xs:List AV) (dst:Option Tmp) (K:List KI) (s:AS):Prop:=
 Lm P f∧∀E a w,s.is B E a w→∀vs:List Value,vs.length=xs.length→(∀i x,xs[i]? =some x→D0 E w (s.ag E) s.next x (vs.getD i undef))→
  Calls P f vs.toArray w fun e w'=>∃v,e= .returned v∧(q=true→Ed w w')∧post P Q K .normal (a.put dst v) w'
def C3s (B:Er) (Q:Exit→Act→World→Prop) (s:AS):Prop:=∀E a w,s.is B E a w→Q .ret a w
def vc (P:Program) (B:Er) (Q:Exit→Act→World→Prop):Out→Prop
 | .aj K s=>G P B Q K s
 | .call q f xs dst K s=>A2i P B Q q f xs dst K s
 | .ret s=>C3s B Q s
 | .ite b t e=>(b=true→vc P B Q t)∧(b=false→vc P B Q e)
 | .need p o=>p∧vc P B Q o
theorem J2 (n:Nat)(k:Nat→α):Mb n k=k n:=by
 induction n generalizing k with
 |zero=>rfl
 |succ n ih=>simp [Mb,ih]
theorem C13 (x:AV)(k:AV→α):A5i x k=k x:=by cases x<;>simp [A5i,J2]
theorem Yl (l:List AV)(k:List AV→α):Ri l k=k l:=by
 induction l generalizing k with
 |nil=>rfl
 |cons x r ih=>simp [Ri,C13,ih]
theorem A96 (x:AV)(k:AV→α):B1p x k=k x:=by cases x<;>simp [B1p,Yl,A5i,J2]
theorem Wy (l:List AV)(k:List AV→α):To l k=k l:=by
 induction l generalizing k with
 |nil=>rfl
 |cons x r ih=>simp [To,A96,ih]
theorem A97 (l:List Bx)(k:List Bx→α):A5j l k=k l:=by
 induction l generalizing k with
 |nil=>rfl
 |cons x r ih=>cases x;simp [A5j,Yl,J2,ih]
theorem A99 (l:List Ow)(k:List Ow→α):A5l l k=k l:=by
 induction l generalizing k with
 |nil=>rfl
 |cons x r ih=>cases x;simp [A5l,J2,ih]
theorem A98 (l:List (Nat×Value))(k:List (Nat×Value)→α):A5k l k=k l:=by
 induction l generalizing k with
 |nil=>rfl
 |cons x r ih=>obtain ⟨a,v⟩:=x;simp [A5k,J2,ih]
theorem E8 (s:AS)(k:AS→α):N2 s k=k s:=by cases s;simp [N2,J2,Wy,A97,A99,A98]
theorem C90 (l:List AV)(i:Nat)(x:AV)(k:List AV→α):C6y l i x k=k (Cd l i x):=by
 induction l generalizing i k with
 |nil=>simp [C6y,Cd]
 |cons y r ih=>cases i<;>simp [C6y,Cd,ih]
theorem C74 (s:AS)(d:Option Tmp)(x:AV)(k:AS→α):Mr s d x k=k (s.put d x):=by
 cases d<;>simp [Mr,AS.put,A96,C90]
theorem C57 (s:AS)(cells:List AV)(k:AS→α):B9w s cells k=k (s.newBox cells):=by
 simp [B9w,AS.newBox,Yl,J2]
theorem C9j (s:AS)(c:Ad)(k:AS→α):Qm s c k=k {s with own:=⟨s.next,c⟩::s.own,next:=s.next+1}:=by
 simp [Qm,J2]
theorem C52 (s:AS)(bx:List Bx)(k:AS→α):B9t s bx k=k {s with aw:=bx}:=by
 simp [B9t,A97]
theorem C6o (P:Program)(Q:Exit→Act→World→Prop)(K:List KI)(a:Act)(w:World):post P Q K .ret a w=Q .ret a w:=by
 induction K with
 |nil=>rfl
 |cons k K ih=>rcases k with _|_|_|⟨_|_,_,_⟩<;>simpa [post,Exit.then,Exit.inBlock] using ih
theorem C2t (P:Program)(Q:Exit→Act→World→Prop){K K':List KI}(h:Y5 id K=some K')(hp:post P Q K' .normal a w):post P Q K (.exit id) a w:=by
 induction K with
 |nil=>simp [Y5] at h
 |cons k K ih=>
  cases k with
  |block j=>
   unfold Y5 at h
   split at h
   ·rename_i hj
    obtain rfl:=F7 hj;obtain rfl:=Bv h
    simpa [post,Exit.inBlock] using hp
   rename_i hj
   have hne:¬ id=j:=fun e=>by subst e;simp at hj
   simpa [post,Exit.inBlock,hne] using ih h
  |code c=>simpa [post,Exit.then] using ih (by simpa [Y5] using h)
  |loop I=>simpa [post,Exit.then] using ih (by simpa [Y5] using h)
  |ops q all l=>cases q<;>simpa [post,Exit.then] using ih (by simpa [Y5] using h)
theorem B6k {o:Out}(h:vc P B Q (A6b ps o)):(∀p∈ps,p)∧vc P B Q o:=by
 induction ps with
 |nil=>exact ⟨by simp,h⟩
 |cons p r ih=>
  obtain ⟨h1,h2⟩:p∧vc P B Q (A6b r o):=h;obtain ⟨h3,h4⟩:=ih h2;exact ⟨fun q hq=>by rcases C7.1 hq with rfl|hq;exact h1;exact h3 q hq,h4⟩
theorem AS.is.setBool (h:s.is B E a w){d:Nat}{b:Bool}(hd:I4 s.ac d= .v (.bool b)):
  ({s with ac:=Cd s.ac d (.v (.bool b))}:AS).is B E a w:=by
 have:Cd s.ac d (.v (.bool b))=s.ac:=by
  apply List.ext_getElem?
  intro i;rw [Cr]
  split
  ·rename_i hi
   obtain ⟨rfl,hl⟩:=hi;rw [Cb,Dh hl] at hd;rw [Dh hl]
   simpa using hd.symm
  rfl
 rw [this];exact h
variable {all : Array Oper}
theorem AS.is.yielded (h:s.is B E a w){d:Tmp}{b:Bool}(hj:L6 all j=some d)(hd:I4 s.ac d= .v (.bool b)):
  yielded all a.tmps j=some b:=by
 have hl:d<s.ac.length:=by
  rw [Cb] at hd
  by_cases hl:d<s.ac.length
  ·exact hl
  rw [A71 (A70 hl)] at hd;simp at hd
 have hv:a.tmps.getD d undef= .bool b:=by
  have:=h.ac d (.v (.bool b)) (by rw [Cb,Dh hl] at hd;rw [Dh hl];simpa using hd)
  exact B3 this
 have hsz:d<a.tmps.size:=by rw [h.size];exact hl
 unfold L6 at hj;simp only [Array.getD,hsz,dif_pos] at hv;have h2:a.tmps[d]? =some (.bool b):=by rw [Se hsz];exact A6 some hv
 unfold Go.yielded;rw [hj]
 simp [h2]
theorem Zo (all:Array Oper)(d:Option Tmp):D0 E w A N (Sb all d) undef:=by
 have h:D0 E w A N (.tup []) (.tuple ([]:List Value).toArray):= .tup [] rfl (fun i x hx=>by simp at hx);unfold Sb
 split
 ·exact .any _
 split
 ·exact h
 exact .any _
theorem C4t {v:Value}(h:D0 E w A N (.tup []) v):v=undef:=by
 cases h with
 |tup vs hl h=>
  have:vs=[]:=Pk hl
  subst this;rfl
theorem AS.is.yielded0 (h:s.is B E a w){d:Tmp}(hj:L6 all j=some d)(hd:I4 s.ac d= .tup []):
  Go.yielded all a.tmps j=none:=by
 have hl:d<s.ac.length:=by
  rw [Cb] at hd
  by_cases hl:d<s.ac.length
  ·exact hl
  rw [A71 (A70 hl)] at hd;simp at hd
 have hv:a.tmps.getD d undef=undef:=by
  have:=h.ac d (.tup []) (by rw [Cb,Dh hl] at hd;rw [Dh hl];simpa using hd)
  exact C4t this
 have hsz:d<a.tmps.size:=by rw [h.size];exact hl
 unfold L6 at hj;simp only [Array.getD,hsz,dif_pos] at hv;have h2:a.tmps[d]? =some undef:=by rw [Se hsz];exact A6 some hv
 unfold Go.yielded;rw [hj]
 simp [h2,undef]
open Go.RowKit (Below)
structure AS.isA (s:AS) (B:Er) (E:Fl) (A:Nat→Prop) (a:Act) (w:World):Prop where
 defers:a.defers=[]
 ak:∀p∈s.ak,p.1<s.next∧E.ov p.1=p.2
 size:a.tmps.size=s.ac.length
 ac:∀i x,s.ac[i]? =some x→D0 E w A s.next x (a.tmps.getD i undef)
 aw:∀x∈s.aw,x.key<s.next∧∃vs ty,w.heap[E.β x.key]? =some (.cells vs ty (0,0))∧vs.size=x.cells.length∧
  ∀i y,x.cells[i]? =some y→D0 E w A s.next y (vs.getD i undef)
 boxes2:∀x∈s.aw,∀y∈s.aw,E.β x.key=E.β y.key→x.key=y.key
 keys:(s.aw.map (·.key)).Nodup
 own:∀y∈s.own,y.key<s.next∧Bz w y.cell (E.ov y.key) (E.fp y.key)∧(E.fp y.key).Nodup
 ownkeys:(s.own.map (·.key)).Nodup
 sep:∀y∈s.own,∀z∈s.own,y.key≠z.key→∀b∈E.fp y.key,b∉E.fp z.key
 sepB:∀x∈s.aw,∀y∈s.own,E.β x.key∉E.fp y.key
 one:∀k,k<s.next→(E.ov k).oneCell'=true
 base:B.rel w
 fresh:∀b,s.ag E b→B.fresh b
 sub:∀b,s.ag E b→A b
theorem AS.isA.is (h:s.isA B E A a w):s.is B E a w:=by
 have mv:∀x v,D0 E w A s.next x v→D0 E w (s.ag E) s.next x v:=fun x v hx=>
  hx.move (Bu _) (fun _ _=>⟨rfl,rfl⟩) (fun _ _ _=>rfl) (fun b _ hb=>h.sub b hb)
 refine ⟨h.defers,h.ak,h.size,fun i x hx=>mv _ _ (h.ac i x hx),fun x hx=>?_,h.boxes2,h.keys,h.own,h.ownkeys,h.sep,h.sepB,h.one,h.base,h.fresh⟩;obtain ⟨h1,vs,ty,h2,h3,h4⟩:=h.aw x hx;exact ⟨h1,vs,ty,h2,h3,fun i y hy=>mv _ _ (h4 i y hy)⟩
theorem AS.is.call (h:s.is B E a w)(hb:Below w.heap.size w w'):s.isA B E (fun b=>s.ag E b∨w.heap.size≤b) a w':=by
 have mv:∀x v,D0 E w (s.ag E) s.next x v→D0 E w' (fun b=>s.ag E b∨w.heap.size≤b) s.next x v:=fun x v hx=>
  hx.move (Bu _) (fun _ _=>⟨rfl,rfl⟩) (fun b _ hl=>hb.block b hl) (fun b hl hA=>by
   rcases hA with h|h
   ·exact h
   omega)
 refine ⟨h.defers,h.ak,h.size,fun i x hx=>mv _ _ (h.ac i x hx),fun x hx=>?_,h.boxes2,h.keys,fun y hy=>?_,h.ownkeys,h.sep,h.sepB,h.one,?_,h.fresh,fun b hb=> .inl hb⟩
 ·obtain ⟨h1,vs,ty,h2,h3,h4⟩:=h.aw x hx
  exact ⟨h1,vs,ty,by rw [hb.block _ (T2.1 h2).1];exact h2,h3,fun i y hy=>mv _ _ (h4 i y hy)⟩
 ·obtain ⟨h1,h2,h3⟩:=h.own y hy
  exact ⟨h1,h2.move (fun b hb'=>hb.block b (h2.lt b hb')),h3⟩
 have hB:=h.base;refine ⟨hb.os.trans hB.os,hb.tape.trans hB.tape,hb.output.trans hB.output,G0 hB.size hb.size,fun k hk hm=>?_⟩;rw [hb.block k (Kk hk hB.size)];exact hB.block k hk hm
def Fl.withOwn (E:Fl) (n:Nat) (v:Value) (fp:List Nat):Fl:=
 {E with ov:=fun k=>if k=n then v else E.ov k,fp:=fun k=>if k=n then fp else E.fp k}
theorem Fl.withOwn_keep (E:Fl)(n:Nat)(v:Value)(fp:List Nat)(h:k≠n):(E.withOwn n v fp).β k=E.β k∧(E.withOwn n v fp).ov k=E.ov k:=by
 have h:(E.withOwn n v fp).ov k=E.ov k:=by simp [Fl.withOwn,h]
 exact ⟨Fl.β_of h,h⟩
def AS.addOwn (s:AS) (c:Ad):AS:= {s with own:=⟨s.next,c⟩::s.own,next:=s.next+1}
theorem AS.isA.addOwn (h:s.isA B E A a w){v:Value}(ho:Bz w c v fp)(hn:fp.Nodup)(hA:∀b∈fp,A b∧¬ s.ag E b∧B.fresh b):
  (s.addOwn c).isA B (E.withOwn s.next v fp) A a w∧D0 (E.withOwn s.next v fp) w A (s.next+1) (.own s.next) v:=by
 have kE:∀k,k<s.next→(E.withOwn s.next v fp).β k=E.β k∧(E.withOwn s.next v fp).ov k=E.ov k:=fun k hk=>by
  have:k≠s.next:=by omega
  have h:(E.withOwn s.next v fp).ov k=E.ov k:=by simp [Fl.withOwn,this]
  exact ⟨Fl.β_of h,h⟩
 have kb:∀x∈s.aw,(E.withOwn s.next v fp).β x.key=E.β x.key:=fun x hx=>(kE _ (h.aw x hx).1).1
 have kfp:∀y∈s.own,(E.withOwn s.next v fp).fp y.key=E.fp y.key:=fun y hy=>by
  have:y.key≠s.next:=by have:=(h.own y hy).1;omega
  simp [Fl.withOwn,this]
 have kfn:(E.withOwn s.next v fp).fp s.next=fp:=by simp [Fl.withOwn]
 have av:∀b,(s.addOwn c).ag (E.withOwn s.next v fp) b↔b∈fp∨s.ag E b:=by
  intro b
  constructor
  ·rintro (⟨x,hx,rfl⟩|⟨y,hy,hb⟩)
   ·exact .inr (.inl ⟨x,hx,(kb x hx).symm⟩)
   rcases C7.1 hy with rfl|hy
   ·rw [kfn] at hb;exact .inl hb
   rw [kfp y hy] at hb;exact .inr (.inr ⟨y,hy,hb⟩)
  rintro (hb|⟨x,hx,rfl⟩|⟨y,hy,hb⟩)
  ·exact .inr ⟨_,Hq,by rw [kfn];exact hb⟩
  ·exact .inl ⟨x,hx,kb x hx⟩
  exact .inr ⟨y,Cq _ hy,by rw [kfp y hy];exact hb⟩
 have mv:∀x v',D0 E w A s.next x v'→D0 (E.withOwn s.next v fp) w A (s.next+1) x v':=fun x v' hx=>hx.move (Z5 _) kE (fun _ _ _=>rfl) (fun _ _ hb=>hb);refine ⟨⟨h.defers,fun p hp=>⟨T4 (h.ak p hp).1,by rw [(kE _ (h.ak p hp).1).2];exact (h.ak p hp).2⟩,h.size,fun i x hx=>mv _ _ (h.ac i x hx),fun x hx=>?_,fun x hx y hy e=>h.boxes2 x hx y hy (by rw [←kb x hx,←kb y hy];exact e),h.keys,fun y hy=>?_,?_,?_,?_,?_,h.base,?_,?_⟩,?_⟩
 ·obtain ⟨h1,vs,ty,h2,h3,h4⟩:=h.aw x hx
  exact ⟨T4 h1,vs,ty,by rw [kb x hx];exact h2,h3,fun i y hy=>mv _ _ (h4 i y hy)⟩
 ·rcases C7.1 hy with rfl|hy
  ·refine ⟨Ru _,?_,?_⟩
   ·rw [kfn];simpa [Fl.withOwn] using ho
   rw [kfn];exact hn
  obtain ⟨h1,h2,h3⟩:=h.own y hy;rw [kfp y hy,(kE _ h1).2];exact ⟨T4 h1,h2,h3⟩
 ·simp only [AS.addOwn,I8,Ip]
  refine ⟨fun hm=>?_,h.ownkeys⟩;obtain ⟨y,hy,e⟩:=Ea.1 hm
  have:=(h.own y hy).1
  omega
 ·intro y hy z hz hne b hb hb'
  rcases C7.1 hy with rfl|hy<;>rcases C7.1 hz with rfl|hz
  ·exact hne rfl
  ·rw [kfn] at hb
   rw [kfp z hz] at hb';exact (hA b hb).2.1 (.inr ⟨z,hz,hb'⟩)
  ·rw [kfp y hy] at hb
   rw [kfn] at hb';exact (hA b hb').2.1 (.inr ⟨y,hy,hb⟩)
  rw [kfp y hy] at hb;rw [kfp z hz] at hb';exact h.sep y hy z hz hne b hb hb'
 ·intro x hx y hy hb
  rw [kb x hx] at hb
  rcases C7.1 hy with rfl|hy
  ·rw [kfn] at hb
   exact (hA _ hb).2.1 (.inl ⟨x,hx,rfl⟩)
  rw [kfp y hy] at hb;exact h.sepB x hx y hy hb
 ·intro k hk
  by_cases e:k=s.next
  ·subst e;simpa [Fl.withOwn] using ho.one
  have hk':k<s.next:=by have:k<s.next+1:=hk;omega
  rw [(kE _ hk').2];exact h.one k hk'
 ·intro b hb
  rcases (av b).1 hb with hb|hb
  ·exact (hA b hb).2.2
  exact h.fresh b hb
 ·intro b hb
  rcases (av b).1 hb with hb|hb
  ·exact (hA b hb).1
  exact h.sub b hb
 have:=D0.own (E:=E.withOwn s.next v fp) (w:=w) (A:=A) (N:=s.next+1) (k:=s.next) (Ru _)
 simpa [Fl.withOwn] using this
theorem AS.isA.put (h:s.isA B E A a w)(d:Option Tmp){v:Value}(hx:D0 E w A s.next x v):
  (s.put d x).isA B E A (a.put d v) w:=by
 cases d with
 |none=>exact h
 |some d=>
  refine ⟨h.defers,h.ak,?_,?_,h.aw,h.boxes2,h.keys,h.own,h.ownkeys,h.sep,h.sepB,h.one,h.base,h.fresh,h.sub⟩
  ·simp [Act.put,AS.put,Bj,h.size]
  intro i y hy;simp only [AS.put,Cr] at hy;simp only [Act.put]
  by_cases hi:d=i∧i<s.ac.length
  ·rw [Ah hi] at hy
   obtain ⟨rfl,hl⟩:=hi;obtain rfl:x=y:=by simpa using hy
   have:d<a.tmps.size:=by rw [h.size];exact hl
   change D0 E w A s.next x _
   simpa [Array.getD,Z3,this] using hx
  rw [Ab hi] at hy;have hl:i<s.ac.length:=(Cu.1 hy).1;have hne:d≠i:=fun e=>hi ⟨e,hl⟩
  have hsz:i<a.tmps.size:=by rw [h.size];exact hl
  have:=h.ac i y hy
  change D0 E w A s.next y _
  simpa [Array.getD,Z3,hsz,B3a,hne] using this
theorem Ed.of_below (h:Go.RowKit.Below w.heap.size w w'):Ed w w':=⟨h.size,h.block⟩
variable {rest : List Oper}
theorem Ia {K:List KI}(hg:o.guard=none)(hk:Di o.op≠0)(h:∀E a w,s.is B E a w→∃v w',((execOp a.eval o).run P w= .ok (.value v) w'∨((execOp a.eval o).run P w= .ok .skip w'∧v=undef))∧(Di o.op=1→Ed w w')∧
   post P Q (.ops q all rest::K) .normal (a.put o.dst v) w'):G P B Q (.ops q all (o::rest)::K) s:=by
 intro E a w hs;obtain ⟨v,w',h1,h2,h3⟩:=h E a w hs
 cases q with
 |false=>
  show wpList P all (post P Q K) (o::rest) a w
  unfold wpList;rw [Ah (by simp [Region.wanted,hg])];refine .inl ?_;unfold Oper.wp
  rcases h1 with h1|⟨h1,rfl⟩<;>rw [h1]<;>exact h3
 |true=>
  show Fz P all _ (o::rest) a w
  unfold Fz;rw [Ah (by simp [Region.wanted,hg])];refine .inr ⟨hk,?_⟩;unfold Kp
  rcases h1 with h1|⟨h1,rfl⟩<;>rw [h1]<;>exact ⟨fun h=>h2 A7,h3⟩
theorem Eb {K:List KI}(hg:o.guard=none)(h:∀E a w,s.is B E a w→∃v,(∀w',Ed w w'→(execOp a.eval o).run P w'= .ok (.value v) w')∧post P Q (.ops q all rest::K) .normal (a.put o.dst v) w):G P B Q (.ops q all (o::rest)::K) s:=by
 intro E a w hs;obtain ⟨v,h1,h3⟩:=h E a w hs
 cases q with
 |false=>
  show wpList P all (post P Q K) (o::rest) a w
  unfold wpList;rw [Ah (by simp [Region.wanted,hg])];refine .inl ?_;unfold Oper.wp;rw [h1 w (Ed.refl w)];exact h3
 |true=>
  show Fz P all _ (o::rest) a w
  unfold Fz;rw [Ah (by simp [Region.wanted,hg])];exact .inl ⟨v,h1,h3⟩
theorem Oa {K:List KI}(hw:Region.wanted o (yielded all a.tmps)=false)(h:post P Q (.ops q all rest::K) .normal (a.put o.dst undef) w):post P Q (.ops q all (o::rest)::K) .normal a w:=by
 cases q with
 |false=>
  show wpList P all (post P Q K) (o::rest) a w
  unfold wpList;rw [Ab (by simp [hw])];exact h
 |true=>
  show Fz P all _ (o::rest) a w
  unfold Fz;rw [Ab (by simp [hw])];exact h
theorem A3d {K:List KI}(hw:Region.wanted o (yielded all a.tmps)=true)(h:post P Q (.ops q all ({o with guard:=none}::rest)::K) .normal a w):post P Q (.ops q all (o::rest)::K) .normal a w:=by
 cases q with
 |false=>
  change wpList P all (post P Q K) ({o with guard:=none}::rest) a w at h
  show wpList P all (post P Q K) (o::rest) a w
  unfold wpList at h ⊢;rw [Ah (by simp [Region.wanted])] at h;rw [Ah hw];exact h
 |true=>
  change Fz P all _ ({o with guard:=none}::rest) a w at h
  show Fz P all _ (o::rest) a w
  unfold Fz at h ⊢;rw [Ah (by simp [Region.wanted])] at h;rw [Ah hw];exact h
theorem B5r (f:FuncId)(hf:Lm P f)(args:Array Operand)(ats:Array TypeId)(a:Act)(o:Oper)(ho:o.op= .call {callee:= .value (.func f),args,argTypes:=ats})(w:World):
  (execOp a.eval o).run P w= .ok (.enter f (args.map a.eval)) w:=by
 obtain ⟨fn,h1,h2,h3⟩:=hf;obtain ⟨dst,op',ty,pos,after,guard⟩:=o
 simp only at ho
 subst ho;have e:a.eval (.func f)= .func (.func f) #[] #[]:=rfl;have h2':¬ fn.name= "runtime.NumGoroutine" :=by simpa using h2
 have h3':¬ fn.body=none:=by intro e;rw [e] at h3;simp at h3
 simp [execOp,resolve,e,Deferred.ofValue,invoke,callFunc,h1,h2',h3']
theorem B0z (f:FuncId)(hf:Lm P f)(t:Tmp)(vs:List Value)(args:Array Operand)(ats:Array TypeId)(a:Act)(o:Oper)(ho:o.op= .call {callee:= .value (.tmp t),args,argTypes:=ats})
  (hv:a.eval (.tmp t)= .func (.func f) #[] vs.toArray)(w:World):
  (execOp a.eval o).run P w= .ok (.enter f (args.map a.eval++vs.toArray)) w:=by
 obtain ⟨fn,h1,h2,h3⟩:=hf;obtain ⟨dst,op',ty,pos,after,guard⟩:=o
 simp only at ho
 subst ho;have h2':¬ fn.name= "runtime.NumGoroutine" :=by simpa using h2
 have h3':¬ fn.body=none:=by intro e;rw [e] at h3;simp at h3
 simp [execOp,resolve,hv,Deferred.ofValue,invoke,callFunc,h1,h2',h3']
theorem C2y (hT:C0 P T)(wr:Bool):∀(n:Nat) (K:List KI) (s:AS),vc P B Q (run T wr n K s)→G P B Q K s:=by
 intro n
 induction n with
 |zero=>intro K s h;simpa [run,E8,vc] using h
 |succ n ih=>
  intro K s h
  match K with
  | []=>simpa [run,E8,vc] using h
  | .block id::K=>exact fun E a w hs=>ih K s (by simpa [run] using h) E a w hs
  | .loop I::K=>simpa [run,E8,vc] using h
  | .code c::K=>
   cases c with
   |skip=>exact fun E a w hs=>wp_skip (ih K s (by simpa [run] using h) E a w hs)
   |seq x y=>exact fun E a w hs=>wp_seq (ih (.code x:: .code y::K) s (by simpa [run] using h) E a w hs)
   |block id c=>exact fun E a w hs=>wp_block (ih (.code c:: .block id::K) s (by simpa [run] using h) E a w hs)
   |cond o t e=>
    simp only [run] at h
    split at h
    ·rename_i b hb
     intro E a w hs;have hv:=hs.ev o;rw [hb] at hv;have e1:=B3 hv;obtain ⟨h1,h2⟩:(b=true→_)∧(b=false→_):=h;exact wp_cond_split e1 (fun hb=>ih (.code t::K) s (h1 hb) E a w hs) (fun hb=>ih (.code e::K) s (h2 hb) E a w hs)
    simpa [E8,vc] using h
   |exit id=>
    simp only [run] at h
    split at h
    ·rename_i K' hK
     exact fun E a w hs=>wp_exit (C2t P Q hK (ih K' s h E a w hs))
    simpa [E8,vc] using h
   |ret=>
    simp only [run,E8,vc] at h;exact fun E a w hs=>wp_ret (by rw [C6o];exact h E a w hs)
   |region id ops draw=>
    cases draw with
    |false=>exact fun E a w hs=>wp_region_list (ih (.ops false ops ops.toList::K) s (by simpa [run] using h) E a w hs)
    |true=>simpa [run,E8,vc] using h
   |loop c=>simpa [run,E8,vc] using h
   |rangeFunc f ps x y=>simpa [run,E8,vc] using h
   |scope c=>simpa [run,E8,vc] using h
   |label l=>simpa [run,E8,vc] using h
   |goto l=>simpa [run,E8,vc] using h
   |refuse why=>simpa [run,E8,vc] using h
  | .ops q all []::K=>exact fun E a w hs=>by have:=ih K s (by simpa [run] using h) E a w hs;cases q<;>exact this
  | .ops q all (o::rest)::K=>
   simp only [run,C74,C57,C52,C9j] at h
   split at h
   ·rename_i hg
    split at h
    ·rename_i c x y hop
     split at h
     ·rename_i b hb
      obtain ⟨h1,h2⟩:(b=true→_)∧(b=false→_):=h;refine Eb hg (fun E a w hs=>?_);have hv:=hs.ev c;rw [hb] at hv;have e1:=B3 hv;obtain ⟨dst,op',ty,pos,after,guard⟩:=o
      simp only at hop
      subst hop
      cases b with
      |true=>exact ⟨a.eval x,fun w' _=>by simp [execOp,e1,asBool],ih _ _ (h1 rfl) E _ w (hs.put dst (hs.ev x))⟩
      |false=>exact ⟨a.eval y,fun w' _=>by simp [execOp,e1,asBool],ih _ _ (h2 rfl) E _ w (hs.put dst (hs.ev y))⟩
     simpa [E8,vc] using h
    ·rename_i f args ats hop
     simp only [Wy,E8,vc] at h;obtain ⟨hc,h⟩:=h;intro E a w hs
     have:=h E a w hs (args.toList.map a.eval) Ef (fun i x hx=>by
      simp only [Ec,E9] at hx;obtain ⟨y,hy,rfl⟩:=hx
      simpa [List.getD,hy] using hs.ev y)
     have e:(args.toList.map a.eval).toArray=args.map a.eval:=by obtain ⟨l⟩:=args;simp
     rw [e] at this
     cases q with
     |false=>
      show wpList P all (post P Q K) (o::rest) a w
      unfold wpList;rw [Ah (by simp [Region.wanted,hg])];refine .inl ?_;unfold Oper.wp;rw [B5r f hc args ats a o hop w];exact this.mono fun e w' ⟨v,he,_,hp⟩=>by subst he;exact hp
     |true=>
      show Fz P all _ (o::rest) a w
      unfold Fz;rw [Ah (by simp [Region.wanted,hg])];refine .inr ⟨by rw [hop];simp [Di],?_⟩;unfold Kp;rw [B5r f hc args ats a o hop w];exact this.mono fun e w' ⟨v,he,hk,hp⟩=>⟨v,he,fun _=>hk rfl,hp⟩
    ·rename_i t args ats hop
     split at h
     ·rename_i f ao hn
      simp only [Wy,E8,vc] at h;obtain ⟨hc,h⟩:=h;intro E a w hs;have hv:=hs.ev (.tmp t);rw [show s.ev (.tmp t)= .fn f ao from hn] at hv
      generalize hu:a.eval (.tmp t)=u at hv
      cases hv with
      |fn vs hl hv'=>
       have:=h E a w hs (args.toList.map a.eval++vs) (by simp [hl]) (fun i x hx=>by
        by_cases hi:i<args.toList.length
        ·rw [F3 (by simpa using hi)] at hx
         simp only [Ec,E9] at hx;obtain ⟨y,hy,rfl⟩:=hx;rw [List.getD,F3 (by simpa using hi)]
         simpa [hy] using hs.ev y
        rw [F8 (by simpa using hi)] at hx
        have:=hv' _ x hx
        rw [List.getD,F8 (by simpa using hi)]
        simpa [List.getD] using this)
       have e:(args.toList.map a.eval++vs).toArray=args.map a.eval++vs.toArray:=by obtain ⟨l⟩:=args;simp
       rw [e] at this
       cases q with
       |false=>
        show wpList P all (post P Q K) (o::rest) a w
        unfold wpList;rw [Ah (by simp [Region.wanted,hg])];refine .inl ?_;unfold Oper.wp;rw [B0z f hc t vs args ats a o hop hu w];exact this.mono fun e w' ⟨v,he,_,hp⟩=>by subst he;exact hp
       |true=>
        show Fz P all _ (o::rest) a w
        unfold Fz;rw [Ah (by simp [Region.wanted,hg])];refine .inr ⟨by rw [hop];simp [Di],?_⟩;unfold Kp;rw [B0z f hc t vs args ats a o hop hu w];exact this.mono fun e w' ⟨v,he,hk,hp⟩=>⟨v,he,fun _=>hk rfl,hp⟩
     simpa [E8,vc] using h
    rename_i op hn1 hn2 hn3
    split at h
    ·simpa [E8,vc] using h
    ·rename_i ps x hst
     obtain ⟨hps,h⟩:=B6k h;refine Eb hg (fun E a w hs=>?_);obtain ⟨v,hr,hd⟩:=A00 hT hst hps hs o rfl;exact ⟨v,hr,ih _ _ h E _ w (hs.put o.dst hd)⟩
    ·rename_i cells hst
     have hkind:Di o.op=1:=A9i hst;refine Ia hg A7 (fun E a w hs=>?_);obtain ⟨vs,ty,hr,h1,h2⟩:=C7c hT hst hs o rfl;obtain ⟨k1,k2⟩:=hs.newBox cells vs ty h1 h2.1;exact ⟨_,_,.inl hr,fun _=> .of_below (Jc w _),ih _ _ h _ _ _ (k1.put o.dst k2)⟩
    ·rename_i ps c hst
     obtain ⟨hps,h⟩:=B6k h;have hkind:Di o.op=1:=A9j hst;refine Ia hg A7 (fun E a w hs=>?_);obtain ⟨v,w',fp,hr,h1,h2,h3,h4,_⟩:=C7d hT hst hps hs o rfl
     obtain ⟨k1,k2⟩:=(hs.call h4).addOwn h1 h2 (fun b hb=>⟨.inr (h3 b hb),fun hav=>by
      have:=hs.avoid_lt hav
      have:=h3 b hb
      omega,.inl (G0 hs.base.size (h3 b hb))⟩)
     exact ⟨_,_,.inl hr,fun _=> .of_below h4,ih _ _ h _ _ _ (k1.put o.dst k2).is⟩
    rename_i bx hst
    have hkind:Di o.op=2:=A9h hst;refine Ia hg A7 (fun E a w hs=>?_);obtain ⟨w',hr,k1,_⟩:=C7b hT hst hs o rfl;exact ⟨_,_,.inr ⟨hr,rfl⟩,fun h=>by omega,ih _ _ h _ _ _ (k1.put o.dst (.any _))⟩
   ·rename_i j hg
    split at h
    ·rename_i d hd
     split at h
     ·rename_i b hb
      obtain ⟨h1,h2⟩:(b=true→_)∧(b=false→_):=h;intro E a w hs;have hy:=hs.yielded hd hb
      cases b with
      |true=>exact A3d (by simp [Region.wanted,hg,hy]) (ih _ _ (h1 rfl) E a w (hs.setBool hb))
      |false=>exact Oa (by simp [Region.wanted,hg,hy]) (ih _ _ (h2 rfl) E _ w ((hs.setBool hb).put o.dst (Zo all o.dst)))
     ·rename_i hb
      intro E a w hs;have hy:=hs.yielded0 hd hb;exact Oa (by simp [Region.wanted,hg,hy]) (ih _ _ h E _ w (hs.put o.dst (Zo all o.dst)))
     simpa [E8,vc] using h
    simpa [E8,vc] using h
   rename_i j hg
   split at h
   ·rename_i d hd
    split at h
    ·rename_i b hb
     obtain ⟨h1,h2⟩:(b=true→_)∧(b=false→_):=h;intro E a w hs;have hy:=hs.yielded hd hb
     cases b with
     |true=>exact Oa (by simp [Region.wanted,hg,hy]) (ih _ _ (h1 rfl) E _ w ((hs.setBool hb).put o.dst (Zo all o.dst)))
     |false=>exact A3d (by simp [Region.wanted,hg,hy]) (ih _ _ (h2 rfl) E a w (hs.setBool hb))
    ·rename_i hb
     intro E a w hs;have hy:=hs.yielded0 hd hb;exact Oa (by simp [Region.wanted,hg,hy]) (ih _ _ h E _ w (hs.put o.dst (Zo all o.dst)))
    simpa [E8,vc] using h
   simpa [E8,vc] using h
theorem C1r (hm:P.follows .mixedOrders=true){ops:Array Oper}{K:List KI}(ord:List Nat)(hB:C54 ops ord=true)(h:G P B Q (.ops true ops (Ys ops ord)::K) s):G P B Q (.code (.region id ops true)::K) s:=
 fun E a w hs=>A9l hm hB (h E a _ (hs.call (w':= {w with drawn:=w.drawn+1}) ⟨rfl,rfl,rfl,Bu _,fun _ _=>rfl⟩).is)
theorem C61 (hT:C0 P T)(wr:Bool)(n:Nat)(K:List KI)(s:AS)(h:vc P B Q (P7 T wr n K s)):G P B Q K s:=
 C2y hT wr n K s (by simpa [P7,E8] using h)
end Go.Sx
