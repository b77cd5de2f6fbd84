/- Texts for the law FnExactReadNode: WItoa. No conditions. -/
import Derived.Test.YtimlkifkiphioaaDoorEng3
import Derived.Test.YtimlkifkiphioaaDoorH2
import Derived.Shelf.Strconv.Itoa3

set_option maxRecDepth 100000
namespace Go.Proofs.YtimlkifkiphioaaDoor
open Go.Sx
def lays171_ren : Go.Shelf.Ren := ⟨fun | 171 => 56 | 243 => 64 | 246 => 73 | 283 => 79 | 284 => 80 | 285 => 81 | 286 => 82 | 129 => 86 | 317 => 85 | 318 => 87 | 319 => 88 | 320 => 89 | 337 => 90 | 338 => 91 | n => n, fun | 3 => 3 | 9 => 9 | 2 => 2 | 4 => 4 | 171 => 117 | 0 => 0 | 53 => 109 | 37 => 66 | 5 => 5 | 173 => 120 | 212 => 130 | 51 => 85 | 20 => 20 | 213 => 131 | 46 => 112 | 232 => 135 | 233 => 136 | n => n, fun | 17 => 5 | 18 => 6 | 19 => 7 | n => n⟩
theorem lays171 : Go.Proofs.LaysM.n171 Tryd.prog lays171_ren := {
  mixed := by kernel_rfl,
  f129 := Tryd.func86.trans (congrArg some (by kernel_rfl)),
  f171 := Tryd.func56.trans (congrArg some (by kernel_rfl)),
  f243 := Tryd.func64.trans (congrArg some (by kernel_rfl)),
  f246 := Tryd.func73.trans (congrArg some (by kernel_rfl)),
  f283 := Tryd.func79.trans (congrArg some (by kernel_rfl)),
  f284 := Tryd.func80.trans (congrArg some (by kernel_rfl)),
  f285 := Tryd.func81.trans (congrArg some (by kernel_rfl)),
  f286 := Tryd.func82.trans (congrArg some (by kernel_rfl)),
  f317 := Tryd.func85.trans (congrArg some (by kernel_rfl)),
  f318 := Tryd.func87.trans (congrArg some (by kernel_rfl)),
  f319 := Tryd.func88.trans (congrArg some (by kernel_rfl)),
  f320 := Tryd.func89.trans (congrArg some (by kernel_rfl)),
  f337 := Tryd.func90.trans (congrArg some (by kernel_rfl)),
  f338 := Tryd.func91.trans (congrArg some (by kernel_rfl)),
  t0 := Tryd.underlying0,
  a0 := Tryd.isAgg0,
  z0 := Tryd.sizeOf0,
  v0 := Tryd.zeroValue0,
  t2 := Tryd.underlying2,
  a2 := Tryd.isAgg2,
  z2 := Tryd.sizeOf2,
  v2 := Tryd.zeroValue2,
  t3 := Tryd.underlying3,
  a3 := Tryd.isAgg3,
  z3 := Tryd.sizeOf3,
  v3 := Tryd.zeroValue3,
  t4 := Tryd.underlying4,
  a4 := Tryd.isAgg4,
  z4 := Tryd.sizeOf4,
  v4 := Tryd.zeroValue4,
  t5 := Tryd.underlying5,
  a5 := Tryd.isAgg5,
  z5 := Tryd.sizeOf5,
  v5 := Tryd.zeroValue5,
  t9 := Tryd.underlying9,
  a9 := Tryd.isAgg9,
  z9 := Tryd.sizeOf9,
  v9 := Tryd.zeroValue9,
  t20 := Tryd.underlying20,
  a20 := Tryd.isAgg20,
  z20 := Tryd.sizeOf20,
  v20 := Tryd.zeroValue20,
  t37 := Tryd.underlying66,
  a37 := Tryd.isAgg66,
  z37 := Tryd.sizeOf66,
  v37 := Tryd.zeroValue66,
  t46 := Tryd.underlying112,
  a46 := Tryd.isAgg112,
  z46 := Tryd.sizeOf112,
  v46 := Tryd.zeroValue112,
  t51 := Tryd.underlying85,
  a51 := Tryd.isAgg85,
  z51 := Tryd.sizeOf85,
  v51 := Tryd.zeroValue85,
  t53 := Tryd.underlying109,
  a53 := Tryd.isAgg109,
  z53 := Tryd.sizeOf109,
  v53 := Tryd.zeroValue109,
  t171 := Tryd.underlying117,
  a171 := Tryd.isAgg117,
  z171 := Tryd.sizeOf117,
  v171 := Tryd.zeroValue117,
  t173 := Tryd.underlying120,
  a173 := Tryd.isAgg120,
  z173 := Tryd.sizeOf120,
  v173 := Tryd.zeroValue120,
  t212 := Tryd.underlying130,
  a212 := Tryd.isAgg130,
  z212 := Tryd.sizeOf130,
  v212 := Tryd.zeroValue130,
  t213 := Tryd.underlying131,
  a213 := Tryd.isAgg131,
  z213 := Tryd.sizeOf131,
  t232 := Tryd.underlying135,
  a232 := Tryd.isAgg135,
  z232 := Tryd.sizeOf135,
  v232 := Tryd.zeroValue135,
  t233 := Tryd.underlying136,
  a233 := Tryd.isAgg136,
  z233 := Tryd.sizeOf136,
  v233 := Tryd.zeroValue136,
  g17 := by kernel_rfl,
  g18 := by kernel_rfl,
  g19 := by kernel_rfl,
  i0 := by kernel_rfl,
  i2 := by kernel_rfl,
  i3 := by kernel_rfl,
  i4 := by kernel_rfl,
  i5 := by kernel_rfl,
  i9 := by kernel_rfl,
  i20 := by kernel_rfl,
  i37 := by kernel_rfl,
  i46 := by kernel_rfl,
  i51 := by kernel_rfl,
  i53 := by kernel_rfl,
  i171 := by kernel_rfl,
  i173 := by kernel_rfl,
  i212 := by kernel_rfl,
  i232 := by kernel_rfl,
  i233 := by kernel_rfl,
  m17 := by kernel_rfl,
  m18 := by kernel_rfl,
  m19 := by kernel_rfl }

def Tab (w : World) : Prop := Lib.TabIs Tryd.prog w "internal/strconv.uint64pow10" .u64 Lib.pow10Tab ∧ Lib.TabIs Tryd.prog w "strings.asciiSpace" .u8 Lib.asciiSpaceTab ∧ (∃ t p, w.var? Tryd.prog "strconv.ErrSyntax" = some #[.iface t p]) ∧ (∃ t p, w.var? Tryd.prog "strconv.ErrRange" = some #[.iface t p])
theorem tabStays : Stays Tab := fun _ _ hb h => ⟨var_stays hb h.1, var_stays hb h.2.1, h.2.2.1.imp fun _ => Exists.imp fun _ => var_stays hb, h.2.2.2.imp fun _ => Exists.imp fun _ => var_stays hb⟩
theorem itoaT (n : Int) (h : inR .i64 n) : MeetsT Tryd.prog Tab 56 [.one (vi n)] [.one (vs (dec n))] := by
  refine ⟨⟨_, Tryd.func56, by decide, rfl⟩, fun w hw vs hl hv => ?_⟩
  match vs, hl with
  | [v], _ =>
    have h0 : v = .int .i64 n := rep_val (A := fun _ => False) (hv 0 _ rfl)
    subst h0
    refine (Any.strconv_Itoa lays171 n h.1 h.2 w hw.1).mono ?_
    rintro e w' ⟨rfl, k, os, rfl⟩
    exact gives_one (below_grow _ _ _) rfl
theorem implDecimal (n : Int) (h : inR .i64 n) : MeetsT Tryd.prog Tab 43 [.one (vi n)] [.one (vs (dec n))] := by
  refine enterT tbl_ok false Tryd.func43 rfl (by decide) fun W hW => ?_
  conv => whnf
  refine callRT (itoaT n h) tabStays hW rfl (go tbl_ok false ?_)
  conv => whnf
  exact retW tbl_ok rfl rfl ⟨rfl, trivial⟩

end Go.Proofs.YtimlkifkiphioaaDoor
