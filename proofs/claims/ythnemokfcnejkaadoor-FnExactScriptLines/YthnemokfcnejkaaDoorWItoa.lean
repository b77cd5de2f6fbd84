/- Texts for the law FnExactScriptLines: WItoa. No conditions. -/
import Derived.Test.YthnemokfcnejkaaDoorEng3
import Derived.Test.YthnemokfcnejkaaDoorH2
import Derived.Shelf.Strconv.Itoa3

set_option maxRecDepth 100000
namespace Go.Proofs.YthnemokfcnejkaaDoor
open Go.Sx
def lays171_ren : Go.Shelf.Ren := ⟨fun | 171 => 71 | 243 => 94 | 246 => 110 | 283 => 115 | 284 => 116 | 285 => 117 | 286 => 118 | 129 => 120 | 317 => 119 | 318 => 121 | 319 => 122 | 320 => 123 | 337 => 124 | 338 => 125 | n => n, fun | 3 => 3 | 9 => 9 | 2 => 2 | 4 => 4 | 171 => 179 | 0 => 0 | 53 => 180 | 37 => 109 | 5 => 5 | 173 => 183 | 212 => 187 | 51 => 188 | 20 => 20 | 213 => 189 | 46 => 191 | 232 => 194 | 233 => 195 | n => n, fun | 17 => 0 | 18 => 1 | 19 => 2 | n => n⟩
theorem lays171 : Go.Proofs.LaysM.n171 Tryd.prog lays171_ren := {
  mixed := by kernel_rfl,
  f129 := Tryd.func120.trans (congrArg some (by kernel_rfl)),
  f171 := Tryd.func71.trans (congrArg some (by kernel_rfl)),
  f243 := Tryd.func94.trans (congrArg some (by kernel_rfl)),
  f246 := Tryd.func110.trans (congrArg some (by kernel_rfl)),
  f283 := Tryd.func115.trans (congrArg some (by kernel_rfl)),
  f284 := Tryd.func116.trans (congrArg some (by kernel_rfl)),
  f285 := Tryd.func117.trans (congrArg some (by kernel_rfl)),
  f286 := Tryd.func118.trans (congrArg some (by kernel_rfl)),
  f317 := Tryd.func119.trans (congrArg some (by kernel_rfl)),
  f318 := Tryd.func121.trans (congrArg some (by kernel_rfl)),
  f319 := Tryd.func122.trans (congrArg some (by kernel_rfl)),
  f320 := Tryd.func123.trans (congrArg some (by kernel_rfl)),
  f337 := Tryd.func124.trans (congrArg some (by kernel_rfl)),
  f338 := Tryd.func125.trans (congrArg some (by kernel_rfl)),
  t0 := Tryd.underlying0,
  a0 := Tryd.isAgg0,
  z0 := Tryd.sizeOf0,
  v0 := Tryd.zeroValue0,
  t2 := Tryd.underlying2,
  a2 := Tryd.isAgg2,
  z2 := Tryd.sizeOf2,
  v2 := Tryd.zeroValue2,
  t3 := Tryd.underlying3,
  a3 := Tryd.isAgg3,
  z3 := Tryd.sizeOf3,
  v3 := Tryd.zeroValue3,
  t4 := Tryd.underlying4,
  a4 := Tryd.isAgg4,
  z4 := Tryd.sizeOf4,
  v4 := Tryd.zeroValue4,
  t5 := Tryd.underlying5,
  a5 := Tryd.isAgg5,
  z5 := Tryd.sizeOf5,
  v5 := Tryd.zeroValue5,
  t9 := Tryd.underlying9,
  a9 := Tryd.isAgg9,
  z9 := Tryd.sizeOf9,
  v9 := Tryd.zeroValue9,
  t20 := Tryd.underlying20,
  a20 := Tryd.isAgg20,
  z20 := Tryd.sizeOf20,
  v20 := Tryd.zeroValue20,
  t37 := Tryd.underlying109,
  a37 := Tryd.isAgg109,
  z37 := Tryd.sizeOf109,
  v37 := Tryd.zeroValue109,
  t46 := Tryd.underlying191,
  a46 := Tryd.isAgg191,
  z46 := Tryd.sizeOf191,
  v46 := Tryd.zeroValue191,
  t51 := Tryd.underlying188,
  a51 := Tryd.isAgg188,
  z51 := Tryd.sizeOf188,
  v51 := Tryd.zeroValue188,
  t53 := Tryd.underlying180,
  a53 := Tryd.isAgg180,
  z53 := Tryd.sizeOf180,
  v53 := Tryd.zeroValue180,
  t171 := Tryd.underlying179,
  a171 := Tryd.isAgg179,
  z171 := Tryd.sizeOf179,
  v171 := Tryd.zeroValue179,
  t173 := Tryd.underlying183,
  a173 := Tryd.isAgg183,
  z173 := Tryd.sizeOf183,
  v173 := Tryd.zeroValue183,
  t212 := Tryd.underlying187,
  a212 := Tryd.isAgg187,
  z212 := Tryd.sizeOf187,
  v212 := Tryd.zeroValue187,
  t213 := Tryd.underlying189,
  a213 := Tryd.isAgg189,
  z213 := Tryd.sizeOf189,
  t232 := Tryd.underlying194,
  a232 := Tryd.isAgg194,
  z232 := Tryd.sizeOf194,
  v232 := Tryd.zeroValue194,
  t233 := Tryd.underlying195,
  a233 := Tryd.isAgg195,
  z233 := Tryd.sizeOf195,
  v233 := Tryd.zeroValue195,
  g17 := by kernel_rfl,
  g18 := by kernel_rfl,
  g19 := by kernel_rfl,
  i0 := by kernel_rfl,
  i2 := by kernel_rfl,
  i3 := by kernel_rfl,
  i4 := by kernel_rfl,
  i5 := by kernel_rfl,
  i9 := by kernel_rfl,
  i20 := by kernel_rfl,
  i37 := by kernel_rfl,
  i46 := by kernel_rfl,
  i51 := by kernel_rfl,
  i53 := by kernel_rfl,
  i171 := by kernel_rfl,
  i173 := by kernel_rfl,
  i212 := by kernel_rfl,
  i232 := by kernel_rfl,
  i233 := by kernel_rfl,
  m17 := by kernel_rfl,
  m18 := by kernel_rfl,
  m19 := by kernel_rfl }

def Tab (w : World) : Prop := Lib.TabIs Tryd.prog w "internal/strconv.uint64pow10" .u64 Lib.pow10Tab
theorem tabStays : Stays Tab := fun _ _ hb h => var_stays hb h
theorem itoaT (n : Int) (h : inR .i64 n) : MeetsT Tryd.prog Tab 71 [.one (vi n)] [.one (vs (dec n))] := by
  refine ⟨⟨_, Tryd.func71, by decide, rfl⟩, fun w hw vs hl hv => ?_⟩
  match vs, hl with
  | [v], _ =>
    have h0 : v = .int .i64 n := rep_val (A := fun _ => False) (hv 0 _ rfl)
    subst h0
    refine (Any.strconv_Itoa lays171 n h.1 h.2 w hw).mono ?_
    rintro e w' ⟨rfl, k, os, rfl⟩
    exact gives_one (below_grow _ _ _) rfl
theorem implDecimal (n : Int) (h : inR .i64 n) : MeetsT Tryd.prog Tab 34 [.one (vi n)] [.one (vs (dec n))] := by
  refine enterT tbl_ok false Tryd.func34 rfl (by decide) fun W hW => ?_
  conv => whnf
  refine callRT (itoaT n h) tabStays hW rfl (go tbl_ok false ?_)
  conv => whnf
  exact retW tbl_ok rfl rfl ⟨rfl, trivial⟩

end Go.Proofs.YthnemokfcnejkaaDoor
