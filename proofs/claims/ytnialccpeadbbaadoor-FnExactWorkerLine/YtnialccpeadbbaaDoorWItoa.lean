/- Texts for the law FnExactWorkerLine: WItoa. No conditions. -/
import Derived.Test.YtnialccpeadbbaaDoorEng3
import Derived.Test.YtnialccpeadbbaaDoorH2
import Derived.Shelf.Strconv.Itoa3

set_option maxRecDepth 100000
namespace Go.Proofs.YtnialccpeadbbaaDoor
open Go.Sx
def lays171_ren : Go.Shelf.Ren := ⟨fun | 171 => 67 | 243 => 83 | 246 => 99 | 283 => 106 | 284 => 107 | 285 => 108 | 286 => 109 | 129 => 114 | 317 => 113 | 318 => 115 | 319 => 116 | 320 => 117 | 337 => 118 | 338 => 119 | n => n, fun | 3 => 3 | 9 => 9 | 2 => 2 | 4 => 4 | 171 => 169 | 0 => 0 | 53 => 170 | 37 => 113 | 5 => 5 | 173 => 173 | 212 => 181 | 51 => 182 | 20 => 20 | 213 => 183 | 46 => 185 | 232 => 188 | 233 => 189 | n => n, fun | 17 => 0 | 18 => 2 | 19 => 3 | n => n⟩
theorem lays171 : Go.Proofs.LaysM.n171 Tryd.prog lays171_ren := {
  mixed := by kernel_rfl,
  f129 := Tryd.func114.trans (congrArg some (by kernel_rfl)),
  f171 := Tryd.func67.trans (congrArg some (by kernel_rfl)),
  f243 := Tryd.func83.trans (congrArg some (by kernel_rfl)),
  f246 := Tryd.func99.trans (congrArg some (by kernel_rfl)),
  f283 := Tryd.func106.trans (congrArg some (by kernel_rfl)),
  f284 := Tryd.func107.trans (congrArg some (by kernel_rfl)),
  f285 := Tryd.func108.trans (congrArg some (by kernel_rfl)),
  f286 := Tryd.func109.trans (congrArg some (by kernel_rfl)),
  f317 := Tryd.func113.trans (congrArg some (by kernel_rfl)),
  f318 := Tryd.func115.trans (congrArg some (by kernel_rfl)),
  f319 := Tryd.func116.trans (congrArg some (by kernel_rfl)),
  f320 := Tryd.func117.trans (congrArg some (by kernel_rfl)),
  f337 := Tryd.func118.trans (congrArg some (by kernel_rfl)),
  f338 := Tryd.func119.trans (congrArg some (by kernel_rfl)),
  t0 := Tryd.underlying0,
  a0 := Tryd.isAgg0,
  z0 := Tryd.sizeOf0,
  v0 := Tryd.zeroValue0,
  t2 := Tryd.underlying2,
  a2 := Tryd.isAgg2,
  z2 := Tryd.sizeOf2,
  v2 := Tryd.zeroValue2,
  t3 := Tryd.underlying3,
  a3 := Tryd.isAgg3,
  z3 := Tryd.sizeOf3,
  v3 := Tryd.zeroValue3,
  t4 := Tryd.underlying4,
  a4 := Tryd.isAgg4,
  z4 := Tryd.sizeOf4,
  v4 := Tryd.zeroValue4,
  t5 := Tryd.underlying5,
  a5 := Tryd.isAgg5,
  z5 := Tryd.sizeOf5,
  v5 := Tryd.zeroValue5,
  t9 := Tryd.underlying9,
  a9 := Tryd.isAgg9,
  z9 := Tryd.sizeOf9,
  v9 := Tryd.zeroValue9,
  t20 := Tryd.underlying20,
  a20 := Tryd.isAgg20,
  z20 := Tryd.sizeOf20,
  v20 := Tryd.zeroValue20,
  t37 := Tryd.underlying113,
  a37 := Tryd.isAgg113,
  z37 := Tryd.sizeOf113,
  v37 := Tryd.zeroValue113,
  t46 := Tryd.underlying185,
  a46 := Tryd.isAgg185,
  z46 := Tryd.sizeOf185,
  v46 := Tryd.zeroValue185,
  t51 := Tryd.underlying182,
  a51 := Tryd.isAgg182,
  z51 := Tryd.sizeOf182,
  v51 := Tryd.zeroValue182,
  t53 := Tryd.underlying170,
  a53 := Tryd.isAgg170,
  z53 := Tryd.sizeOf170,
  v53 := Tryd.zeroValue170,
  t171 := Tryd.underlying169,
  a171 := Tryd.isAgg169,
  z171 := Tryd.sizeOf169,
  v171 := Tryd.zeroValue169,
  t173 := Tryd.underlying173,
  a173 := Tryd.isAgg173,
  z173 := Tryd.sizeOf173,
  v173 := Tryd.zeroValue173,
  t212 := Tryd.underlying181,
  a212 := Tryd.isAgg181,
  z212 := Tryd.sizeOf181,
  v212 := Tryd.zeroValue181,
  t213 := Tryd.underlying183,
  a213 := Tryd.isAgg183,
  z213 := Tryd.sizeOf183,
  t232 := Tryd.underlying188,
  a232 := Tryd.isAgg188,
  z232 := Tryd.sizeOf188,
  v232 := Tryd.zeroValue188,
  t233 := Tryd.underlying189,
  a233 := Tryd.isAgg189,
  z233 := Tryd.sizeOf189,
  v233 := Tryd.zeroValue189,
  g17 := by kernel_rfl,
  g18 := by kernel_rfl,
  g19 := by kernel_rfl,
  i0 := by kernel_rfl,
  i2 := by kernel_rfl,
  i3 := by kernel_rfl,
  i4 := by kernel_rfl,
  i5 := by kernel_rfl,
  i9 := by kernel_rfl,
  i20 := by kernel_rfl,
  i37 := by kernel_rfl,
  i46 := by kernel_rfl,
  i51 := by kernel_rfl,
  i53 := by kernel_rfl,
  i171 := by kernel_rfl,
  i173 := by kernel_rfl,
  i212 := by kernel_rfl,
  i232 := by kernel_rfl,
  i233 := by kernel_rfl,
  m17 := by kernel_rfl,
  m18 := by kernel_rfl,
  m19 := by kernel_rfl }

def Tab (w : World) : Prop := Lib.TabIs Tryd.prog w "internal/strconv.uint64pow10" .u64 Lib.pow10Tab
theorem tabStays : Stays Tab := fun _ _ hb h => var_stays hb h
theorem itoaT (n : Int) (h : inR .i64 n) : MeetsT Tryd.prog Tab 67 [.one (vi n)] [.one (vs (dec n))] := by
  refine ⟨⟨_, Tryd.func67, by decide, rfl⟩, fun w hw vs hl hv => ?_⟩
  match vs, hl with
  | [v], _ =>
    have h0 : v = .int .i64 n := rep_val (A := fun _ => False) (hv 0 _ rfl)
    subst h0
    refine (Any.strconv_Itoa lays171 n h.1 h.2 w hw).mono ?_
    rintro e w' ⟨rfl, k, os, rfl⟩
    exact gives_one (below_grow _ _ _) rfl
theorem implDecimal (n : Int) (h : inR .i64 n) : MeetsT Tryd.prog Tab 34 [.one (vi n)] [.one (vs (dec n))] := by
  refine enterT tbl_ok false Tryd.func34 rfl (by decide) fun W hW => ?_
  conv => whnf
  refine callRT (itoaT n h) tabStays hW rfl (go tbl_ok false ?_)
  conv => whnf
  exact retW tbl_ok rfl rfl ⟨rfl, trivial⟩

end Go.Proofs.YtnialccpeadbbaaDoor
