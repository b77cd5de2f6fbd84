/- Texts for the law FnExactClusterLines: WItoa. No conditions. -/
import Derived.Test.YteonkhnmlolfgaaGreatDoorEng3
import Derived.Test.YteonkhnmlolfgaaGreatDoorH2
import Derived.Shelf.Strconv.Itoa3

set_option maxRecDepth 100000
namespace Go.Proofs.YteonkhnmlolfgaaGreatDoor
open Go.Sx
def lays171_ren : Go.Shelf.Ren := ⟨fun | 171 => 91 | 243 => 108 | 246 => 121 | 283 => 128 | 284 => 129 | 285 => 130 | 286 => 131 | 129 => 137 | 317 => 136 | 318 => 138 | 319 => 139 | 320 => 140 | 337 => 142 | 338 => 143 | n => n, fun | 3 => 3 | 9 => 9 | 2 => 2 | 4 => 4 | 171 => 185 | 0 => 0 | 53 => 186 | 37 => 119 | 5 => 5 | 173 => 189 | 212 => 197 | 51 => 198 | 20 => 20 | 213 => 199 | 46 => 201 | 232 => 204 | 233 => 205 | n => n, fun | 17 => 0 | 18 => 2 | 19 => 3 | n => n⟩
theorem lays171 : Go.Proofs.LaysM.n171 Tryz.prog lays171_ren := {
  mixed := by kernel_rfl,
  f129 := Tryz.func137.trans (congrArg some (by kernel_rfl)),
  f171 := Tryz.func91.trans (congrArg some (by kernel_rfl)),
  f243 := Tryz.func108.trans (congrArg some (by kernel_rfl)),
  f246 := Tryz.func121.trans (congrArg some (by kernel_rfl)),
  f283 := Tryz.func128.trans (congrArg some (by kernel_rfl)),
  f284 := Tryz.func129.trans (congrArg some (by kernel_rfl)),
  f285 := Tryz.func130.trans (congrArg some (by kernel_rfl)),
  f286 := Tryz.func131.trans (congrArg some (by kernel_rfl)),
  f317 := Tryz.func136.trans (congrArg some (by kernel_rfl)),
  f318 := Tryz.func138.trans (congrArg some (by kernel_rfl)),
  f319 := Tryz.func139.trans (congrArg some (by kernel_rfl)),
  f320 := Tryz.func140.trans (congrArg some (by kernel_rfl)),
  f337 := Tryz.func142.trans (congrArg some (by kernel_rfl)),
  f338 := Tryz.func143.trans (congrArg some (by kernel_rfl)),
  t0 := Tryz.underlying0,
  a0 := Tryz.isAgg0,
  z0 := Tryz.sizeOf0,
  v0 := Tryz.zeroValue0,
  t2 := Tryz.underlying2,
  a2 := Tryz.isAgg2,
  z2 := Tryz.sizeOf2,
  v2 := Tryz.zeroValue2,
  t3 := Tryz.underlying3,
  a3 := Tryz.isAgg3,
  z3 := Tryz.sizeOf3,
  v3 := Tryz.zeroValue3,
  t4 := Tryz.underlying4,
  a4 := Tryz.isAgg4,
  z4 := Tryz.sizeOf4,
  v4 := Tryz.zeroValue4,
  t5 := Tryz.underlying5,
  a5 := Tryz.isAgg5,
  z5 := Tryz.sizeOf5,
  v5 := Tryz.zeroValue5,
  t9 := Tryz.underlying9,
  a9 := Tryz.isAgg9,
  z9 := Tryz.sizeOf9,
  v9 := Tryz.zeroValue9,
  t20 := Tryz.underlying20,
  a20 := Tryz.isAgg20,
  z20 := Tryz.sizeOf20,
  v20 := Tryz.zeroValue20,
  t37 := Tryz.underlying119,
  a37 := Tryz.isAgg119,
  z37 := Tryz.sizeOf119,
  v37 := Tryz.zeroValue119,
  t46 := Tryz.underlying201,
  a46 := Tryz.isAgg201,
  z46 := Tryz.sizeOf201,
  v46 := Tryz.zeroValue201,
  t51 := Tryz.underlying198,
  a51 := Tryz.isAgg198,
  z51 := Tryz.sizeOf198,
  v51 := Tryz.zeroValue198,
  t53 := Tryz.underlying186,
  a53 := Tryz.isAgg186,
  z53 := Tryz.sizeOf186,
  v53 := Tryz.zeroValue186,
  t171 := Tryz.underlying185,
  a171 := Tryz.isAgg185,
  z171 := Tryz.sizeOf185,
  v171 := Tryz.zeroValue185,
  t173 := Tryz.underlying189,
  a173 := Tryz.isAgg189,
  z173 := Tryz.sizeOf189,
  v173 := Tryz.zeroValue189,
  t212 := Tryz.underlying197,
  a212 := Tryz.isAgg197,
  z212 := Tryz.sizeOf197,
  v212 := Tryz.zeroValue197,
  t213 := Tryz.underlying199,
  a213 := Tryz.isAgg199,
  z213 := Tryz.sizeOf199,
  t232 := Tryz.underlying204,
  a232 := Tryz.isAgg204,
  z232 := Tryz.sizeOf204,
  v232 := Tryz.zeroValue204,
  t233 := Tryz.underlying205,
  a233 := Tryz.isAgg205,
  z233 := Tryz.sizeOf205,
  v233 := Tryz.zeroValue205,
  g17 := by kernel_rfl,
  g18 := by kernel_rfl,
  g19 := by kernel_rfl,
  i0 := by kernel_rfl,
  i2 := by kernel_rfl,
  i3 := by kernel_rfl,
  i4 := by kernel_rfl,
  i5 := by kernel_rfl,
  i9 := by kernel_rfl,
  i20 := by kernel_rfl,
  i37 := by kernel_rfl,
  i46 := by kernel_rfl,
  i51 := by kernel_rfl,
  i53 := by kernel_rfl,
  i171 := by kernel_rfl,
  i173 := by kernel_rfl,
  i212 := by kernel_rfl,
  i232 := by kernel_rfl,
  i233 := by kernel_rfl,
  m17 := by kernel_rfl,
  m18 := by kernel_rfl,
  m19 := by kernel_rfl }

def Tab (w : World) : Prop := Lib.TabIs Tryz.prog w "internal/strconv.uint64pow10" .u64 Lib.pow10Tab
theorem tabStays : Stays Tab := fun _ _ hb h => var_stays hb h
theorem itoaT (n : Int) (h : inR .i64 n) : MeetsT Tryz.prog Tab 91 [.one (vi n)] [.one (vs (dec n))] := by
  refine ⟨⟨_, Tryz.func91, by decide, rfl⟩, fun w hw vs hl hv => ?_⟩
  match vs, hl with
  | [v], _ =>
    have h0 : v = .int .i64 n := rep_val (A := fun _ => False) (hv 0 _ rfl)
    subst h0
    refine (Any.strconv_Itoa lays171 n h.1 h.2 w hw).mono ?_
    rintro e w' ⟨rfl, k, os, rfl⟩
    exact gives_one (below_grow _ _ _) rfl
theorem implDecimal (n : Int) (h : inR .i64 n) : MeetsT Tryz.prog Tab 58 [.one (vi n)] [.one (vs (dec n))] := by
  refine enterT tbl_ok false Tryz.func58 rfl (by decide) fun W hW => ?_
  conv => whnf
  refine callRT (itoaT n h) tabStays hW rfl (go tbl_ok false ?_)
  conv => whnf
  exact retW tbl_ok rfl rfl ⟨rfl, trivial⟩

end Go.Proofs.YteonkhnmlolfgaaGreatDoor
