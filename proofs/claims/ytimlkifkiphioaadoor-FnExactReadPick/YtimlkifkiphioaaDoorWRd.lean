/- Texts for the law FnExactReadPick: WRd. No conditions. -/
import Derived.Test.YtimlkifkiphioaaDoorWIn
import Derived.Shelf.Strconv.ErrVarAll
import Derived.Shelf.Strconv.AtoiAll
import Derived.Shelf.Strings.SplitShaped

set_option maxRecDepth 100000
namespace Go.Proofs.YtimlkifkiphioaaDoor
open Go.Sx
def lays172_ren : Go.Shelf.Ren := ⟨fun | 172 => 52 | 244 => 60 | 245 => 61 | 247 => 66 | 279 => 67 | 280 => 68 | 281 => 69 | 282 => 70 | 287 => 76 | 316 => 77 | 171 => 56 | 205 => 78 | 321 => 83 | 322 => 84 | 243 => 64 | 246 => 73 | 283 => 79 | 284 => 80 | 285 => 81 | 286 => 82 | 129 => 86 | 317 => 85 | 318 => 87 | 319 => 88 | 320 => 89 | 337 => 90 | 338 => 91 | n => n, fun | 9 => 9 | 3 => 3 | 75 => 69 | 76 => 70 | 4 => 4 | 5 => 5 | 167 => 88 | 37 => 66 | 0 => 0 | 85 => 89 | 2 => 2 | 168 => 91 | 53 => 109 | 175 => 110 | 46 => 112 | 210 => 115 | 127 => 81 | 145 => 127 | 143 => 125 | 21 => 21 | 171 => 117 | 173 => 120 | 212 => 130 | 51 => 85 | 20 => 20 | 213 => 131 | 232 => 135 | 233 => 136 | 80 => 76 | n => n, fun | 15 => 2 | 16 => 3 | 17 => 5 | 18 => 6 | 19 => 7 | n => n⟩
theorem lays172 : Go.Proofs.LaysC.n172 Tryd.prog lays172_ren := {
  mixed := by kernel_rfl,
  f129 := Tryd.func86.trans (congrArg some (by kernel_rfl)),
  f171 := Tryd.func56.trans (congrArg some (by kernel_rfl)),
  f172 := Tryd.func52.trans (congrArg some (by kernel_rfl)),
  f205 := Tryd.func78.trans (congrArg some (by kernel_rfl)),
  f243 := Tryd.func64.trans (congrArg some (by kernel_rfl)),
  f244 := Tryd.func60.trans (congrArg some (by kernel_rfl)),
  f245 := Tryd.func61.trans (congrArg some (by kernel_rfl)),
  f246 := Tryd.func73.trans (congrArg some (by kernel_rfl)),
  f247 := Tryd.func66.trans (congrArg some (by kernel_rfl)),
  f279 := Tryd.func67.trans (congrArg some (by kernel_rfl)),
  f280 := Tryd.func68.trans (congrArg some (by kernel_rfl)),
  f281 := Tryd.func69.trans (congrArg some (by kernel_rfl)),
  f282 := Tryd.func70.trans (congrArg some (by kernel_rfl)),
  f283 := Tryd.func79.trans (congrArg some (by kernel_rfl)),
  f284 := Tryd.func80.trans (congrArg some (by kernel_rfl)),
  f285 := Tryd.func81.trans (congrArg some (by kernel_rfl)),
  f286 := Tryd.func82.trans (congrArg some (by kernel_rfl)),
  f287 := Tryd.func76.trans (congrArg some (by kernel_rfl)),
  f316 := Tryd.func77.trans (congrArg some (by kernel_rfl)),
  f317 := Tryd.func85.trans (congrArg some (by kernel_rfl)),
  f318 := Tryd.func87.trans (congrArg some (by kernel_rfl)),
  f319 := Tryd.func88.trans (congrArg some (by kernel_rfl)),
  f320 := Tryd.func89.trans (congrArg some (by kernel_rfl)),
  f321 := Tryd.func83.trans (congrArg some (by kernel_rfl)),
  f322 := Tryd.func84.trans (congrArg some (by kernel_rfl)),
  f337 := Tryd.func90.trans (congrArg some (by kernel_rfl)),
  f338 := Tryd.func91.trans (congrArg some (by kernel_rfl)),
  t0 := Tryd.underlying0,
  a0 := Tryd.isAgg0,
  z0 := Tryd.sizeOf0,
  v0 := Tryd.zeroValue0,
  t2 := Tryd.underlying2,
  a2 := Tryd.isAgg2,
  z2 := Tryd.sizeOf2,
  v2 := Tryd.zeroValue2,
  t3 := Tryd.underlying3,
  a3 := Tryd.isAgg3,
  z3 := Tryd.sizeOf3,
  v3 := Tryd.zeroValue3,
  t4 := Tryd.underlying4,
  a4 := Tryd.isAgg4,
  z4 := Tryd.sizeOf4,
  v4 := Tryd.zeroValue4,
  t5 := Tryd.underlying5,
  a5 := Tryd.isAgg5,
  z5 := Tryd.sizeOf5,
  v5 := Tryd.zeroValue5,
  t9 := Tryd.underlying9,
  a9 := Tryd.isAgg9,
  z9 := Tryd.sizeOf9,
  v9 := Tryd.zeroValue9,
  t20 := Tryd.underlying20,
  a20 := Tryd.isAgg20,
  z20 := Tryd.sizeOf20,
  v20 := Tryd.zeroValue20,
  t21 := Tryd.underlying21,
  a21 := Tryd.isAgg21,
  z21 := Tryd.sizeOf21,
  v21 := Tryd.zeroValue21,
  t37 := Tryd.underlying66,
  a37 := Tryd.isAgg66,
  z37 := Tryd.sizeOf66,
  v37 := Tryd.zeroValue66,
  t46 := Tryd.underlying112,
  a46 := Tryd.isAgg112,
  z46 := Tryd.sizeOf112,
  v46 := Tryd.zeroValue112,
  t51 := Tryd.underlying85,
  a51 := Tryd.isAgg85,
  z51 := Tryd.sizeOf85,
  v51 := Tryd.zeroValue85,
  t53 := Tryd.underlying109,
  a53 := Tryd.isAgg109,
  z53 := Tryd.sizeOf109,
  v53 := Tryd.zeroValue109,
  t75 := Tryd.underlying69,
  a75 := Tryd.isAgg69,
  z75 := Tryd.sizeOf69,
  v75 := Tryd.zeroValue69,
  t76 := Tryd.underlying70,
  a76 := Tryd.isAgg70,
  z76 := Tryd.sizeOf70,
  v76 := Tryd.zeroValue70,
  t85 := Tryd.underlying89,
  a85 := Tryd.isAgg89,
  z85 := Tryd.sizeOf89,
  v85 := Tryd.zeroValue89,
  t127 := Tryd.underlying81,
  a127 := Tryd.isAgg81,
  z127 := Tryd.sizeOf81,
  v127 := Tryd.zeroValue81,
  t143 := Tryd.underlying125,
  a143 := Tryd.isAgg125,
  z143 := Tryd.sizeOf125,
  v143 := Tryd.zeroValue125,
  t145 := Tryd.underlying127,
  a145 := Tryd.isAgg127,
  z145 := Tryd.sizeOf127,
  v145 := Tryd.zeroValue127,
  t167 := Tryd.underlying88,
  a167 := Tryd.isAgg88,
  z167 := Tryd.sizeOf88,
  v167 := Tryd.zeroValue88,
  t168 := Tryd.underlying91,
  a168 := Tryd.isAgg91,
  z168 := Tryd.sizeOf91,
  v168 := Tryd.zeroValue91,
  t171 := Tryd.underlying117,
  a171 := Tryd.isAgg117,
  z171 := Tryd.sizeOf117,
  v171 := Tryd.zeroValue117,
  t173 := Tryd.underlying120,
  a173 := Tryd.isAgg120,
  z173 := Tryd.sizeOf120,
  v173 := Tryd.zeroValue120,
  t175 := Tryd.underlying110,
  a175 := Tryd.isAgg110,
  z175 := Tryd.sizeOf110,
  v175 := Tryd.zeroValue110,
  t210 := Tryd.underlying115,
  a210 := Tryd.isAgg115,
  z210 := Tryd.sizeOf115,
  v210 := Tryd.zeroValue115,
  t212 := Tryd.underlying130,
  a212 := Tryd.isAgg130,
  z212 := Tryd.sizeOf130,
  v212 := Tryd.zeroValue130,
  t213 := Tryd.underlying131,
  a213 := Tryd.isAgg131,
  z213 := Tryd.sizeOf131,
  t232 := Tryd.underlying135,
  a232 := Tryd.isAgg135,
  z232 := Tryd.sizeOf135,
  v232 := Tryd.zeroValue135,
  t233 := Tryd.underlying136,
  a233 := Tryd.isAgg136,
  z233 := Tryd.sizeOf136,
  v233 := Tryd.zeroValue136,
  g15 := by kernel_rfl,
  g16 := by kernel_rfl,
  g17 := by kernel_rfl,
  g18 := by kernel_rfl,
  g19 := by kernel_rfl,
  t80 := Tryd.underlying76,
  a80 := Tryd.isAgg76,
  z80 := Tryd.sizeOf76,
  v80 := Tryd.zeroValue76,
  i0 := by kernel_rfl,
  i2 := by kernel_rfl,
  i3 := by kernel_rfl,
  i4 := by kernel_rfl,
  i5 := by kernel_rfl,
  i9 := by kernel_rfl,
  i20 := by kernel_rfl,
  i21 := by kernel_rfl,
  i37 := by kernel_rfl,
  i46 := by kernel_rfl,
  i51 := by kernel_rfl,
  i53 := by kernel_rfl,
  i75 := by kernel_rfl,
  i76 := by kernel_rfl,
  i80 := by kernel_rfl,
  i85 := by kernel_rfl,
  i127 := by kernel_rfl,
  i143 := by kernel_rfl,
  i145 := by kernel_rfl,
  i167 := by kernel_rfl,
  i168 := by kernel_rfl,
  i171 := by kernel_rfl,
  i173 := by kernel_rfl,
  i175 := by kernel_rfl,
  i210 := by kernel_rfl,
  i212 := by kernel_rfl,
  i232 := by kernel_rfl,
  i233 := by kernel_rfl,
  m15 := by kernel_rfl,
  m16 := by kernel_rfl,
  m17 := by kernel_rfl,
  m18 := by kernel_rfl,
  m19 := by kernel_rfl,
  c0 := by kernel_rfl,
  c2 := by kernel_rfl,
  c3 := by kernel_rfl,
  c4 := by kernel_rfl,
  c5 := by kernel_rfl,
  c9 := by kernel_rfl,
  c20 := by kernel_rfl,
  c21 := by kernel_rfl,
  c37 := by kernel_rfl,
  c46 := by kernel_rfl,
  c51 := by kernel_rfl,
  c53 := by kernel_rfl,
  c75 := by kernel_rfl,
  c76 := by kernel_rfl,
  c80 := by kernel_rfl,
  c85 := by kernel_rfl,
  c127 := by kernel_rfl,
  c143 := by kernel_rfl,
  c145 := by kernel_rfl,
  c167 := by kernel_rfl,
  c168 := by kernel_rfl,
  c171 := by kernel_rfl,
  c173 := by kernel_rfl,
  c175 := by kernel_rfl,
  c210 := by kernel_rfl,
  c212 := by kernel_rfl,
  c213 := by kernel_rfl,
  c232 := by kernel_rfl,
  c233 := by kernel_rfl }

def lays157_ren : Go.Shelf.Ren := ⟨fun | 157 => 51 | 229 => 58 | 199 => 59 | 261 => 65 | 311 => 74 | 312 => 75 | n => n, fun | 9 => 9 | 31 => 42 | 3 => 3 | 5 => 5 | 4 => 4 | 119 => 77 | 0 => 0 | 40 => 79 | 152 => 82 | 21 => 21 | 154 => 84 | 51 => 85 | 141 => 87 | 196 => 101 | 193 => 98 | 198 => 104 | 49 => 102 | 194 => 99 | 201 => 107 | 226 => 122 | 46 => 112 | 227 => 123 | n => n, fun | 0 => 0 | 6 => 1 | n => n⟩
theorem lays157 : Go.Proofs.LaysM.n157 Tryd.prog lays157_ren := {
  mixed := by kernel_rfl,
  f157 := Tryd.func51.trans (congrArg some (by kernel_rfl)),
  f199 := Tryd.func59.trans (congrArg some (by kernel_rfl)),
  f229 := Tryd.func58.trans (congrArg some (by kernel_rfl)),
  f261 := Tryd.func65.trans (congrArg some (by kernel_rfl)),
  f311 := Tryd.func74.trans (congrArg some (by kernel_rfl)),
  f312 := Tryd.func75.trans (congrArg some (by kernel_rfl)),
  t0 := Tryd.underlying0,
  a0 := Tryd.isAgg0,
  z0 := Tryd.sizeOf0,
  v0 := Tryd.zeroValue0,
  t3 := Tryd.underlying3,
  a3 := Tryd.isAgg3,
  z3 := Tryd.sizeOf3,
  v3 := Tryd.zeroValue3,
  t4 := Tryd.underlying4,
  a4 := Tryd.isAgg4,
  z4 := Tryd.sizeOf4,
  v4 := Tryd.zeroValue4,
  t5 := Tryd.underlying5,
  a5 := Tryd.isAgg5,
  z5 := Tryd.sizeOf5,
  v5 := Tryd.zeroValue5,
  t9 := Tryd.underlying9,
  a9 := Tryd.isAgg9,
  z9 := Tryd.sizeOf9,
  v9 := Tryd.zeroValue9,
  t21 := Tryd.underlying21,
  a21 := Tryd.isAgg21,
  z21 := Tryd.sizeOf21,
  v21 := Tryd.zeroValue21,
  t31 := Tryd.underlying42,
  a31 := Tryd.isAgg42,
  z31 := Tryd.sizeOf42,
  v31 := Tryd.zeroValue42,
  t40 := Tryd.underlying79,
  a40 := Tryd.isAgg79,
  z40 := Tryd.sizeOf79,
  v40 := Tryd.zeroValue79,
  t46 := Tryd.underlying112,
  a46 := Tryd.isAgg112,
  z46 := Tryd.sizeOf112,
  v46 := Tryd.zeroValue112,
  t49 := Tryd.underlying102,
  a49 := Tryd.isAgg102,
  z49 := Tryd.sizeOf102,
  v49 := Tryd.zeroValue102,
  t51 := Tryd.underlying85,
  a51 := Tryd.isAgg85,
  z51 := Tryd.sizeOf85,
  v51 := Tryd.zeroValue85,
  t119 := Tryd.underlying77,
  a119 := Tryd.isAgg77,
  z119 := Tryd.sizeOf77,
  t141 := Tryd.underlying87,
  a141 := Tryd.isAgg87,
  z141 := Tryd.sizeOf87,
  v141 := Tryd.zeroValue87,
  t152 := Tryd.underlying82,
  a152 := Tryd.isAgg82,
  z152 := Tryd.sizeOf82,
  v152 := Tryd.zeroValue82,
  t154 := Tryd.underlying84,
  a154 := Tryd.isAgg84,
  z154 := Tryd.sizeOf84,
  v154 := Tryd.zeroValue84,
  t193 := Tryd.underlying98,
  a193 := Tryd.isAgg98,
  z193 := Tryd.sizeOf98,
  v193 := Tryd.zeroValue98,
  t194 := Tryd.underlying99,
  a194 := Tryd.isAgg99,
  z194 := Tryd.sizeOf99,
  v194 := Tryd.zeroValue99,
  t196 := Tryd.underlying101,
  a196 := Tryd.isAgg101,
  z196 := Tryd.sizeOf101,
  v196 := Tryd.zeroValue101,
  t198 := Tryd.underlying104,
  a198 := Tryd.isAgg104,
  z198 := Tryd.sizeOf104,
  v198 := Tryd.zeroValue104,
  t201 := Tryd.underlying107,
  a201 := Tryd.isAgg107,
  z201 := Tryd.sizeOf107,
  v201 := Tryd.zeroValue107,
  t226 := Tryd.underlying122,
  a226 := Tryd.isAgg122,
  z226 := Tryd.sizeOf122,
  v226 := Tryd.zeroValue122,
  t227 := Tryd.underlying123,
  a227 := Tryd.isAgg123,
  z227 := Tryd.sizeOf123,
  v227 := Tryd.zeroValue123,
  g0 := by kernel_rfl,
  g6 := by kernel_rfl,
  i0 := by kernel_rfl,
  i3 := by kernel_rfl,
  i4 := by kernel_rfl,
  i5 := by kernel_rfl,
  i9 := by kernel_rfl,
  i21 := by kernel_rfl,
  i31 := by kernel_rfl,
  i40 := by kernel_rfl,
  i46 := by kernel_rfl,
  i49 := by kernel_rfl,
  i51 := by kernel_rfl,
  i141 := by kernel_rfl,
  i152 := by kernel_rfl,
  i154 := by kernel_rfl,
  i193 := by kernel_rfl,
  i194 := by kernel_rfl,
  i196 := by kernel_rfl,
  i198 := by kernel_rfl,
  i201 := by kernel_rfl,
  i226 := by kernel_rfl,
  i227 := by kernel_rfl,
  m0 := by kernel_rfl,
  m6 := by kernel_rfl }

def AtoiR (s : ByteArray) (i : Int × Value) : Prop := (Lib.atoiAll s.data.toList = .ok i.1 ∧ i.2 = .nilIface) ∨ ((∀ v, Lib.atoiAll s.data.toList ≠ .ok v) ∧ ∃ t p, i.2 = .iface t p ∧ i.2.oneCell' = true)
theorem atoiE (s : ByteArray) (hs : s.size ≤ 281474976710656) : MeetsE Tryd.prog Tab 52 [.one (vs s)] (AtoiR s) (fun i => [.one (vi i.1), .one (.val i.2)]) := by
  refine ⟨⟨_, Tryd.func52, by decide, rfl⟩, fun w hw vals hl hv => ?_⟩
  match vals, hl with
  | [v], _ =>
    have h0 : v = .string s := rep_val (A := fun _ => False) (hv 0 _ rfl)
    subst h0
    cases hc : Lib.atoiAll s.data.toList with
    | ok v =>
      refine (Any.strconv_Atoi_ok lays172 s (by omega) v hc w).mono ?_
      rintro e w' ⟨rfl, hw'⟩
      refine ⟨(v, .nilIface), .inl ⟨hc, rfl⟩, gives_two ?_ rfl rfl⟩
      rcases hw' with rfl | ⟨t, rfl⟩
      · exact Go.RowKit.Below.refl _ _
      · exact Lib.bytesWorld_below _ _ _
    | range =>
      obtain ⟨t, p, hvar⟩ := hw.2.2.2
      refine (Any.strconv_Atoi_range_var lays172 s hs hc t p w hvar).mono ?_
      rintro e w' ⟨N, rfl, _, _, hb⟩
      exact ⟨(_, _), .inr ⟨(fun v h => by rw [hc] at h; cases h), _, _, rfl, rfl⟩, gives_two hb rfl rfl⟩
    | _ =>
      obtain ⟨t, p, hvar⟩ := hw.2.2.1
      refine (Any.strconv_Atoi_syntax_var lays172 s hs hc t p w hvar).mono ?_
      rintro e w' ⟨N, rfl, _, _, hb⟩
      exact ⟨(_, _), .inr ⟨(fun v h => by rw [hc] at h; cases h), _, _, rfl, rfl⟩, gives_two hb rfl rfl⟩

theorem implReadDecimal (s : ByteArray) (hs : s.size ≤ 1048576) : MeetsT Tryd.prog Tab 40 [.one (vs s)] [.one (vi (rdN s)), .one (vb (rdB s))] := by
  refine enterT tbl_ok false Tryd.func40 rfl (by decide) fun W hW => ?_
  conv => whnf
  refine callRE (atoiE s (by omega)) tabStays hW rfl (fun i hi => go tbl_ok false ?_)
  obtain ⟨v, e⟩ := i
  conv => whnf
  rcases hi with ⟨ha, he⟩ | ⟨hn, t, p, he, h1⟩
  · dsimp only at ha he
    subst he
    have hv := atoi_inR ha
    have hd := dec_size hv
    refine errW rfl rfl (by kernel_rfl) rfl (r := false) (.inl ⟨rfl, rfl⟩) (go tbl_ok false ?_)
    conv => whnf
    have hsome : ∀ n, rd s = some n → v = n := fun n hr => by
      have := rd_atoi hr
      rw [ha] at this
      injection this
    repeat' (first | (refine ite_f (by first | with_reducible rfl | assumption) ?_; conv => whnf) | (refine ite_t (by first | with_reducible rfl | assumption) ?_; conv => whnf) | (refine ⟨fun h => ?_, fun h => ?_⟩ <;> conv => whnf) | (refine callRT (implDecimal v hv) tabStays hW rfl (go tbl_ok false ?_); conv => whnf) | (refine callR (implIn v 0 1000000000) rfl (go tbl_ok false ?_); conv => whnf) | (refine ⟨by first | omega | (simp only [ByteArray.size_append, bsz, List.size_toArray, List.length_cons, List.length_nil]; omega) | (show _ ∧ _; omega) | (simp only [Int.toNat_natCast]; first | omega | (show _ ∧ _; omega)) | decide | (simp only [beq_iff_eq, beq_eq_false_iff_ne, bne_iff_ne, bne_eq_false_iff_eq, Bool.not_eq_true', Bool.not_eq_false', Go.Sx.within_iff, Go.Sx.within_f, decide_eq_true_eq, decide_eq_false_iff_not, ne_eq, Int.not_lt, Int.not_le, ge_iff_le, gt_iff_lt, Int.toNat_zero, Int.toNat_one, Int.toNat_natCast] at * <;> first | omega | (show _ ∧ _; omega)), ?_⟩; conv => whnf) | fail)
    · have hr : rd s = none := by
        cases hr : rd s with
        | none => rfl
        | some n =>
          have e := (rd_some.1 hr).2
          rw [← hsome n hr] at e
          rw [e, ba_self] at h
          exact absurd h (by decide)
      exact retW tbl_ok rfl rfl ⟨congrArg vi (rd_none hr).1, congrArg vb (rd_none hr).2, trivial⟩
    · have hw : within v 0 1000000000 = false := by simpa using h
      have hw := Go.Sx.within_f.1 hw
      have hr : rd s = none := by
        cases hr : rd s with
        | none => rfl
        | some n =>
          have e := rd_le hr
          have := hsome n hr
          exact absurd (show 0 ≤ v ∧ v ≤ 1000000000 by omega) hw
      exact retW tbl_ok rfl rfl ⟨congrArg vi (rd_none hr).1, congrArg vb (rd_none hr).2, trivial⟩
    · rename_i hb
      have hw : within v 0 1000000000 = true := by simpa using h
      have hw := Go.Sx.within_iff.1 hw
      have hb : (dec v == s) = true := by simpa using hb
      have hr : rd s = some v.toNat := rd_some.2 ⟨by omega, by rw [show ((v.toNat : Nat) : Int) = v by omega]; exact ba_eq hb⟩
      have hn := (rd_is hr).1
      exact retW tbl_ok rfl rfl ⟨congrArg vi (by omega), congrArg vb (rd_is hr).2, trivial⟩
  · dsimp only at hn he
    subst he
    have hr : rd s = none := by
      cases hr : rd s with
      | none => rfl
      | some n => exact absurd (rd_atoi hr) (hn _)
    refine errW rfl rfl (by kernel_rfl) rfl (r := true) (.inr ⟨_, _, rfl, rfl⟩) (go tbl_ok false ?_)
    conv => whnf
    repeat' (first | (refine ite_f (by first | with_reducible rfl | assumption) ?_; conv => whnf) | (refine ite_t (by first | with_reducible rfl | assumption) ?_; conv => whnf) | (refine ⟨fun h => ?_, fun h => ?_⟩ <;> conv => whnf) | (refine ⟨by first | omega | (simp only [ByteArray.size_append, bsz, List.size_toArray, List.length_cons, List.length_nil]; omega) | (show _ ∧ _; omega) | (simp only [Int.toNat_natCast]; first | omega | (show _ ∧ _; omega)) | decide, ?_⟩; conv => whnf) | fail)
    exact retW tbl_ok rfl rfl ⟨congrArg vi (rd_none hr).1, congrArg vb (rd_none hr).2, trivial⟩

theorem specReadDecimal (s : ByteArray) (hs : s.size ≤ 1048576) : Meets Tryd.prog 36 [.one (vs s)] [.one (vi (rdN s)), .one (vb (rdB s))] := by
  refine enterW tbl_ok false Tryd.func36 rfl (by decide) fun W => ?_
  conv => whnf
  refine ⟨fun h0 => have h0 := of_decide_eq_true h0; ?_, fun h0 => have h0 := of_decide_eq_false h0; ?_⟩ <;> conv => whnf
  · have hr := rd_long (s := s) (by omega)
    exact retW tbl_ok rfl rfl ⟨congrArg vi (rd_none hr).1, congrArg vb (rd_none hr).2, trivial⟩
  have h10 : s.size ≤ 10 := by omega
  have hz : ∀ b ∈ s.data.toList.take 0, isD b := fun b hb => by rw [List.take_zero] at hb; cases hb
  refine loopW tbl_ok false [] (fun k : Nat => [(4, .c (vi (dval 0 (s.data.toList.take k) : Nat))), (5, .c (vi k))]) (fun k => []) (fun k => [])
    (fun k => k ≤ s.size ∧ (∀ b ∈ s.data.toList.take k, isD b)) (fun k => s.size - k) 0 ⟨Nat.zero_le _, by first | rfl | assumption | simp⟩ ⟨by first | rfl | simp [nth, ren2, ren1, ren0], by first | rfl | simp [nth, ren2, ren1, ren0], trivial⟩ trivial trivial trivial (by kernel_rfl) (fun k hk => ?_)
  obtain ⟨hk, he⟩ := hk
  conv => whnf
  refine ⟨fun h => have h := of_decide_eq_true h; ?_, fun h => have h := of_decide_eq_false h; ?_⟩ <;> conv => whnf
  · have hks : k < s.size := by omega
    have hb := dval_bound h10 he
    have hu : (s.data.getD (k : Int).toNat 0).toNat < 256 := UInt8.toNat_lt _
    have hs1 := dval_take hks
    have hno : ¬ isD (byteAt s k) → rd s = none := rd_nodigit hks
    (repeat (refine ⟨by first | omega | (simp only [ByteArray.size_append, bsz, List.size_toArray, List.length_cons, List.length_nil]; omega) | (show _ ∧ _; omega) | (simp only [Int.toNat_natCast]; first | omega | (show _ ∧ _; omega)) | decide, ?_⟩; conv => whnf))
    repeat' (first | (refine ite_f (by first | with_reducible rfl | assumption) ?_; conv => whnf) | (refine ite_t (by first | with_reducible rfl | assumption) ?_; conv => whnf) | (refine ⟨fun h => ?_, fun h => ?_⟩ <;> conv => whnf) | (refine ⟨by first | omega | (simp only [ByteArray.size_append, bsz, List.size_toArray, List.length_cons, List.length_nil]; omega) | (show _ ∧ _; omega) | (simp only [Int.toNat_natCast]; first | omega | (show _ ∧ _; omega)) | decide, ?_⟩; conv => whnf) | fail)
    · have hx : ((byteAt s k).toNat : Int) < 48 := of_decide_eq_true (by assumption)
      have hr := hno (fun c => by unfold isD at c; omega)
      exact retW tbl_ok rfl rfl ⟨congrArg vi (rd_none hr).1, congrArg vb (rd_none hr).2, trivial⟩
    · have hx : ((byteAt s k).toNat : Int) > 57 := of_decide_eq_true (by assumption)
      have hr := hno (fun c => by unfold isD at c; omega)
      exact retW tbl_ok rfl rfl ⟨congrArg vi (rd_none hr).1, congrArg vb (rd_none hr).2, trivial⟩
    · rename_i g1
      have x1 : ¬ ((byteAt s k).toNat : Int) < 48 := of_decide_eq_false g1
      have x2 : ¬ ((byteAt s k).toNat : Int) > 57 := of_decide_eq_false h
      have hnext : ∀ b ∈ s.data.toList.take (k + 1), isD b := fun b hb => by
        rw [take_byte hks] at hb
        rcases List.mem_append.1 hb with hb | hb
        · exact he b hb
        · rw [List.mem_singleton.1 hb, isD]; omega
      refine loopE [] (k + 1) ⟨by omega, hnext⟩ (by omega) ⟨congrArg (fun z => AV.c (vi z)) (by rw [hs1]; show 10 * ((dval 0 (List.take k s.data.toList) : Nat) : Int) + ((byteAt s k).toNat : Int) - 48 = _; omega), rfl, trivial⟩ trivial trivial (by kernel_rfl) trivial (by kernel_rfl)
  · have e : k = s.size := by omega
    have hall : s.data.toList.take k = s.data.toList := List.take_of_length_le (by rw [Array.length_toList]; have : s.data.size = s.size := rfl; omega)
    have hD : inR .i64 ((dval 0 (s.data.toList.take k) : Nat) : Int) := by have := dval_bound h10 he; show _ ∧ _; omega
    have hsz := dec_size hD
    repeat' (first | (refine ite_f (by first | with_reducible rfl | assumption) ?_; conv => whnf) | (refine ite_t (by first | with_reducible rfl | assumption) ?_; conv => whnf) | (refine ⟨fun h => ?_, fun h => ?_⟩ <;> conv => whnf) | (refine callR (specDecimal _ hD) rfl (go tbl_ok false ?_); conv => whnf) | (refine ⟨by first | omega | (simp only [ByteArray.size_append, bsz, List.size_toArray, List.length_cons, List.length_nil]; omega) | (show _ ∧ _; omega) | (simp only [Int.toNat_natCast]; first | omega | (show _ ∧ _; omega)) | decide | (simp only [beq_iff_eq, beq_eq_false_iff_ne, bne_iff_ne, bne_eq_false_iff_eq, Bool.not_eq_true', Bool.not_eq_false', Go.Sx.within_iff, Go.Sx.within_f, decide_eq_true_eq, decide_eq_false_iff_not, ne_eq, Int.not_lt, Int.not_le, ge_iff_le, gt_iff_lt, Int.toNat_zero, Int.toNat_one, Int.toNat_natCast] at * <;> first | omega | (show _ ∧ _; omega)), ?_⟩; conv => whnf) | fail)
    · have hx := of_decide_eq_true h
      have hr : rd s = none := by rw [rd_eq, ← hall, if_neg (by intro c; have := c.1; omega)]
      exact retW tbl_ok rfl rfl ⟨congrArg vi (rd_none hr).1, congrArg vb (rd_none hr).2, trivial⟩
    · have hr : rd s = none := by
        rw [rd_eq, ← hall, if_neg (by intro c; rw [c.2, ba_self] at h; exact absurd h (by decide))]
      exact retW tbl_ok rfl rfl ⟨congrArg vi (rd_none hr).1, congrArg vb (rd_none hr).2, trivial⟩
    · rename_i g1
      have x1 := of_decide_eq_false g1
      have x2 : (dec ((dval 0 (s.data.toList.take k) : Nat) : Int) == s) = true := by simpa using h
      have hr : rd s = some (dval 0 (s.data.toList.take k)) := by rw [hall]; rw [hall] at x1 x2; rw [rd_eq, if_pos ⟨by omega, ba_eq x2⟩]
      exact retW tbl_ok rfl rfl ⟨congrArg vi (rd_is hr).1, congrArg vb (rd_is hr).2, trivial⟩

end Go.Proofs.YtimlkifkiphioaaDoor
