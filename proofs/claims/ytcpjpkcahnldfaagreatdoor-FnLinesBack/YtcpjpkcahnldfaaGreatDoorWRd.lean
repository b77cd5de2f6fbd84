/- Texts for the law FnLinesBack: WRd. No conditions. -/
import Derived.Test.YtcpjpkcahnldfaaGreatDoorWIn
import Derived.Shelf.Strconv.ErrVarAll
import Derived.Shelf.Strconv.AtoiAll
import Derived.Shelf.Strings.SplitShaped

set_option maxRecDepth 100000
namespace Go.Proofs.YtcpjpkcahnldfaaGreatDoor
open Go.Sx
def lays172_ren : Go.Shelf.Ren := ⟨fun | 172 => 101 | 244 => 118 | 245 => 119 | 247 => 132 | 279 => 133 | 280 => 134 | 281 => 135 | 282 => 136 | 287 => 145 | 316 => 146 | 171 => 91 | 205 => 147 | 321 => 153 | 322 => 154 | 243 => 112 | 246 => 124 | 283 => 139 | 284 => 140 | 285 => 141 | 286 => 142 | 129 => 149 | 317 => 148 | 318 => 150 | 319 => 151 | 320 => 152 | 337 => 155 | 338 => 156 | n => n, fun | 9 => 9 | 3 => 3 | 75 => 117 | 76 => 118 | 4 => 4 | 5 => 5 | 167 => 155 | 37 => 34 | 0 => 0 | 85 => 156 | 2 => 2 | 168 => 158 | 53 => 165 | 175 => 177 | 46 => 141 | 210 => 181 | 127 => 140 | 145 => 191 | 143 => 189 | 21 => 21 | 171 => 164 | 173 => 168 | 212 => 184 | 51 => 136 | 20 => 20 | 213 => 185 | 232 => 193 | 233 => 194 | 80 => 124 | n => n, fun | 15 => 5 | 16 => 6 | 17 => 7 | 18 => 8 | 19 => 9 | n => n⟩
theorem lays172 : Go.Proofs.LaysC.n172 Tryz.prog lays172_ren := {
  mixed := by kernel_rfl,
  f129 := Tryz.func149.trans (congrArg some (by kernel_rfl)),
  f171 := Tryz.func91.trans (congrArg some (by kernel_rfl)),
  f172 := Tryz.func101.trans (congrArg some (by kernel_rfl)),
  f205 := Tryz.func147.trans (congrArg some (by kernel_rfl)),
  f243 := Tryz.func112.trans (congrArg some (by kernel_rfl)),
  f244 := Tryz.func118.trans (congrArg some (by kernel_rfl)),
  f245 := Tryz.func119.trans (congrArg some (by kernel_rfl)),
  f246 := Tryz.func124.trans (congrArg some (by kernel_rfl)),
  f247 := Tryz.func132.trans (congrArg some (by kernel_rfl)),
  f279 := Tryz.func133.trans (congrArg some (by kernel_rfl)),
  f280 := Tryz.func134.trans (congrArg some (by kernel_rfl)),
  f281 := Tryz.func135.trans (congrArg some (by kernel_rfl)),
  f282 := Tryz.func136.trans (congrArg some (by kernel_rfl)),
  f283 := Tryz.func139.trans (congrArg some (by kernel_rfl)),
  f284 := Tryz.func140.trans (congrArg some (by kernel_rfl)),
  f285 := Tryz.func141.trans (congrArg some (by kernel_rfl)),
  f286 := Tryz.func142.trans (congrArg some (by kernel_rfl)),
  f287 := Tryz.func145.trans (congrArg some (by kernel_rfl)),
  f316 := Tryz.func146.trans (congrArg some (by kernel_rfl)),
  f317 := Tryz.func148.trans (congrArg some (by kernel_rfl)),
  f318 := Tryz.func150.trans (congrArg some (by kernel_rfl)),
  f319 := Tryz.func151.trans (congrArg some (by kernel_rfl)),
  f320 := Tryz.func152.trans (congrArg some (by kernel_rfl)),
  f321 := Tryz.func153.trans (congrArg some (by kernel_rfl)),
  f322 := Tryz.func154.trans (congrArg some (by kernel_rfl)),
  f337 := Tryz.func155.trans (congrArg some (by kernel_rfl)),
  f338 := Tryz.func156.trans (congrArg some (by kernel_rfl)),
  t0 := Tryz.underlying0,
  a0 := Tryz.isAgg0,
  z0 := Tryz.sizeOf0,
  v0 := Tryz.zeroValue0,
  t2 := Tryz.underlying2,
  a2 := Tryz.isAgg2,
  z2 := Tryz.sizeOf2,
  v2 := Tryz.zeroValue2,
  t3 := Tryz.underlying3,
  a3 := Tryz.isAgg3,
  z3 := Tryz.sizeOf3,
  v3 := Tryz.zeroValue3,
  t4 := Tryz.underlying4,
  a4 := Tryz.isAgg4,
  z4 := Tryz.sizeOf4,
  v4 := Tryz.zeroValue4,
  t5 := Tryz.underlying5,
  a5 := Tryz.isAgg5,
  z5 := Tryz.sizeOf5,
  v5 := Tryz.zeroValue5,
  t9 := Tryz.underlying9,
  a9 := Tryz.isAgg9,
  z9 := Tryz.sizeOf9,
  v9 := Tryz.zeroValue9,
  t20 := Tryz.underlying20,
  a20 := Tryz.isAgg20,
  z20 := Tryz.sizeOf20,
  v20 := Tryz.zeroValue20,
  t21 := Tryz.underlying21,
  a21 := Tryz.isAgg21,
  z21 := Tryz.sizeOf21,
  v21 := Tryz.zeroValue21,
  t37 := Tryz.underlying34,
  a37 := Tryz.isAgg34,
  z37 := Tryz.sizeOf34,
  v37 := Tryz.zeroValue34,
  t46 := Tryz.underlying141,
  a46 := Tryz.isAgg141,
  z46 := Tryz.sizeOf141,
  v46 := Tryz.zeroValue141,
  t51 := Tryz.underlying136,
  a51 := Tryz.isAgg136,
  z51 := Tryz.sizeOf136,
  v51 := Tryz.zeroValue136,
  t53 := Tryz.underlying165,
  a53 := Tryz.isAgg165,
  z53 := Tryz.sizeOf165,
  v53 := Tryz.zeroValue165,
  t75 := Tryz.underlying117,
  a75 := Tryz.isAgg117,
  z75 := Tryz.sizeOf117,
  v75 := Tryz.zeroValue117,
  t76 := Tryz.underlying118,
  a76 := Tryz.isAgg118,
  z76 := Tryz.sizeOf118,
  v76 := Tryz.zeroValue118,
  t85 := Tryz.underlying156,
  a85 := Tryz.isAgg156,
  z85 := Tryz.sizeOf156,
  v85 := Tryz.zeroValue156,
  t127 := Tryz.underlying140,
  a127 := Tryz.isAgg140,
  z127 := Tryz.sizeOf140,
  v127 := Tryz.zeroValue140,
  t143 := Tryz.underlying189,
  a143 := Tryz.isAgg189,
  z143 := Tryz.sizeOf189,
  v143 := Tryz.zeroValue189,
  t145 := Tryz.underlying191,
  a145 := Tryz.isAgg191,
  z145 := Tryz.sizeOf191,
  v145 := Tryz.zeroValue191,
  t167 := Tryz.underlying155,
  a167 := Tryz.isAgg155,
  z167 := Tryz.sizeOf155,
  v167 := Tryz.zeroValue155,
  t168 := Tryz.underlying158,
  a168 := Tryz.isAgg158,
  z168 := Tryz.sizeOf158,
  v168 := Tryz.zeroValue158,
  t171 := Tryz.underlying164,
  a171 := Tryz.isAgg164,
  z171 := Tryz.sizeOf164,
  v171 := Tryz.zeroValue164,
  t173 := Tryz.underlying168,
  a173 := Tryz.isAgg168,
  z173 := Tryz.sizeOf168,
  v173 := Tryz.zeroValue168,
  t175 := Tryz.underlying177,
  a175 := Tryz.isAgg177,
  z175 := Tryz.sizeOf177,
  v175 := Tryz.zeroValue177,
  t210 := Tryz.underlying181,
  a210 := Tryz.isAgg181,
  z210 := Tryz.sizeOf181,
  v210 := Tryz.zeroValue181,
  t212 := Tryz.underlying184,
  a212 := Tryz.isAgg184,
  z212 := Tryz.sizeOf184,
  v212 := Tryz.zeroValue184,
  t213 := Tryz.underlying185,
  a213 := Tryz.isAgg185,
  z213 := Tryz.sizeOf185,
  t232 := Tryz.underlying193,
  a232 := Tryz.isAgg193,
  z232 := Tryz.sizeOf193,
  v232 := Tryz.zeroValue193,
  t233 := Tryz.underlying194,
  a233 := Tryz.isAgg194,
  z233 := Tryz.sizeOf194,
  v233 := Tryz.zeroValue194,
  g15 := by kernel_rfl,
  g16 := by kernel_rfl,
  g17 := by kernel_rfl,
  g18 := by kernel_rfl,
  g19 := by kernel_rfl,
  t80 := Tryz.underlying124,
  a80 := Tryz.isAgg124,
  z80 := Tryz.sizeOf124,
  v80 := Tryz.zeroValue124,
  i0 := by kernel_rfl,
  i2 := by kernel_rfl,
  i3 := by kernel_rfl,
  i4 := by kernel_rfl,
  i5 := by kernel_rfl,
  i9 := by kernel_rfl,
  i20 := by kernel_rfl,
  i21 := by kernel_rfl,
  i37 := by kernel_rfl,
  i46 := by kernel_rfl,
  i51 := by kernel_rfl,
  i53 := by kernel_rfl,
  i75 := by kernel_rfl,
  i76 := by kernel_rfl,
  i80 := by kernel_rfl,
  i85 := by kernel_rfl,
  i127 := by kernel_rfl,
  i143 := by kernel_rfl,
  i145 := by kernel_rfl,
  i167 := by kernel_rfl,
  i168 := by kernel_rfl,
  i171 := by kernel_rfl,
  i173 := by kernel_rfl,
  i175 := by kernel_rfl,
  i210 := by kernel_rfl,
  i212 := by kernel_rfl,
  i232 := by kernel_rfl,
  i233 := by kernel_rfl,
  m15 := by kernel_rfl,
  m16 := by kernel_rfl,
  m17 := by kernel_rfl,
  m18 := by kernel_rfl,
  m19 := by kernel_rfl,
  c0 := by kernel_rfl,
  c2 := by kernel_rfl,
  c3 := by kernel_rfl,
  c4 := by kernel_rfl,
  c5 := by kernel_rfl,
  c9 := by kernel_rfl,
  c20 := by kernel_rfl,
  c21 := by kernel_rfl,
  c37 := by kernel_rfl,
  c46 := by kernel_rfl,
  c51 := by kernel_rfl,
  c53 := by kernel_rfl,
  c75 := by kernel_rfl,
  c76 := by kernel_rfl,
  c80 := by kernel_rfl,
  c85 := by kernel_rfl,
  c127 := by kernel_rfl,
  c143 := by kernel_rfl,
  c145 := by kernel_rfl,
  c167 := by kernel_rfl,
  c168 := by kernel_rfl,
  c171 := by kernel_rfl,
  c173 := by kernel_rfl,
  c175 := by kernel_rfl,
  c210 := by kernel_rfl,
  c212 := by kernel_rfl,
  c213 := by kernel_rfl,
  c232 := by kernel_rfl,
  c233 := by kernel_rfl }

def lays157_ren : Go.Shelf.Ren := ⟨fun | 157 => 77 | 229 => 99 | 199 => 100 | 261 => 117 | 311 => 130 | 312 => 131 | n => n, fun | 9 => 9 | 31 => 61 | 3 => 3 | 5 => 5 | 4 => 4 | 119 => 113 | 0 => 0 | 40 => 115 | 152 => 133 | 21 => 21 | 154 => 135 | 51 => 136 | 141 => 138 | 196 => 147 | 193 => 144 | 198 => 150 | 49 => 148 | 194 => 145 | 201 => 153 | 226 => 175 | 46 => 141 | 227 => 176 | n => n, fun | 0 => 0 | 6 => 1 | n => n⟩
theorem lays157 : Go.Proofs.LaysM.n157 Tryz.prog lays157_ren := {
  mixed := by kernel_rfl,
  f157 := Tryz.func77.trans (congrArg some (by kernel_rfl)),
  f199 := Tryz.func100.trans (congrArg some (by kernel_rfl)),
  f229 := Tryz.func99.trans (congrArg some (by kernel_rfl)),
  f261 := Tryz.func117.trans (congrArg some (by kernel_rfl)),
  f311 := Tryz.func130.trans (congrArg some (by kernel_rfl)),
  f312 := Tryz.func131.trans (congrArg some (by kernel_rfl)),
  t0 := Tryz.underlying0,
  a0 := Tryz.isAgg0,
  z0 := Tryz.sizeOf0,
  v0 := Tryz.zeroValue0,
  t3 := Tryz.underlying3,
  a3 := Tryz.isAgg3,
  z3 := Tryz.sizeOf3,
  v3 := Tryz.zeroValue3,
  t4 := Tryz.underlying4,
  a4 := Tryz.isAgg4,
  z4 := Tryz.sizeOf4,
  v4 := Tryz.zeroValue4,
  t5 := Tryz.underlying5,
  a5 := Tryz.isAgg5,
  z5 := Tryz.sizeOf5,
  v5 := Tryz.zeroValue5,
  t9 := Tryz.underlying9,
  a9 := Tryz.isAgg9,
  z9 := Tryz.sizeOf9,
  v9 := Tryz.zeroValue9,
  t21 := Tryz.underlying21,
  a21 := Tryz.isAgg21,
  z21 := Tryz.sizeOf21,
  v21 := Tryz.zeroValue21,
  t31 := Tryz.underlying61,
  a31 := Tryz.isAgg61,
  z31 := Tryz.sizeOf61,
  v31 := Tryz.zeroValue61,
  t40 := Tryz.underlying115,
  a40 := Tryz.isAgg115,
  z40 := Tryz.sizeOf115,
  v40 := Tryz.zeroValue115,
  t46 := Tryz.underlying141,
  a46 := Tryz.isAgg141,
  z46 := Tryz.sizeOf141,
  v46 := Tryz.zeroValue141,
  t49 := Tryz.underlying148,
  a49 := Tryz.isAgg148,
  z49 := Tryz.sizeOf148,
  v49 := Tryz.zeroValue148,
  t51 := Tryz.underlying136,
  a51 := Tryz.isAgg136,
  z51 := Tryz.sizeOf136,
  v51 := Tryz.zeroValue136,
  t119 := Tryz.underlying113,
  a119 := Tryz.isAgg113,
  z119 := Tryz.sizeOf113,
  t141 := Tryz.underlying138,
  a141 := Tryz.isAgg138,
  z141 := Tryz.sizeOf138,
  v141 := Tryz.zeroValue138,
  t152 := Tryz.underlying133,
  a152 := Tryz.isAgg133,
  z152 := Tryz.sizeOf133,
  v152 := Tryz.zeroValue133,
  t154 := Tryz.underlying135,
  a154 := Tryz.isAgg135,
  z154 := Tryz.sizeOf135,
  v154 := Tryz.zeroValue135,
  t193 := Tryz.underlying144,
  a193 := Tryz.isAgg144,
  z193 := Tryz.sizeOf144,
  v193 := Tryz.zeroValue144,
  t194 := Tryz.underlying145,
  a194 := Tryz.isAgg145,
  z194 := Tryz.sizeOf145,
  v194 := Tryz.zeroValue145,
  t196 := Tryz.underlying147,
  a196 := Tryz.isAgg147,
  z196 := Tryz.sizeOf147,
  v196 := Tryz.zeroValue147,
  t198 := Tryz.underlying150,
  a198 := Tryz.isAgg150,
  z198 := Tryz.sizeOf150,
  v198 := Tryz.zeroValue150,
  t201 := Tryz.underlying153,
  a201 := Tryz.isAgg153,
  z201 := Tryz.sizeOf153,
  v201 := Tryz.zeroValue153,
  t226 := Tryz.underlying175,
  a226 := Tryz.isAgg175,
  z226 := Tryz.sizeOf175,
  v226 := Tryz.zeroValue175,
  t227 := Tryz.underlying176,
  a227 := Tryz.isAgg176,
  z227 := Tryz.sizeOf176,
  v227 := Tryz.zeroValue176,
  g0 := by kernel_rfl,
  g6 := by kernel_rfl,
  i0 := by kernel_rfl,
  i3 := by kernel_rfl,
  i4 := by kernel_rfl,
  i5 := by kernel_rfl,
  i9 := by kernel_rfl,
  i21 := by kernel_rfl,
  i31 := by kernel_rfl,
  i40 := by kernel_rfl,
  i46 := by kernel_rfl,
  i49 := by kernel_rfl,
  i51 := by kernel_rfl,
  i141 := by kernel_rfl,
  i152 := by kernel_rfl,
  i154 := by kernel_rfl,
  i193 := by kernel_rfl,
  i194 := by kernel_rfl,
  i196 := by kernel_rfl,
  i198 := by kernel_rfl,
  i201 := by kernel_rfl,
  i226 := by kernel_rfl,
  i227 := by kernel_rfl,
  m0 := by kernel_rfl,
  m6 := by kernel_rfl }

def AtoiR (s : ByteArray) (i : Int × Value) : Prop := (Lib.atoiAll s.data.toList = .ok i.1 ∧ i.2 = .nilIface) ∨ ((∀ v, Lib.atoiAll s.data.toList ≠ .ok v) ∧ ∃ t p, i.2 = .iface t p ∧ i.2.oneCell' = true)
theorem atoiE (s : ByteArray) (hs : s.size ≤ 281474976710656) : MeetsE Tryz.prog Tab 101 [.one (vs s)] (AtoiR s) (fun i => [.one (vi i.1), .one (.val i.2)]) := by
  refine ⟨⟨_, Tryz.func101, by decide, rfl⟩, fun w hw vals hl hv => ?_⟩
  match vals, hl with
  | [v], _ =>
    have h0 : v = .string s := rep_val (A := fun _ => False) (hv 0 _ rfl)
    subst h0
    cases hc : Lib.atoiAll s.data.toList with
    | ok v =>
      refine (Any.strconv_Atoi_ok lays172 s (by omega) v hc w).mono ?_
      rintro e w' ⟨rfl, hw'⟩
      refine ⟨(v, .nilIface), .inl ⟨hc, rfl⟩, gives_two ?_ rfl rfl⟩
      rcases hw' with rfl | ⟨t, rfl⟩
      · exact Go.RowKit.Below.refl _ _
      · exact Lib.bytesWorld_below _ _ _
    | range =>
      obtain ⟨t, p, hvar⟩ := tabRange hw
      refine (Any.strconv_Atoi_range_var lays172 s hs hc t p w hvar).mono ?_
      rintro e w' ⟨N, rfl, _, _, hb⟩
      exact ⟨(_, _), .inr ⟨(fun v h => by rw [hc] at h; cases h), _, _, rfl, rfl⟩, gives_two hb rfl rfl⟩
    | _ =>
      obtain ⟨t, p, hvar⟩ := hw.2.2.1
      refine (Any.strconv_Atoi_syntax_var lays172 s hs hc t p w hvar).mono ?_
      rintro e w' ⟨N, rfl, _, _, hb⟩
      exact ⟨(_, _), .inr ⟨(fun v h => by rw [hc] at h; cases h), _, _, rfl, rfl⟩, gives_two hb rfl rfl⟩

theorem implReadDecimal (s : ByteArray) (hs : s.size ≤ 1048576) : MeetsT Tryz.prog Tab 78 [.one (vs s)] [.one (vi (rdN s)), .one (vb (rdB s))] := by
  refine enterT tbl_ok false Tryz.func78 rfl (by decide) fun W hW => ?_
  conv => whnf
  refine callRE (atoiE s (by omega)) tabStays hW rfl (fun i hi => go tbl_ok false ?_)
  obtain ⟨v, e⟩ := i
  conv => whnf
  rcases hi with ⟨ha, he⟩ | ⟨hn, t, p, he, h1⟩
  · dsimp only at ha he
    subst he
    have hv := atoi_inR ha
    have hd := dec_size hv
    refine errW rfl rfl (by kernel_rfl) rfl (r := false) (.inl ⟨rfl, rfl⟩) (go tbl_ok false ?_)
    conv => whnf
    have hsome : ∀ n, rd s = some n → v = n := fun n hr => by
      have := rd_atoi hr
      rw [ha] at this
      injection this
    repeat' (first | (refine ite_f (by first | with_reducible rfl | assumption) ?_; conv => whnf) | (refine ite_t (by first | with_reducible rfl | assumption) ?_; conv => whnf) | (refine ⟨fun h => ?_, fun h => ?_⟩ <;> conv => whnf) | (refine callRT (implDecimal v hv) tabStays hW rfl (go tbl_ok false ?_); conv => whnf) | (refine callR (implIn v 0 1000000000) rfl (go tbl_ok false ?_); conv => whnf) | (refine ⟨by first | omega | (show _ ∧ _; omega) | ((repeat (first | rw [ByteArray.size_append] | rw [bsz] | rw [List.size_toArray] | rw [List.length_cons] | rw [List.length_nil])) <;> omega) | ((repeat rw [Int.toNat_natCast]) <;> first | omega | (show _ ∧ _; omega)) | (simp only [ByteArray.size_append, bsz, List.size_toArray, List.length_cons, List.length_nil]; omega) | (simp only [Int.toNat_natCast]; first | omega | (show _ ∧ _; omega)) | decide | (simp only [beq_iff_eq, beq_eq_false_iff_ne, bne_iff_ne, bne_eq_false_iff_eq, Bool.not_eq_true', Bool.not_eq_false', Go.Sx.within_iff, Go.Sx.within_f, decide_eq_true_eq, decide_eq_false_iff_not, ne_eq, Int.not_lt, Int.not_le, ge_iff_le, gt_iff_lt, Int.toNat_zero, Int.toNat_one, Int.toNat_natCast] at * <;> first | omega | (show _ ∧ _; omega)), ?_⟩; conv => whnf) | fail)
    · have hr : rd s = none := by
        cases hr : rd s with
        | none => rfl
        | some n =>
          have e := (rd_some.1 hr).2
          rw [← hsome n hr] at e
          rw [e, ba_self] at h
          exact absurd h (by decide)
      exact retW tbl_ok rfl rfl ⟨congrArg vi (rd_none hr).1, congrArg vb (rd_none hr).2, trivial⟩
    · have hw : within v 0 1000000000 = false := by simpa using h
      have hw := Go.Sx.within_f.1 hw
      have hr : rd s = none := by
        cases hr : rd s with
        | none => rfl
        | some n =>
          have e := rd_le hr
          have := hsome n hr
          exact absurd (show 0 ≤ v ∧ v ≤ 1000000000 by omega) hw
      exact retW tbl_ok rfl rfl ⟨congrArg vi (rd_none hr).1, congrArg vb (rd_none hr).2, trivial⟩
    · rename_i hb
      have hw : within v 0 1000000000 = true := by simpa using h
      have hw := Go.Sx.within_iff.1 hw
      have hb : (dec v == s) = true := by simpa using hb
      have hr : rd s = some v.toNat := rd_some.2 ⟨by omega, by rw [show ((v.toNat : Nat) : Int) = v by omega]; exact ba_eq hb⟩
      have hn := (rd_is hr).1
      exact retW tbl_ok rfl rfl ⟨congrArg vi (by omega), congrArg vb (rd_is hr).2, trivial⟩
  · dsimp only at hn he
    subst he
    have hr : rd s = none := by
      cases hr : rd s with
      | none => rfl
      | some n => exact absurd (rd_atoi hr) (hn _)
    refine errW rfl rfl (by kernel_rfl) rfl (r := true) (.inr ⟨_, _, rfl, rfl⟩) (go tbl_ok false ?_)
    conv => whnf
    repeat' (first | (refine ite_f (by first | with_reducible rfl | assumption) ?_; conv => whnf) | (refine ite_t (by first | with_reducible rfl | assumption) ?_; conv => whnf) | (refine ⟨fun h => ?_, fun h => ?_⟩ <;> conv => whnf) | (refine ⟨by first | omega | (show _ ∧ _; omega) | ((repeat (first | rw [ByteArray.size_append] | rw [bsz] | rw [List.size_toArray] | rw [List.length_cons] | rw [List.length_nil])) <;> omega) | ((repeat rw [Int.toNat_natCast]) <;> first | omega | (show _ ∧ _; omega)) | (simp only [ByteArray.size_append, bsz, List.size_toArray, List.length_cons, List.length_nil]; omega) | (simp only [Int.toNat_natCast]; first | omega | (show _ ∧ _; omega)) | decide, ?_⟩; conv => whnf) | fail)
    exact retW tbl_ok rfl rfl ⟨congrArg vi (rd_none hr).1, congrArg vb (rd_none hr).2, trivial⟩

theorem specReadDecimal (s : ByteArray) (hs : s.size ≤ 1048576) : Meets Tryz.prog 35 [.one (vs s)] [.one (vi (rdN s)), .one (vb (rdB s))] := by
  refine enterW tbl_ok false Tryz.func35 rfl (by decide) fun W => ?_
  conv => whnf
  refine ⟨fun h0 => have h0 := of_decide_eq_true h0; ?_, fun h0 => have h0 := of_decide_eq_false h0; ?_⟩ <;> conv => whnf
  · have hr := rd_long (s := s) (by omega)
    exact retW tbl_ok rfl rfl ⟨congrArg vi (rd_none hr).1, congrArg vb (rd_none hr).2, trivial⟩
  have h10 : s.size ≤ 10 := by omega
  have hz : ∀ b ∈ s.data.toList.take 0, isD b := fun b hb => by rw [List.take_zero] at hb; cases hb
  refine loopW tbl_ok false [] (fun k : Nat => [(4, .c (vi (dval 0 (s.data.toList.take k) : Nat))), (5, .c (vi k))]) (fun k => []) (fun k => [])
    (fun k => k ≤ s.size ∧ (∀ b ∈ s.data.toList.take k, isD b)) (fun k => s.size - k) 0 ⟨Nat.zero_le _, by first | rfl | assumption | simp⟩ ⟨by first | rfl | simp [nth, ren2, ren1, ren0], by first | rfl | simp [nth, ren2, ren1, ren0], trivial⟩ trivial trivial trivial (by kernel_rfl) (fun k hk => ?_)
  obtain ⟨hk, he⟩ := hk
  conv => whnf
  refine ⟨fun h => have h := of_decide_eq_true h; ?_, fun h => have h := of_decide_eq_false h; ?_⟩ <;> conv => whnf
  · have hks : k < s.size := by omega
    have hb := dval_bound h10 he
    have hu : (s.data.getD (k : Int).toNat 0).toNat < 256 := UInt8.toNat_lt _
    have hs1 := dval_take hks
    have hno : ¬ isD (byteAt s k) → rd s = none := rd_nodigit hks
    (repeat (refine ⟨by first | omega | (show _ ∧ _; omega) | ((repeat (first | rw [ByteArray.size_append] | rw [bsz] | rw [List.size_toArray] | rw [List.length_cons] | rw [List.length_nil])) <;> omega) | ((repeat rw [Int.toNat_natCast]) <;> first | omega | (show _ ∧ _; omega)) | (simp only [ByteArray.size_append, bsz, List.size_toArray, List.length_cons, List.length_nil]; omega) | (simp only [Int.toNat_natCast]; first | omega | (show _ ∧ _; omega)) | decide, ?_⟩; conv => whnf))
    repeat' (first | (refine ite_f (by first | with_reducible rfl | assumption) ?_; conv => whnf) | (refine ite_t (by first | with_reducible rfl | assumption) ?_; conv => whnf) | (refine ⟨fun h => ?_, fun h => ?_⟩ <;> conv => whnf) | (refine ⟨by first | omega | (show _ ∧ _; omega) | ((repeat (first | rw [ByteArray.size_append] | rw [bsz] | rw [List.size_toArray] | rw [List.length_cons] | rw [List.length_nil])) <;> omega) | ((repeat rw [Int.toNat_natCast]) <;> first | omega | (show _ ∧ _; omega)) | (simp only [ByteArray.size_append, bsz, List.size_toArray, List.length_cons, List.length_nil]; omega) | (simp only [Int.toNat_natCast]; first | omega | (show _ ∧ _; omega)) | decide, ?_⟩; conv => whnf) | fail)
    · have hx : ((byteAt s k).toNat : Int) < 48 := of_decide_eq_true (by assumption)
      have hr := hno (fun c => by unfold isD at c; omega)
      exact retW tbl_ok rfl rfl ⟨congrArg vi (rd_none hr).1, congrArg vb (rd_none hr).2, trivial⟩
    · have hx : ((byteAt s k).toNat : Int) > 57 := of_decide_eq_true (by assumption)
      have hr := hno (fun c => by unfold isD at c; omega)
      exact retW tbl_ok rfl rfl ⟨congrArg vi (rd_none hr).1, congrArg vb (rd_none hr).2, trivial⟩
    · rename_i g1
      have x1 : ¬ ((byteAt s k).toNat : Int) < 48 := of_decide_eq_false g1
      have x2 : ¬ ((byteAt s k).toNat : Int) > 57 := of_decide_eq_false h
      have hnext : ∀ b ∈ s.data.toList.take (k + 1), isD b := fun b hb => by
        rw [take_byte hks] at hb
        rcases List.mem_append.1 hb with hb | hb
        · exact he b hb
        · rw [List.mem_singleton.1 hb, isD]; omega
      refine loopE [] (k + 1) ⟨by omega, hnext⟩ (by omega) ⟨congrArg (fun z => AV.c (vi z)) (by rw [hs1]; show 10 * ((dval 0 (List.take k s.data.toList) : Nat) : Int) + ((byteAt s k).toNat : Int) - 48 = _; omega), rfl, trivial⟩ trivial trivial (by kernel_rfl) trivial (by kernel_rfl)
  · have e : k = s.size := by omega
    have hall : s.data.toList.take k = s.data.toList := List.take_of_length_le (by rw [Array.length_toList]; have : s.data.size = s.size := rfl; omega)
    have hD : inR .i64 ((dval 0 (s.data.toList.take k) : Nat) : Int) := by have := dval_bound h10 he; show _ ∧ _; omega
    have hsz := dec_size hD
    repeat' (first | (refine ite_f (by first | with_reducible rfl | assumption) ?_; conv => whnf) | (refine ite_t (by first | with_reducible rfl | assumption) ?_; conv => whnf) | (refine ⟨fun h => ?_, fun h => ?_⟩ <;> conv => whnf) | (refine callR (specDecimal _ hD) rfl (go tbl_ok false ?_); conv => whnf) | (refine ⟨by first | omega | (show _ ∧ _; omega) | ((repeat (first | rw [ByteArray.size_append] | rw [bsz] | rw [List.size_toArray] | rw [List.length_cons] | rw [List.length_nil])) <;> omega) | ((repeat rw [Int.toNat_natCast]) <;> first | omega | (show _ ∧ _; omega)) | (simp only [ByteArray.size_append, bsz, List.size_toArray, List.length_cons, List.length_nil]; omega) | (simp only [Int.toNat_natCast]; first | omega | (show _ ∧ _; omega)) | decide | (simp only [beq_iff_eq, beq_eq_false_iff_ne, bne_iff_ne, bne_eq_false_iff_eq, Bool.not_eq_true', Bool.not_eq_false', Go.Sx.within_iff, Go.Sx.within_f, decide_eq_true_eq, decide_eq_false_iff_not, ne_eq, Int.not_lt, Int.not_le, ge_iff_le, gt_iff_lt, Int.toNat_zero, Int.toNat_one, Int.toNat_natCast] at * <;> first | omega | (show _ ∧ _; omega)), ?_⟩; conv => whnf) | fail)
    · have hx := of_decide_eq_true h
      have hr : rd s = none := by rw [rd_eq, ← hall, if_neg (by intro c; have := c.1; omega)]
      exact retW tbl_ok rfl rfl ⟨congrArg vi (rd_none hr).1, congrArg vb (rd_none hr).2, trivial⟩
    · have hr : rd s = none := by
        rw [rd_eq, ← hall, if_neg (by intro c; rw [c.2, ba_self] at h; exact absurd h (by decide))]
      exact retW tbl_ok rfl rfl ⟨congrArg vi (rd_none hr).1, congrArg vb (rd_none hr).2, trivial⟩
    · rename_i g1
      have x1 := of_decide_eq_false g1
      have x2 : (dec ((dval 0 (s.data.toList.take k) : Nat) : Int) == s) = true := by simpa using h
      have hr : rd s = some (dval 0 (s.data.toList.take k)) := by rw [hall]; rw [hall] at x1 x2; rw [rd_eq, if_pos ⟨by omega, ba_eq x2⟩]
      exact retW tbl_ok rfl rfl ⟨congrArg vi (rd_is hr).1, congrArg vb (rd_is hr).2, trivial⟩

end Go.Proofs.YtcpjpkcahnldfaaGreatDoor
