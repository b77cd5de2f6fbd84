/- It is proved that the law FnLinesBack returns true for every input, as the given statement says. No conditions. -/
import Derived.Test.YtcpjpkcahnldfaaGreatDoorLFnLinesBack
import Derived.Test.YtcpjpkcahnldfaaGreatDoorTie
import Derived.Test.YtcpjpkcahnldfaaGreatDoorCards
import Derived.LaidMore
import Derived.Stop.LaidErr
import Derived.Lib.LaidTab
import Derived.SevenTiedAt
import Derived.Deep.DeepHandedRow
import Derived.Lay
import Derived.Test.YtcpjpkcahnldfaaGreatDoorRows
import Derived.WalkKit
import Derived.ProofKit
import Derived.OpenShut
import Derived.ShutString
import Derived.ChangeOld
import Derived.Below
import Derived.KernelRfl

set_option maxRecDepth 100000
namespace Go.Proofs.YtcpjpkcahnldfaaGreatDoor
open Go.ChangeShapes Go.WideShapes Go.ChangeAt Go.RowKit
open Go.Sx
theorem own : ownKnob Tryz.prog.godebug = none := by kernel_rfl
theorem laidOut : laidOutB Tryz.prog = true := by kernel_rfl

theorem gives_true {w w' : World} {e : Ending} (h : Gives w w' [.one (vb true)] e) : e = .returned (.bool true) ∧ Below w.heap.size w w' := by
  obtain ⟨hb, rs, fps, he, hl, ho, _⟩ := h
  match rs, hl with
  | [r], _ =>
    have := ho 0 _ rfl
    simp only [List.getD_cons_zero] at this
    have e1 : r = .bool true := by
      change OwnRep w' (vb true) r (fps 0) at this
      generalize fps 0 = g at this
      cases this; rfl
    subst e1
    exact ⟨he, hb⟩

theorem sh_byte {f : Nat} {cs : List Cell} (h : Shaped Tryz.prog f 5 cs) : ∃ x : UInt8, True ∧ Wk cs ([vy x]) := by
  cases f with
  | zero => exact h.elim
  | succ f =>
    simp only [Shaped, Tryz.underlying5] at h
    obtain ⟨n, h1, rfl⟩ := h
    have h1 : 0 ≤ n ∧ n ≤ 255 := h1
    have e : ((UInt8.ofNat n.toNat).toNat : Int) = n := by rw [UInt8.toNat_ofNat']; omega
    exact ⟨UInt8.ofNat n.toNat, trivial, by rw [show vy (UInt8.ofNat n.toNat) = .val (.int .u8 n) from congrArg (fun m => Cell.val (.int .u8 m)) e]; exact .refl _⟩

theorem sh_S {f : Nat} {cs : List Cell} (h : Shaped Tryz.prog f 34 cs) : ∃ x : List UInt8, x.length ≤ maxLen ∧ Wk cs ([sByte x]) := by
  cases f with
  | zero => exact h.elim
  | succ f =>
    simp only [Shaped, Tryz.underlying34] at h
    obtain ⟨n, row, hn, rfl, hr⟩ := h
    rw [show Tryz.prog.cellsOf 5 = 1 by kernel_rfl]
    obtain ⟨xs, hl, ho, hw⟩ := wk_sl (e := (fun b => [vy b])) (ok := fun y => True) (fun i hi => sh_byte (hr i hi))
    exact ⟨xs, (by omega), hw⟩


theorem door_met (os : Os) (args : Array Value) : laidMetH Tryz.prog Rows.fnLinesBackRow.laid ((World.doorLaid Tryz.prog 400 os).forCall (fun _ _ => 0) ⟨#[], args, []⟩).memory := 
  laidMetH_of_parts3 (fuel := 8) (laidMet_of_run' 8 (by kernel_rfl) (by kernel_rfl)) (by kernel_rfl) (by kernel_rfl)

theorem errRow (u : TypeId) (h : Tryz.prog.typeName? 3 u = some "*errors.errorString") : u = 189 :=
  typeName_ptr_named (nm := "errors.errorString") (by rw [show "*" ++ "errors.errorString" = "*errors.errorString" by decide]; kernel_rfl) (by kernel_rfl) (by decide) u (by rw [show "*" ++ "errors.errorString" = "*errors.errorString" by decide]; exact h)

theorem tab_of_laid {W : World} (hsh : W.ShapedOpen Tryz.prog) (h : laidMetH Tryz.prog Rows.fnLinesBackRow.laid W) : Tab W := by
  rw [MakeChecks.laidMetH_plain _ _ _ (by kernel_rfl)] at h
  obtain ⟨a, _, h1, _⟩ := laid_sentinel (g := 5) (ti := 117) (tp := 189) (te := 191) (ts := 9) (show laidMet Tryz.prog (("strconv.ErrSyntax", Rows.laid_strconv_ErrSyntax) :: [("unicode.White_Space", Rows.laid_unicode_White_Space), ("strings.asciiSpace", Rows.laid_strings_asciiSpace)]) W from laidMet.tail (laidMet.tail (laidMet.tail (laidMet.tail (show laidMet Tryz.prog Rows.fnLinesBackRow.laid W from h))))) (by kernel_rfl) (by kernel_rfl) Tryz.underlying117 errRow Tryz.underlying189 Tryz.underlying191 rfl rfl Tryz.underlying9 (by kernel_rfl) (by kernel_rfl)
  obtain ⟨b, _, h2, _⟩ := laid_sentinel (g := 6) (ti := 117) (tp := 189) (te := 191) (ts := 9) (show laidMet Tryz.prog (("strconv.ErrRange", Rows.laid_strconv_ErrRange) :: [("strconv.ErrSyntax", Rows.laid_strconv_ErrSyntax), ("unicode.White_Space", Rows.laid_unicode_White_Space), ("strings.asciiSpace", Rows.laid_strings_asciiSpace)]) W from laidMet.tail (laidMet.tail (laidMet.tail (show laidMet Tryz.prog Rows.fnLinesBackRow.laid W from h)))) (by kernel_rfl) (by kernel_rfl) Tryz.underlying117 errRow Tryz.underlying189 Tryz.underlying191 rfl rfl Tryz.underlying9 (by kernel_rfl) (by kernel_rfl)
  exact ⟨Lib.tabIs_of_head (g := 7) (t := 184) (e := 165) (n := 20) (by kernel_rfl) (by kernel_rfl) Tryz.underlying184 Tryz.underlying165 (by kernel_rfl) (by kernel_rfl) (show laidMet Tryz.prog (("internal/strconv.uint64pow10", Lib.tabData .u64 Lib.pow10Tab) :: [("strconv.ErrRange", Rows.laid_strconv_ErrRange), ("strconv.ErrSyntax", Rows.laid_strconv_ErrSyntax), ("unicode.White_Space", Rows.laid_unicode_White_Space), ("strings.asciiSpace", Rows.laid_strings_asciiSpace)]) W from laidMet.tail (laidMet.tail (show laidMet Tryz.prog Rows.fnLinesBackRow.laid W from h))), Lib.tabIs_of_head (g := 0) (t := 113) (e := 5) (n := 256) (by kernel_rfl) (by kernel_rfl) Tryz.underlying113 Tryz.underlying5 (by kernel_rfl) (by kernel_rfl) (show laidMet Tryz.prog (("strings.asciiSpace", Lib.tabData .u8 Lib.asciiSpaceTab) :: []) W from laidMet.tail (laidMet.tail (laidMet.tail (laidMet.tail (laidMet.tail (laidMet.tail (show laidMet Tryz.prog Rows.fnLinesBackRow.laid W from h))))))), ⟨_, _, h1⟩, ⟨_, _, h2⟩, lays146.s1_3 W hsh⟩

set_option maxRecDepth 100000 in
theorem lifted (os : Os) (started : os.Started) (H : Type) (enc : TypeId × Value → H) :
    ReturnsInHanded {} Tryz.checked os 4 .any (fun w args => (Rows.fnLinesBackSpec.pre enc Tryz.prog Tryz.f4 [] false w args ∧ laidMetH Tryz.prog Rows.fnLinesBackRow.laid w) ∧ sizedMet enc Tryz.prog Tryz.f4 (OpenSpec.ofChange Rows.fnLinesBackSpec) false w args)
      (Rows.fnLinesBackSpec.post enc Tryz.prog Tryz.f4 false true false false) := by
  refine returnsInHanded_of_row (C := Tryz.checked) (s := OpenSpec.ofChange Rows.fnLinesBackSpec) (F := fun _ _ _ => 0) own started (by kernel_rfl) Tryz.func4
    (ChangeSpec.witness_shaped (enc := enc) (C := Tryz.checked) (os := os) (X := fun w _ => laidMetH Tryz.prog Rows.fnLinesBackRow.laid w) false (World.doorLaid Tryz.prog 400 os) #[.slice none 0 0] 8 rfl (World.shaped_of_RefB (by kernel_rfl) (by kernel_rfl)) (by kernel_rfl) (by kernel_rfl) (by kernel_rfl) (door_met os _)) ?_
  intro W base args ds gs before hval0 hW _ _ _ hL hsh _
  have hval : ∀ (j : Nat) t v, Tryz.f4.params[j]? = some t → args[j]? = some v → Value.okWide Tryz.prog W .any base t v := hval0
  have hW' := hW
  obtain ⟨p, q, hA0, hV, rfl, hfz, hnd⟩ := hW
  have hA : DataW.TrodAll enc Tryz.prog W 0 (fun _ => true) true Tryz.f4.params.toList args.toList ds p := hA0
  rw [Tryz.params4] at hA hval
  obtain ⟨v0, vs0, d0, ds0, p0, q0, hargs, rfl, rfl, t0, r0⟩ := trodAll_cons hA
  obtain ⟨rfl, rfl, rfl⟩ := trodAll_nil r0
  obtain rfl : args = #[v0] := by cases args; simp_all
  obtain ⟨rfl, rfl⟩ := trodVars_none hV
  obtain ⟨a0, len0, cap0, rfl⟩ := okWide_slice Tryz.underlying34 (hval 0 34 v0 rfl rfl)
  have k0 := t0
  have lt0 : ∀ x ∈ p0, x.block < W.heap.size := by obtain ⟨m, hm⟩ := k0; exact DataW.trod_lt m _ _ _ hm
  obtain ⟨f0, hf0⟩ := t0
  obtain ⟨xs0, rep0, sh0⟩ := trod_rep f0 34 _ _ 9 (by kernel_rfl) hf0
  obtain ⟨x0, o0, w0⟩ := sh_S sh0
  clear hA0 hval0
  refine ((law x0 o0).2 W (tab_of_laid hsh hL) [_] rfl (fun i z hz => ?_)).mono fun e W' hg => ?_
  · match i, hz with
    | 0, hz => simp only [List.getElem?_cons_zero, Option.some.injEq] at hz; subst hz; exact (w0.repL rep0).arg1
    | i + 1, hz => simp at hz
  obtain ⟨he, bel⟩ := gives_true hg
  subst he
  exact ⟨_, rfl, _, _, _, [], _, [], hW', trodAll_mk1 (shut_bool Tryz.underlying4 _), (trodAll_cons_mk (Below.trod laidOut (by kernel_rfl) (of_decide_eq_true (by kernel_rfl)) k0 bel lt0) trodAll_mk0), rfl, bel.frame _, fun h => by cases h⟩

theorem over : Rows.fnLinesBackRow.holds Tryz.pinned (OpenSpec.ofChange Rows.fnLinesBackSpec) :=
  OpenClaim.holds_of_wide 4 Tryz.f4 rfl rfl rfl rfl rfl rfl rfl ⟨rfl, rfl, rfl, rfl, rfl⟩ rfl rfl rfl rfl rfl (by kernel_rfl) Tryz.func4 (by kernel_rfl)
    (of_decide_eq_true (by kernel_rfl)) (by unfold Func.isWrapper; first | (rw [if_pos (by decide +kernel)]; kernel_rfl) | (rw [if_neg (by decide +kernel)]; exact ⟨rfl, rfl⟩))
    (fun os started H enc _ => lifted os started H enc)

theorem proved : Rows.FnLinesBackCardSaid :=
  Claim7.holds_tied_plain_at .later [] [.data, .data, .data, .sentinel, .sentinel, .listed, .data] true (true, "b95e98e0e687dc438fe9e30348030f168aa1da027ccb5e15cb3f89180cbc3b14") true
    over (fun _ h => by cases h) (by kernel_rfl) (fun _ h => by cases h) fnLinesBack_row_tie rfl ⟨rfl, rfl⟩ (by kernel_rfl) rfl
    (fun f fn hf hfn => by
      obtain rfl : f = 4 := Option.some.inj ((show Tryz.prog.funcNamed "loop.example/g00973/laws.FnLinesBack" = some 4 by kernel_rfl).symm.trans hf) |>.symm
      obtain rfl : fn = Tryz.f4 := (Option.some.inj (Tryz.func4.symm.trans hfn)).symm
      exact ⟨by kernel_rfl, fun j t ht => by
        rw [Tryz.params4] at ht
        have hm : t ∈ [34] := by simpa using Array.mem_of_getElem? ht
        have hall : ([34].all fun u => !Tryz.prog.wantsStandIn u) = true := by kernel_rfl
        exact (show Tryz.prog.wantsStandIn t = false by simpa using List.all_eq_true.1 hall t hm)⟩)
    (by kernel_rfl)

end Go.Proofs.YtcpjpkcahnldfaaGreatDoor
