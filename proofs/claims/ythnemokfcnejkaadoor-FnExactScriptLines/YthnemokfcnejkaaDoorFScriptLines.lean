/- It is proved that the law FnExactScriptLines returns true for every input, as the given statement says. No conditions. -/
import Derived.Test.YthnemokfcnejkaaDoorLScriptLines
import Derived.Test.YthnemokfcnejkaaDoorTie
import Derived.Test.YthnemokfcnejkaaDoorCards
import Derived.LaidMore
import Derived.Stop.LaidErr
import Derived.Lib.LaidTab
import Derived.SevenTiedAt
import Derived.Test.YthnemokfcnejkaaDoorRows
import Derived.WalkKit
import Derived.ProofKit
import Derived.OpenShut
import Derived.ShutString
import Derived.ChangeOld
import Derived.Below
import Derived.KernelRfl

set_option maxRecDepth 100000
namespace Go.Proofs.YthnemokfcnejkaaDoor
open Go.ChangeShapes Go.WideShapes Go.ChangeAt Go.RowKit
open Go.Sx
theorem own : ownKnob Tryd.prog.godebug = none := by kernel_rfl
theorem laidOut : laidOutB Tryd.prog = true := by kernel_rfl

theorem gives_true {w w' : World} {e : Ending} (h : Gives w w' [.one (vb true)] e) : e = .returned (.bool true) ∧ Below w.heap.size w w' := by
  obtain ⟨hb, rs, fps, he, hl, ho, _⟩ := h
  match rs, hl with
  | [r], _ =>
    have := ho 0 _ rfl
    simp only [List.getD_cons_zero] at this
    have e1 : r = .bool true := by
      change OwnRep w' (vb true) r (fps 0) at this
      generalize fps 0 = g at this
      cases this; rfl
    subst e1
    exact ⟨he, hb⟩

theorem sh_int {f : Nat} {cs : List Cell} (h : Shaped Tryd.prog f 3 cs) : ∃ x : Int, inR .i64 x ∧ Wk cs ([vi x]) := by
  cases f with
  | zero => exact h.elim
  | succ f =>
    simp only [Shaped, Tryd.underlying3] at h
    obtain ⟨n, h1, rfl⟩ := h
    exact ⟨n, h1, .refl _⟩

theorem sh_SInt {f : Nat} {cs : List Cell} (h : Shaped Tryd.prog f 67 cs) : ∃ x : List Int, (x.length ≤ maxLen ∧ ∀ y ∈ x, inR .i64 y) ∧ Wk cs ([sInt x]) := by
  cases f with
  | zero => exact h.elim
  | succ f =>
    simp only [Shaped, Tryd.underlying67] at h
    obtain ⟨n, row, hn, rfl, hr⟩ := h
    rw [show Tryd.prog.cellsOf 3 = 1 by kernel_rfl]
    obtain ⟨xs, hl, ho, hw⟩ := wk_sl (e := (fun n => [vi n])) (ok := fun y => inR .i64 y) (fun i hi => sh_int (hr i hi))
    exact ⟨xs, ⟨by omega, ho⟩, hw⟩

theorem sh_Node {f : Nat} {cs : List Cell} (h : Shaped Tryd.prog f 149 cs) : ∃ x : GNode, x.ok ∧ Wk cs (x.c) := by
  cases f with
  | zero => exact h.elim
  | succ f =>
    simp only [Shaped, Tryd.underlying149] at h
    change ShapedL (Shaped Tryd.prog f) [3, 3, 3, 67] cs at h
    obtain ⟨_, _, rfl, h0, _, _, rfl, h1, _, _, rfl, h2, _, _, rfl, h3, rfl⟩ := h
    obtain ⟨x0, o0, w0⟩ := sh_int h0
    obtain ⟨x1, o1, w1⟩ := sh_int h1
    obtain ⟨x2, o2, w2⟩ := sh_int h2
    obtain ⟨x3, o3, w3⟩ := sh_SInt h3
    exact ⟨⟨x0, x1, x2, x3⟩, ⟨o0, o1, o2, o3⟩, (w0.append (w1.append (w2.append (w3.append (Wk.refl [])))))⟩

theorem sh_SNode {f : Nat} {cs : List Cell} (h : Shaped Tryd.prog f 22 cs) : ∃ x : List GNode, (x.length ≤ maxLen ∧ ∀ y ∈ x, y.ok) ∧ Wk cs ([sGNode x]) := by
  cases f with
  | zero => exact h.elim
  | succ f =>
    simp only [Shaped, Tryd.underlying22] at h
    obtain ⟨n, row, hn, rfl, hr⟩ := h
    rw [show Tryd.prog.cellsOf 149 = 4 by kernel_rfl]
    obtain ⟨xs, hl, ho, hw⟩ := wk_sl (e := GNode.c) (ok := fun y => y.ok) (fun i hi => sh_Node (hr i hi))
    exact ⟨xs, ⟨by omega, ho⟩, hw⟩

theorem sh_Graph {f : Nat} {cs : List Cell} (h : Shaped Tryd.prog f 24 cs) : ∃ x : GGraph, x.ok ∧ Wk cs (x.c) := by
  cases f with
  | zero => exact h.elim
  | succ f =>
    simp only [Shaped, Tryd.underlying24] at h
    change ShapedL (Shaped Tryd.prog f) [22, 3, 3] cs at h
    obtain ⟨_, _, rfl, h0, _, _, rfl, h1, _, _, rfl, h2, rfl⟩ := h
    obtain ⟨x0, o0, w0⟩ := sh_SNode h0
    obtain ⟨x1, o1, w1⟩ := sh_int h1
    obtain ⟨x2, o2, w2⟩ := sh_int h2
    exact ⟨⟨x0, x1, x2⟩, ⟨o0, o1, o2⟩, (w0.append (w1.append (w2.append (Wk.refl []))))⟩

theorem sh_Stamp {f : Nat} {cs : List Cell} (h : Shaped Tryd.prog f 112 cs) : ∃ x : GStamp, x.ok ∧ Wk cs (x.c) := by
  cases f with
  | zero => exact h.elim
  | succ f =>
    simp only [Shaped, Tryd.underlying112] at h
    change ShapedL (Shaped Tryd.prog f) [3, 3] cs at h
    obtain ⟨_, _, rfl, h0, _, _, rfl, h1, rfl⟩ := h
    obtain ⟨x0, o0, w0⟩ := sh_int h0
    obtain ⟨x1, o1, w1⟩ := sh_int h1
    exact ⟨⟨x0, x1⟩, ⟨o0, o1⟩, (w0.append (w1.append (Wk.refl [])))⟩

theorem sh_Record {f : Nat} {cs : List Cell} (h : Shaped Tryd.prog f 114 cs) : ∃ x : GRecord, x.ok ∧ Wk cs (x.c) := by
  cases f with
  | zero => exact h.elim
  | succ f =>
    simp only [Shaped, Tryd.underlying114] at h
    change ShapedL (Shaped Tryd.prog f) [3, 112, 3, 3] cs at h
    obtain ⟨_, _, rfl, h0, _, _, rfl, h1, _, _, rfl, h2, _, _, rfl, h3, rfl⟩ := h
    obtain ⟨x0, o0, w0⟩ := sh_int h0
    obtain ⟨x1, o1, w1⟩ := sh_Stamp h1
    obtain ⟨x2, o2, w2⟩ := sh_int h2
    obtain ⟨x3, o3, w3⟩ := sh_int h3
    exact ⟨⟨x0, x1, x2, x3⟩, ⟨o0, o1, o2, o3⟩, (w0.append (w1.append (w2.append (w3.append (Wk.refl [])))))⟩

theorem sh_SRecord {f : Nat} {cs : List Cell} (h : Shaped Tryd.prog f 25 cs) : ∃ x : List GRecord, (x.length ≤ maxLen ∧ ∀ y ∈ x, y.ok) ∧ Wk cs ([sGRecord x]) := by
  cases f with
  | zero => exact h.elim
  | succ f =>
    simp only [Shaped, Tryd.underlying25] at h
    obtain ⟨n, row, hn, rfl, hr⟩ := h
    rw [show Tryd.prog.cellsOf 114 = 5 by kernel_rfl]
    obtain ⟨xs, hl, ho, hw⟩ := wk_sl (e := GRecord.c) (ok := fun y => y.ok) (fun i hi => sh_Record (hr i hi))
    exact ⟨xs, ⟨by omega, ho⟩, hw⟩

theorem sh_Pick {f : Nat} {cs : List Cell} (h : Shaped Tryd.prog f 116 cs) : ∃ x : GPick, x.ok ∧ Wk cs (x.c) := by
  cases f with
  | zero => exact h.elim
  | succ f =>
    simp only [Shaped, Tryd.underlying116] at h
    change ShapedL (Shaped Tryd.prog f) [3, 3, 3] cs at h
    obtain ⟨_, _, rfl, h0, _, _, rfl, h1, _, _, rfl, h2, rfl⟩ := h
    obtain ⟨x0, o0, w0⟩ := sh_int h0
    obtain ⟨x1, o1, w1⟩ := sh_int h1
    obtain ⟨x2, o2, w2⟩ := sh_int h2
    exact ⟨⟨x0, x1, x2⟩, ⟨o0, o1, o2⟩, (w0.append (w1.append (w2.append (Wk.refl []))))⟩

theorem sh_SPick {f : Nat} {cs : List Cell} (h : Shaped Tryd.prog f 26 cs) : ∃ x : List GPick, (x.length ≤ maxLen ∧ ∀ y ∈ x, y.ok) ∧ Wk cs ([sGPick x]) := by
  cases f with
  | zero => exact h.elim
  | succ f =>
    simp only [Shaped, Tryd.underlying26] at h
    obtain ⟨n, row, hn, rfl, hr⟩ := h
    rw [show Tryd.prog.cellsOf 116 = 3 by kernel_rfl]
    obtain ⟨xs, hl, ho, hw⟩ := wk_sl (e := GPick.c) (ok := fun y => y.ok) (fun i hi => sh_Pick (hr i hi))
    exact ⟨xs, ⟨by omega, ho⟩, hw⟩

theorem sh_Script {f : Nat} {cs : List Cell} (h : Shaped Tryd.prog f 28 cs) : ∃ x : GScript, x.ok ∧ Wk cs (x.c) := by
  cases f with
  | zero => exact h.elim
  | succ f =>
    simp only [Shaped, Tryd.underlying28] at h
    change ShapedL (Shaped Tryd.prog f) [24, 25, 26, 3] cs at h
    obtain ⟨_, _, rfl, h0, _, _, rfl, h1, _, _, rfl, h2, _, _, rfl, h3, rfl⟩ := h
    obtain ⟨x0, o0, w0⟩ := sh_Graph h0
    obtain ⟨x1, o1, w1⟩ := sh_SRecord h1
    obtain ⟨x2, o2, w2⟩ := sh_SPick h2
    obtain ⟨x3, o3, w3⟩ := sh_int h3
    exact ⟨⟨x0, x1, x2, x3⟩, ⟨o0, o1, o2, o3⟩, (w0.append (w1.append (w2.append (w3.append (Wk.refl [])))))⟩


theorem door_met (os : Os) (args : Array Value) : laidMetH Tryd.prog Rows.fnExactScriptLinesRow.laid ((World.doorLaid Tryd.prog 400 os).forCall (fun _ _ => 0) ⟨#[], args, []⟩).memory :=
  laidMetH_of_parts3 (fuel := 8) (laidMet_of_run' 8 (by kernel_rfl) (by kernel_rfl)) (by kernel_rfl) (by kernel_rfl)

theorem tab_of_laid {W : World} (h : laidMetH Tryd.prog Rows.fnExactScriptLinesRow.laid W) : Tab W := by
  rw [MakeChecks.laidMetH_plain _ _ _ (by kernel_rfl)] at h
  exact Lib.tabIs_of_head (g := 0) (t := 187) (e := 180) (n := 20) (by kernel_rfl) (by kernel_rfl) Tryd.underlying187 Tryd.underlying180 (by kernel_rfl) (by kernel_rfl) (show laidMet Tryd.prog (("internal/strconv.uint64pow10", Lib.tabData .u64 Lib.pow10Tab) :: []) W from laidMet.tail (laidMet.tail (show laidMet Tryd.prog Rows.fnExactScriptLinesRow.laid W from h)))

set_option maxRecDepth 100000 in
theorem lifted (os : Os) (started : os.Started) (H : Type) (enc : TypeId × Value → H) :
    ReturnsInHanded {} Tryd.checked os 3 .any (fun w args => (Rows.fnExactScriptLinesSpec.pre enc Tryd.prog Tryd.f3 [] false w args ∧ laidMetH Tryd.prog Rows.fnExactScriptLinesRow.laid w) ∧ sizedMet enc Tryd.prog Tryd.f3 (OpenSpec.ofChange Rows.fnExactScriptLinesSpec) false w args)
      (Rows.fnExactScriptLinesSpec.post enc Tryd.prog Tryd.f3 false true false false) := by
  refine returnsInHanded_of_change_and (C := Tryd.checked) (X := fun w _ => laidMetH Tryd.prog Rows.fnExactScriptLinesRow.laid w) (fun _ _ _ hh h => h.of_heap hh) own started (by kernel_rfl) Tryd.func3
    (ChangeSpec.witness_shaped (enc := enc) (C := Tryd.checked) (os := os) (X := fun w _ => laidMetH Tryd.prog Rows.fnExactScriptLinesRow.laid w) false (World.doorLaid Tryd.prog 400 os) #[.agg #[.slice none 0 0, .int .i64 0, .int .i64 0, .slice none 0 0, .slice none 0 0, .int .i64 0]] 8 rfl (World.shaped_of_RefB (by kernel_rfl) (by kernel_rfl)) (by kernel_rfl) (by kernel_rfl) (by kernel_rfl) (door_met os _)) ?_
  intro W base args ds gs before hval0 hW _ _ hL _
  have hval : ∀ (j : Nat) t v, Tryd.f3.params[j]? = some t → args[j]? = some v → Value.okWide Tryd.prog W .any base t v := hval0
  have hW' := hW
  obtain ⟨p, q, hA0, hV, rfl, hfz, hnd⟩ := hW
  have hA : DataW.TrodAll enc Tryd.prog W 0 (fun _ => true) true Tryd.f3.params.toList args.toList ds p := hA0
  rw [Tryd.params3] at hA hval
  obtain ⟨v0, vs0, d0, ds0, p0, q0, hargs, rfl, rfl, t0, r0⟩ := trodAll_cons hA
  obtain ⟨rfl, rfl, rfl⟩ := trodAll_nil r0
  obtain rfl : args = #[v0] := by cases args; simp_all
  obtain ⟨rfl, rfl⟩ := trodVars_none hV
  obtain ⟨c0, rfl, z0⟩ := okWide_struct Tryd.underlying28 (hval 0 28 v0 rfl rfl)
  have k0 := t0
  have lt0 : ∀ x ∈ p0, x.block < W.heap.size := by obtain ⟨m, hm⟩ := k0; exact DataW.trod_lt m _ _ _ hm
  obtain ⟨f0, hf0⟩ := t0
  obtain ⟨xs0, rep0, sh0⟩ := trod_rep f0 28 _ _ 9 (by kernel_rfl) hf0
  obtain ⟨x0, o0, w0⟩ := sh_Script sh0
  clear hA0 hval0
  refine ((law x0 o0).2 W (tab_of_laid hL) [_] rfl (fun i z hz => ?_)).mono fun e W' hg => ?_
  · match i, hz with
    | 0, hz => simp only [List.getElem?_cons_zero, Option.some.injEq] at hz; subst hz; exact (w0.repL rep0).aggs
    | i + 1, hz => simp at hz
  obtain ⟨he, bel⟩ := gives_true hg
  subst he
  exact ⟨_, rfl, _, _, _, [], _, [], hW', trodAll_mk1 (shut_bool Tryd.underlying4 _), (trodAll_cons_mk (Below.trod laidOut (by kernel_rfl) (of_decide_eq_true (by kernel_rfl)) k0 bel lt0) trodAll_mk0), rfl, bel.frame _, fun h => by cases h⟩

theorem over : Rows.fnExactScriptLinesRow.holds Tryd.pinned (OpenSpec.ofChange Rows.fnExactScriptLinesSpec) :=
  OpenClaim.holds_of_wide 3 Tryd.f3 rfl rfl rfl rfl rfl rfl rfl ⟨rfl, rfl, rfl, rfl, rfl⟩ rfl rfl rfl rfl rfl (by kernel_rfl) Tryd.func3 (by kernel_rfl)
    (of_decide_eq_true (by kernel_rfl)) (by unfold Func.isWrapper; first | (rw [if_pos (by decide +kernel)]; kernel_rfl) | (rw [if_neg (by decide +kernel)]; exact ⟨rfl, rfl⟩))
    (fun os started H enc _ => lifted os started H enc)

theorem proved : Rows.FnExactScriptLinesCardSaid :=
  Claim7.holds_tied_plain_at .later [] [.data, .data, .data] true (true, "9d0fe2fdad4a2ea068de5fc6b8dc1b66f558581ece29384df73bc9f39b293cd4") false
    over (fun _ h => by cases h) (by kernel_rfl) (fun _ h => by cases h) fnExactScriptLines_row_tie rfl ⟨rfl, rfl⟩ (by kernel_rfl) rfl
    (fun f fn hf hfn => by
      obtain rfl : f = 3 := Option.some.inj ((show Tryd.prog.funcNamed "loop.example/g00973/laws.FnExactScriptLines" = some 3 by kernel_rfl).symm.trans hf) |>.symm
      obtain rfl : fn = Tryd.f3 := (Option.some.inj (Tryd.func3.symm.trans hfn)).symm
      exact ⟨by kernel_rfl, fun j t ht => by
        rw [Tryd.params3] at ht
        have hm : t ∈ [28] := by simpa using Array.mem_of_getElem? ht
        have hall : ([28].all fun u => !Tryd.prog.wantsStandIn u) = true := by kernel_rfl
        exact (show Tryd.prog.wantsStandIn t = false by simpa using List.all_eq_true.1 hall t hm)⟩)
    (by kernel_rfl)

end Go.Proofs.YthnemokfcnejkaaDoor
