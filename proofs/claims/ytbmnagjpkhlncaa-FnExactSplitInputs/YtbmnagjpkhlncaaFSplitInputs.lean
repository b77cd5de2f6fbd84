/- It is proved that the law FnExactSplitInputs returns true for every input, as the given statement says. No conditions. -/
import Derived.Test.YtbmnagjpkhlncaaLSplitInputs
import Derived.Test.YtbmnagjpkhlncaaRows
import Derived.WalkKit
import Derived.ProofKit
import Derived.OpenShut
import Derived.ShutString
import Derived.ChangeOld
import Derived.Below
import Derived.KernelRfl

set_option maxRecDepth 100000
namespace Go.Proofs.Ytbmnagjpkhlncaa
open Go.ChangeShapes Go.WideShapes Go.ChangeAt Go.RowKit
open Go.Sx
theorem own : ownKnob Try.prog.godebug = none := by kernel_rfl
theorem laidOut : laidOutB Try.prog = true := by kernel_rfl

theorem gives_true {w w' : World} {e : Ending} (h : Gives w w' [.one (vb true)] e) : e = .returned (.bool true) ∧ Below w.heap.size w w' := by
  obtain ⟨hb, rs, fps, he, hl, ho, _⟩ := h
  match rs, hl with
  | [r], _ =>
    have := ho 0 _ rfl
    simp only [List.getD_cons_zero] at this
    have e1 : r = .bool true := by
      change OwnRep w' (vb true) r (fps 0) at this
      generalize fps 0 = g at this
      cases this; rfl
    subst e1
    exact ⟨he, hb⟩

theorem sh_int {f : Nat} {cs : List Cell} (h : Shaped Try.prog f 3 cs) : ∃ x : Int, inR .i64 x ∧ Wk cs ([vi x]) := by
  cases f with
  | zero => exact h.elim
  | succ f =>
    simp only [Shaped, Try.underlying3] at h
    obtain ⟨n, h1, rfl⟩ := h
    exact ⟨n, h1, .refl _⟩

theorem sh_Stamp {f : Nat} {cs : List Cell} (h : Shaped Try.prog f 76 cs) : ∃ x : GStamp, x.ok ∧ Wk cs (x.c) := by
  cases f with
  | zero => exact h.elim
  | succ f =>
    simp only [Shaped, Try.underlying76] at h
    change ShapedL (Shaped Try.prog f) [3, 3] cs at h
    obtain ⟨_, _, rfl, h0, _, _, rfl, h1, rfl⟩ := h
    obtain ⟨x0, o0, w0⟩ := sh_int h0
    obtain ⟨x1, o1, w1⟩ := sh_int h1
    exact ⟨⟨x0, x1⟩, ⟨o0, o1⟩, (w0.append (w1.append (Wk.refl [])))⟩

theorem sh_Record {f : Nat} {cs : List Cell} (h : Shaped Try.prog f 78 cs) : ∃ x : GRecord, x.ok ∧ Wk cs (x.c) := by
  cases f with
  | zero => exact h.elim
  | succ f =>
    simp only [Shaped, Try.underlying78] at h
    change ShapedL (Shaped Try.prog f) [3, 76, 3, 3] cs at h
    obtain ⟨_, _, rfl, h0, _, _, rfl, h1, _, _, rfl, h2, _, _, rfl, h3, rfl⟩ := h
    obtain ⟨x0, o0, w0⟩ := sh_int h0
    obtain ⟨x1, o1, w1⟩ := sh_Stamp h1
    obtain ⟨x2, o2, w2⟩ := sh_int h2
    obtain ⟨x3, o3, w3⟩ := sh_int h3
    exact ⟨⟨x0, x1, x2, x3⟩, ⟨o0, o1, o2, o3⟩, (w0.append (w1.append (w2.append (w3.append (Wk.refl [])))))⟩

theorem sh_SRecord {f : Nat} {cs : List Cell} (h : Shaped Try.prog f 28 cs) : ∃ x : List GRecord, (x.length ≤ maxLen ∧ ∀ y ∈ x, y.ok) ∧ Wk cs ([sGRecord x]) := by
  cases f with
  | zero => exact h.elim
  | succ f =>
    simp only [Shaped, Try.underlying28] at h
    obtain ⟨n, row, hn, rfl, hr⟩ := h
    rw [show Try.prog.cellsOf 78 = 5 by kernel_rfl]
    obtain ⟨xs, hl, ho, hw⟩ := wk_sl (e := GRecord.c) (ok := fun y => y.ok) (fun i hi => sh_Record (hr i hi))
    exact ⟨xs, ⟨by omega, ho⟩, hw⟩


theorem lifted (os : Os) (started : os.Started) (H : Type) (enc : TypeId × Value → H) :
    ReturnsInHanded {} Try.checked os 6 .any (Rows.fnExactSplitInputsSpec.pre6 enc Try.prog Try.f6 Rows.fnExactSplitInputsRow.domain false) (Rows.fnExactSplitInputsSpec.post enc Try.prog Try.f6 false true false false) := by
  refine returnsInHanded_of_change (C := Try.checked) own started (by kernel_rfl) Try.func6
    (ChangeSpec.witness6 (enc := enc) (C := Try.checked) false ⟨#[], #[.slice none 0 0, .int .i64 0], []⟩ 8 (by kernel_rfl) (by kernel_rfl) (by kernel_rfl) (by kernel_rfl)) ?_
  intro W base args ds gs before hval0 hW hcnd _
  have hval : ∀ (j : Nat) t v, Try.f6.params[j]? = some t → args[j]? = some v → Value.okWide Try.prog W .any base t v := hval0
  have hW' := hW
  obtain ⟨p, q, hA0, hV, rfl, hfz, hnd⟩ := hW
  have hA : DataW.TrodAll enc Try.prog W 0 (fun _ => true) true Try.f6.params.toList args.toList ds p := hA0
  rw [Try.params6] at hA hval
  obtain ⟨v0, vs0, d0, ds0, p0, q0, hargs, rfl, rfl, t0, r0⟩ := trodAll_cons hA
  obtain ⟨v1, vs1, d1, ds1, p1, q1, rfl, rfl, rfl, t1, r1⟩ := trodAll_cons r0
  obtain ⟨rfl, rfl, rfl⟩ := trodAll_nil r1
  obtain rfl : args = #[v0, v1] := by cases args; simp_all
  obtain ⟨rfl, rfl⟩ := trodVars_none hV
  obtain ⟨a0, len0, cap0, rfl⟩ := okWide_slice Try.underlying28 (hval 0 28 v0 rfl rfl)
  have k0 := t0
  have lt0 : ∀ x ∈ p0, x.block < W.heap.size := by obtain ⟨m, hm⟩ := k0; exact DataW.trod_lt m _ _ _ hm
  obtain ⟨f0, hf0⟩ := t0
  obtain ⟨xs0, rep0, sh0⟩ := trod_rep f0 28 _ _ 9 (by kernel_rfl) hf0
  obtain ⟨x0, o0, w0⟩ := sh_SRecord sh0
  obtain ⟨n1, rfl⟩ := okWide_int Try.underlying3 (hval 1 3 v1 rfl rfl)
  have k1 := t1
  have lt1 : ∀ x ∈ p1, x.block < W.heap.size := by obtain ⟨m, hm⟩ := k1; exact DataW.trod_lt m _ _ _ hm
  obtain ⟨f1, hf1⟩ := t1
  obtain ⟨xs1, rep1, sh1⟩ := trod_rep f1 3 _ _ 9 (by kernel_rfl) hf1
  obtain ⟨x1, o1, w1⟩ := sh_int sh1
  clear hA0 hval0
  refine ((law x0 x1 o0 o1).2 W [_, _] rfl (fun i z hz => ?_)).mono fun e W' hg => ?_
  · match i, hz with
    | 0, hz => simp only [List.getElem?_cons_zero, Option.some.injEq] at hz; subst hz; exact (w0.repL rep0).arg1
    | 1, hz => simp only [List.getElem?_cons_succ, List.getElem?_cons_zero, Option.some.injEq] at hz; subst hz; exact (w1.repL rep1).arg1
    | i + 2, hz => simp at hz
  obtain ⟨he, bel⟩ := gives_true hg
  subst he
  exact ⟨_, rfl, _, _, _, [], _, [], hW', trodAll_mk1 (shut_bool Try.underlying4 _), (trodAll_cons_mk (Below.trod laidOut (by kernel_rfl) (of_decide_eq_true (by kernel_rfl)) k0 bel lt0) (trodAll_cons_mk (Below.trod laidOut (by kernel_rfl) (of_decide_eq_true (by kernel_rfl)) k1 bel lt1) trodAll_mk0)), rfl, bel.frame _, fun h => by cases h⟩

theorem over : Rows.fnExactSplitInputsRow.holds Try.pinned (OpenSpec.ofChange Rows.fnExactSplitInputsSpec) :=
  OpenClaim.holds_of_wide 6 Try.f6 rfl rfl rfl rfl rfl rfl rfl ⟨rfl, rfl, rfl, rfl, rfl⟩ rfl rfl rfl rfl rfl (by kernel_rfl) Try.func6 (by kernel_rfl)
    (of_decide_eq_true (by kernel_rfl)) (by unfold Func.isWrapper; first | (rw [if_pos (by decide +kernel)]; kernel_rfl) | (rw [if_neg (by decide +kernel)]; exact ⟨rfl, rfl⟩))
    (fun os started H enc _ => lifted os started H enc)

theorem proved : Rows.FnExactSplitInputsSaid := over

end Go.Proofs.Ytbmnagjpkhlncaa
