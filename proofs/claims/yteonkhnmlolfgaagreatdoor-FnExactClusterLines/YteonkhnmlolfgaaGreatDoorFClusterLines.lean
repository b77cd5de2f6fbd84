/- It is proved that the law FnExactClusterLines returns true for every input, as the given statement says. No conditions. -/
import Derived.Test.YteonkhnmlolfgaaGreatDoorLClusterLines
import Derived.Test.YteonkhnmlolfgaaGreatDoorTie
import Derived.Test.YteonkhnmlolfgaaGreatDoorCards
import Derived.LaidMore
import Derived.Stop.LaidErr
import Derived.Lib.LaidTab
import Derived.SevenTiedAt
import Derived.Deep.DeepHandedRow
import Derived.Lay
import Derived.Test.YteonkhnmlolfgaaGreatDoorRows
import Derived.WalkKit
import Derived.ProofKit
import Derived.OpenShut
import Derived.ShutString
import Derived.ChangeOld
import Derived.Below
import Derived.KernelRfl

set_option maxRecDepth 100000
namespace Go.Proofs.YteonkhnmlolfgaaGreatDoor
open Go.ChangeShapes Go.WideShapes Go.ChangeAt Go.RowKit
open Go.Sx
theorem own : ownKnob Tryz.prog.godebug = none := by kernel_rfl
theorem laidOut : laidOutB Tryz.prog = true := by kernel_rfl

theorem gives_true {w w' : World} {e : Ending} (h : Gives w w' [.one (vb true)] e) : e = .returned (.bool true) ∧ Below w.heap.size w w' := by
  obtain ⟨hb, rs, fps, he, hl, ho, _⟩ := h
  match rs, hl with
  | [r], _ =>
    have := ho 0 _ rfl
    simp only [List.getD_cons_zero] at this
    have e1 : r = .bool true := by
      change OwnRep w' (vb true) r (fps 0) at this
      generalize fps 0 = g at this
      cases this; rfl
    subst e1
    exact ⟨he, hb⟩

theorem sh_int {f : Nat} {cs : List Cell} (h : Shaped Tryz.prog f 3 cs) : ∃ x : Int, inR .i64 x ∧ Wk cs ([vi x]) := by
  cases f with
  | zero => exact h.elim
  | succ f =>
    simp only [Shaped, Tryz.underlying3] at h
    obtain ⟨n, h1, rfl⟩ := h
    exact ⟨n, h1, .refl _⟩

theorem sh_SInt {f : Nat} {cs : List Cell} (h : Shaped Tryz.prog f 83 cs) : ∃ x : List Int, (x.length ≤ maxLen ∧ ∀ y ∈ x, inR .i64 y) ∧ Wk cs ([sInt x]) := by
  cases f with
  | zero => exact h.elim
  | succ f =>
    simp only [Shaped, Tryz.underlying83] at h
    obtain ⟨n, row, hn, rfl, hr⟩ := h
    rw [show Tryz.prog.cellsOf 3 = 1 by kernel_rfl]
    obtain ⟨xs, hl, ho, hw⟩ := wk_sl (e := (fun n => [vi n])) (ok := fun y => inR .i64 y) (fun i hi => sh_int (hr i hi))
    exact ⟨xs, ⟨by omega, ho⟩, hw⟩

theorem sh_Node {f : Nat} {cs : List Cell} (h : Shaped Tryz.prog f 124 cs) : ∃ x : GNode, x.ok ∧ Wk cs (x.c) := by
  cases f with
  | zero => exact h.elim
  | succ f =>
    simp only [Shaped, Tryz.underlying124] at h
    change ShapedL (Shaped Tryz.prog f) [3, 3, 3, 83] cs at h
    obtain ⟨_, _, rfl, h0, _, _, rfl, h1, _, _, rfl, h2, _, _, rfl, h3, rfl⟩ := h
    obtain ⟨x0, o0, w0⟩ := sh_int h0
    obtain ⟨x1, o1, w1⟩ := sh_int h1
    obtain ⟨x2, o2, w2⟩ := sh_int h2
    obtain ⟨x3, o3, w3⟩ := sh_SInt h3
    exact ⟨⟨x0, x1, x2, x3⟩, ⟨o0, o1, o2, o3⟩, (w0.append (w1.append (w2.append (w3.append (Wk.refl [])))))⟩

theorem sh_SNode {f : Nat} {cs : List Cell} (h : Shaped Tryz.prog f 22 cs) : ∃ x : List GNode, (x.length ≤ maxLen ∧ ∀ y ∈ x, y.ok) ∧ Wk cs ([sGNode x]) := by
  cases f with
  | zero => exact h.elim
  | succ f =>
    simp only [Shaped, Tryz.underlying22] at h
    obtain ⟨n, row, hn, rfl, hr⟩ := h
    rw [show Tryz.prog.cellsOf 124 = 4 by kernel_rfl]
    obtain ⟨xs, hl, ho, hw⟩ := wk_sl (e := GNode.c) (ok := fun y => y.ok) (fun i hi => sh_Node (hr i hi))
    exact ⟨xs, ⟨by omega, ho⟩, hw⟩

theorem sh_Graph {f : Nat} {cs : List Cell} (h : Shaped Tryz.prog f 24 cs) : ∃ x : GGraph, x.ok ∧ Wk cs (x.c) := by
  cases f with
  | zero => exact h.elim
  | succ f =>
    simp only [Shaped, Tryz.underlying24] at h
    change ShapedL (Shaped Tryz.prog f) [22, 3, 3] cs at h
    obtain ⟨_, _, rfl, h0, _, _, rfl, h1, _, _, rfl, h2, rfl⟩ := h
    obtain ⟨x0, o0, w0⟩ := sh_SNode h0
    obtain ⟨x1, o1, w1⟩ := sh_int h1
    obtain ⟨x2, o2, w2⟩ := sh_int h2
    exact ⟨⟨x0, x1, x2⟩, ⟨o0, o1, o2⟩, (w0.append (w1.append (w2.append (Wk.refl []))))⟩

theorem sh_Stamp {f : Nat} {cs : List Cell} (h : Shaped Tryz.prog f 156 cs) : ∃ x : GStamp, x.ok ∧ Wk cs (x.c) := by
  cases f with
  | zero => exact h.elim
  | succ f =>
    simp only [Shaped, Tryz.underlying156] at h
    change ShapedL (Shaped Tryz.prog f) [3, 3] cs at h
    obtain ⟨_, _, rfl, h0, _, _, rfl, h1, rfl⟩ := h
    obtain ⟨x0, o0, w0⟩ := sh_int h0
    obtain ⟨x1, o1, w1⟩ := sh_int h1
    exact ⟨⟨x0, x1⟩, ⟨o0, o1⟩, (w0.append (w1.append (Wk.refl [])))⟩

theorem sh_Record {f : Nat} {cs : List Cell} (h : Shaped Tryz.prog f 158 cs) : ∃ x : GRecord, x.ok ∧ Wk cs (x.c) := by
  cases f with
  | zero => exact h.elim
  | succ f =>
    simp only [Shaped, Tryz.underlying158] at h
    change ShapedL (Shaped Tryz.prog f) [3, 156, 3, 3] cs at h
    obtain ⟨_, _, rfl, h0, _, _, rfl, h1, _, _, rfl, h2, _, _, rfl, h3, rfl⟩ := h
    obtain ⟨x0, o0, w0⟩ := sh_int h0
    obtain ⟨x1, o1, w1⟩ := sh_Stamp h1
    obtain ⟨x2, o2, w2⟩ := sh_int h2
    obtain ⟨x3, o3, w3⟩ := sh_int h3
    exact ⟨⟨x0, x1, x2, x3⟩, ⟨o0, o1, o2, o3⟩, (w0.append (w1.append (w2.append (w3.append (Wk.refl [])))))⟩

theorem sh_SRecord {f : Nat} {cs : List Cell} (h : Shaped Tryz.prog f 81 cs) : ∃ x : List GRecord, (x.length ≤ maxLen ∧ ∀ y ∈ x, y.ok) ∧ Wk cs ([sGRecord x]) := by
  cases f with
  | zero => exact h.elim
  | succ f =>
    simp only [Shaped, Tryz.underlying81] at h
    obtain ⟨n, row, hn, rfl, hr⟩ := h
    rw [show Tryz.prog.cellsOf 158 = 5 by kernel_rfl]
    obtain ⟨xs, hl, ho, hw⟩ := wk_sl (e := GRecord.c) (ok := fun y => y.ok) (fun i hi => sh_Record (hr i hi))
    exact ⟨xs, ⟨by omega, ho⟩, hw⟩

theorem sh_Cell {f : Nat} {cs : List Cell} (h : Shaped Tryz.prog f 160 cs) : ∃ x : GCell, x.ok ∧ Wk cs (x.c) := by
  cases f with
  | zero => exact h.elim
  | succ f =>
    simp only [Shaped, Tryz.underlying160] at h
    change ShapedL (Shaped Tryz.prog f) [3, 3, 3, 3] cs at h
    obtain ⟨_, _, rfl, h0, _, _, rfl, h1, _, _, rfl, h2, _, _, rfl, h3, rfl⟩ := h
    obtain ⟨x0, o0, w0⟩ := sh_int h0
    obtain ⟨x1, o1, w1⟩ := sh_int h1
    obtain ⟨x2, o2, w2⟩ := sh_int h2
    obtain ⟨x3, o3, w3⟩ := sh_int h3
    exact ⟨⟨x0, x1, x2, x3⟩, ⟨o0, o1, o2, o3⟩, (w0.append (w1.append (w2.append (w3.append (Wk.refl [])))))⟩

theorem sh_SCell {f : Nat} {cs : List Cell} (h : Shaped Tryz.prog f 82 cs) : ∃ x : List GCell, (x.length ≤ maxLen ∧ ∀ y ∈ x, y.ok) ∧ Wk cs ([sGCell x]) := by
  cases f with
  | zero => exact h.elim
  | succ f =>
    simp only [Shaped, Tryz.underlying82] at h
    obtain ⟨n, row, hn, rfl, hr⟩ := h
    rw [show Tryz.prog.cellsOf 160 = 4 by kernel_rfl]
    obtain ⟨xs, hl, ho, hw⟩ := wk_sl (e := GCell.c) (ok := fun y => y.ok) (fun i hi => sh_Cell (hr i hi))
    exact ⟨xs, ⟨by omega, ho⟩, hw⟩

theorem sh_bool {f : Nat} {cs : List Cell} (h : Shaped Tryz.prog f 4 cs) : ∃ x : Bool, True ∧ Wk cs ([vb x]) := by
  cases f with
  | zero => exact h.elim
  | succ f =>
    simp only [Shaped, Tryz.underlying4] at h
    obtain ⟨n, rfl⟩ := h
    exact ⟨n, trivial, .refl _⟩

theorem sh_SBool {f : Nat} {cs : List Cell} (h : Shaped Tryz.prog f 84 cs) : ∃ x : List Bool, x.length ≤ maxLen ∧ Wk cs ([sBool x]) := by
  cases f with
  | zero => exact h.elim
  | succ f =>
    simp only [Shaped, Tryz.underlying84] at h
    obtain ⟨n, row, hn, rfl, hr⟩ := h
    rw [show Tryz.prog.cellsOf 4 = 1 by kernel_rfl]
    obtain ⟨xs, hl, ho, hw⟩ := wk_sl (e := (fun b => [vb b])) (ok := fun y => True) (fun i hi => sh_bool (hr i hi))
    exact ⟨xs, (by omega), hw⟩

theorem sh_Done {f : Nat} {cs : List Cell} (h : Shaped Tryz.prog f 162 cs) : ∃ x : GDone, x.ok ∧ Wk cs (x.c) := by
  cases f with
  | zero => exact h.elim
  | succ f =>
    simp only [Shaped, Tryz.underlying162] at h
    change ShapedL (Shaped Tryz.prog f) [3, 4] cs at h
    obtain ⟨_, _, rfl, h0, _, _, rfl, h1, rfl⟩ := h
    obtain ⟨x0, o0, w0⟩ := sh_int h0
    obtain ⟨x1, o1, w1⟩ := sh_bool h1
    exact ⟨⟨x0, x1⟩, o0, (w0.append (w1.append (Wk.refl [])))⟩

theorem sh_SDone {f : Nat} {cs : List Cell} (h : Shaped Tryz.prog f 85 cs) : ∃ x : List GDone, (x.length ≤ maxLen ∧ ∀ y ∈ x, y.ok) ∧ Wk cs ([sGDone x]) := by
  cases f with
  | zero => exact h.elim
  | succ f =>
    simp only [Shaped, Tryz.underlying85] at h
    obtain ⟨n, row, hn, rfl, hr⟩ := h
    rw [show Tryz.prog.cellsOf 162 = 2 by kernel_rfl]
    obtain ⟨xs, hl, ho, hw⟩ := wk_sl (e := GDone.c) (ok := fun y => y.ok) (fun i hi => sh_Done (hr i hi))
    exact ⟨xs, ⟨by omega, ho⟩, hw⟩

theorem sh_Worker {f : Nat} {cs : List Cell} (h : Shaped Tryz.prog f 87 cs) : ∃ x : GWorker, x.ok ∧ Wk cs (x.c) := by
  cases f with
  | zero => exact h.elim
  | succ f =>
    simp only [Shaped, Tryz.underlying87] at h
    change ShapedL (Shaped Tryz.prog f) [81, 81, 81, 82, 83, 84, 84, 85] cs at h
    obtain ⟨_, _, rfl, h0, _, _, rfl, h1, _, _, rfl, h2, _, _, rfl, h3, _, _, rfl, h4, _, _, rfl, h5, _, _, rfl, h6, _, _, rfl, h7, rfl⟩ := h
    obtain ⟨x0, o0, w0⟩ := sh_SRecord h0
    obtain ⟨x1, o1, w1⟩ := sh_SRecord h1
    obtain ⟨x2, o2, w2⟩ := sh_SRecord h2
    obtain ⟨x3, o3, w3⟩ := sh_SCell h3
    obtain ⟨x4, o4, w4⟩ := sh_SInt h4
    obtain ⟨x5, o5, w5⟩ := sh_SBool h5
    obtain ⟨x6, o6, w6⟩ := sh_SBool h6
    obtain ⟨x7, o7, w7⟩ := sh_SDone h7
    exact ⟨⟨x0, x1, x2, x3, x4, x5, x6, x7⟩, ⟨o0, o1, o2, o3, o4, o5, o6, o7⟩, (w0.append (w1.append (w2.append (w3.append (w4.append (w5.append (w6.append (w7.append (Wk.refl [])))))))))⟩

theorem sh_SWorker {f : Nat} {cs : List Cell} (h : Shaped Tryz.prog f 25 cs) : ∃ x : List GWorker, (x.length ≤ maxLen ∧ ∀ y ∈ x, y.ok) ∧ Wk cs ([sGWorker x]) := by
  cases f with
  | zero => exact h.elim
  | succ f =>
    simp only [Shaped, Tryz.underlying25] at h
    obtain ⟨n, row, hn, rfl, hr⟩ := h
    rw [show Tryz.prog.cellsOf 87 = 8 by kernel_rfl]
    obtain ⟨xs, hl, ho, hw⟩ := wk_sl (e := GWorker.c) (ok := fun y => y.ok) (fun i hi => sh_Worker (hr i hi))
    exact ⟨xs, ⟨by omega, ho⟩, hw⟩

theorem sh_Link {f : Nat} {cs : List Cell} (h : Shaped Tryz.prog f 90 cs) : ∃ x : GLink, x.ok ∧ Wk cs (x.c) := by
  cases f with
  | zero => exact h.elim
  | succ f =>
    simp only [Shaped, Tryz.underlying90] at h
    change ShapedL (Shaped Tryz.prog f) [3, 81, 3, 3, 3, 3] cs at h
    obtain ⟨_, _, rfl, h0, _, _, rfl, h1, _, _, rfl, h2, _, _, rfl, h3, _, _, rfl, h4, _, _, rfl, h5, rfl⟩ := h
    obtain ⟨x0, o0, w0⟩ := sh_int h0
    obtain ⟨x1, o1, w1⟩ := sh_SRecord h1
    obtain ⟨x2, o2, w2⟩ := sh_int h2
    obtain ⟨x3, o3, w3⟩ := sh_int h3
    obtain ⟨x4, o4, w4⟩ := sh_int h4
    obtain ⟨x5, o5, w5⟩ := sh_int h5
    exact ⟨⟨x0, x1, x2, x3, x4, x5⟩, ⟨o0, o1, o2, o3, o4, o5⟩, (w0.append (w1.append (w2.append (w3.append (w4.append (w5.append (Wk.refl [])))))))⟩

theorem sh_SLink {f : Nat} {cs : List Cell} (h : Shaped Tryz.prog f 26 cs) : ∃ x : List GLink, (x.length ≤ maxLen ∧ ∀ y ∈ x, y.ok) ∧ Wk cs ([sGLink x]) := by
  cases f with
  | zero => exact h.elim
  | succ f =>
    simp only [Shaped, Tryz.underlying26] at h
    obtain ⟨n, row, hn, rfl, hr⟩ := h
    rw [show Tryz.prog.cellsOf 90 = 6 by kernel_rfl]
    obtain ⟨xs, hl, ho, hw⟩ := wk_sl (e := GLink.c) (ok := fun y => y.ok) (fun i hi => sh_Link (hr i hi))
    exact ⟨xs, ⟨by omega, ho⟩, hw⟩

theorem sh_Token {f : Nat} {cs : List Cell} (h : Shaped Tryz.prog f 103 cs) : ∃ x : GToken, x.ok ∧ Wk cs (x.c) := by
  cases f with
  | zero => exact h.elim
  | succ f =>
    simp only [Shaped, Tryz.underlying103] at h
    change ShapedL (Shaped Tryz.prog f) [4, 3, 3, 4, 4] cs at h
    obtain ⟨_, _, rfl, h0, _, _, rfl, h1, _, _, rfl, h2, _, _, rfl, h3, _, _, rfl, h4, rfl⟩ := h
    obtain ⟨x0, o0, w0⟩ := sh_bool h0
    obtain ⟨x1, o1, w1⟩ := sh_int h1
    obtain ⟨x2, o2, w2⟩ := sh_int h2
    obtain ⟨x3, o3, w3⟩ := sh_bool h3
    obtain ⟨x4, o4, w4⟩ := sh_bool h4
    exact ⟨⟨x0, x1, x2, x3, x4⟩, ⟨o1, o2⟩, (w0.append (w1.append (w2.append (w3.append (w4.append (Wk.refl []))))))⟩

theorem sh_SToken {f : Nat} {cs : List Cell} (h : Shaped Tryz.prog f 27 cs) : ∃ x : List GToken, (x.length ≤ maxLen ∧ ∀ y ∈ x, y.ok) ∧ Wk cs ([sGToken x]) := by
  cases f with
  | zero => exact h.elim
  | succ f =>
    simp only [Shaped, Tryz.underlying27] at h
    obtain ⟨n, row, hn, rfl, hr⟩ := h
    rw [show Tryz.prog.cellsOf 103 = 5 by kernel_rfl]
    obtain ⟨xs, hl, ho, hw⟩ := wk_sl (e := GToken.c) (ok := fun y => y.ok) (fun i hi => sh_Token (hr i hi))
    exact ⟨xs, ⟨by omega, ho⟩, hw⟩

theorem sh_News {f : Nat} {cs : List Cell} (h : Shaped Tryz.prog f 107 cs) : ∃ x : GNews, x.ok ∧ Wk cs (x.c) := by
  cases f with
  | zero => exact h.elim
  | succ f =>
    simp only [Shaped, Tryz.underlying107] at h
    change ShapedL (Shaped Tryz.prog f) [3, 3, 4] cs at h
    obtain ⟨_, _, rfl, h0, _, _, rfl, h1, _, _, rfl, h2, rfl⟩ := h
    obtain ⟨x0, o0, w0⟩ := sh_int h0
    obtain ⟨x1, o1, w1⟩ := sh_int h1
    obtain ⟨x2, o2, w2⟩ := sh_bool h2
    exact ⟨⟨x0, x1, x2⟩, ⟨o0, o1⟩, (w0.append (w1.append (w2.append (Wk.refl []))))⟩

theorem sh_SNews {f : Nat} {cs : List Cell} (h : Shaped Tryz.prog f 28 cs) : ∃ x : List GNews, (x.length ≤ maxLen ∧ ∀ y ∈ x, y.ok) ∧ Wk cs ([sGNews x]) := by
  cases f with
  | zero => exact h.elim
  | succ f =>
    simp only [Shaped, Tryz.underlying28] at h
    obtain ⟨n, row, hn, rfl, hr⟩ := h
    rw [show Tryz.prog.cellsOf 107 = 3 by kernel_rfl]
    obtain ⟨xs, hl, ho, hw⟩ := wk_sl (e := GNews.c) (ok := fun y => y.ok) (fun i hi => sh_News (hr i hi))
    exact ⟨xs, ⟨by omega, ho⟩, hw⟩

theorem sh_Cluster {f : Nat} {cs : List Cell} (h : Shaped Tryz.prog f 30 cs) : ∃ x : GCluster, x.ok ∧ Wk cs (x.c) := by
  cases f with
  | zero => exact h.elim
  | succ f =>
    simp only [Shaped, Tryz.underlying30] at h
    change ShapedL (Shaped Tryz.prog f) [24, 25, 26, 27, 28] cs at h
    obtain ⟨_, _, rfl, h0, _, _, rfl, h1, _, _, rfl, h2, _, _, rfl, h3, _, _, rfl, h4, rfl⟩ := h
    obtain ⟨x0, o0, w0⟩ := sh_Graph h0
    obtain ⟨x1, o1, w1⟩ := sh_SWorker h1
    obtain ⟨x2, o2, w2⟩ := sh_SLink h2
    obtain ⟨x3, o3, w3⟩ := sh_SToken h3
    obtain ⟨x4, o4, w4⟩ := sh_SNews h4
    exact ⟨⟨x0, x1, x2, x3, x4⟩, ⟨o0, o1, o2, o3, o4⟩, (w0.append (w1.append (w2.append (w3.append (w4.append (Wk.refl []))))))⟩


theorem door_met (os : Os) (args : Array Value) : laidMetH Tryz.prog Rows.fnExactClusterLinesRow.laid ((World.doorLaid Tryz.prog 400 os).forCall (fun _ _ => 0) ⟨#[], args, []⟩).memory := 
  laidMetH_of_parts3 (fuel := 8) (laidMet_of_run' 8 (by kernel_rfl) (by kernel_rfl)) (by kernel_rfl) (by kernel_rfl)

theorem tab_of_laid {W : World} (h : laidMetH Tryz.prog Rows.fnExactClusterLinesRow.laid W) : Tab W := by
  rw [MakeChecks.laidMetH_plain _ _ _ (by kernel_rfl)] at h
  exact Lib.tabIs_of_head (g := 0) (t := 197) (e := 186) (n := 20) (by kernel_rfl) (by kernel_rfl) Tryz.underlying197 Tryz.underlying186 (by kernel_rfl) (by kernel_rfl) (show laidMet Tryz.prog (("internal/strconv.uint64pow10", Lib.tabData .u64 Lib.pow10Tab) :: []) W from laidMet.tail (laidMet.tail (show laidMet Tryz.prog Rows.fnExactClusterLinesRow.laid W from h)))

set_option maxRecDepth 100000 in
theorem lifted (os : Os) (started : os.Started) (H : Type) (enc : TypeId × Value → H) :
    ReturnsInHanded {} Tryz.checked os 4 .any (fun w args => (Rows.fnExactClusterLinesSpec.pre enc Tryz.prog Tryz.f4 [] false w args ∧ laidMetH Tryz.prog Rows.fnExactClusterLinesRow.laid w) ∧ sizedMet enc Tryz.prog Tryz.f4 (OpenSpec.ofChange Rows.fnExactClusterLinesSpec) false w args)
      (Rows.fnExactClusterLinesSpec.post enc Tryz.prog Tryz.f4 false true false false) := by
  refine returnsInHanded_of_change_and (C := Tryz.checked) (X := fun w _ => laidMetH Tryz.prog Rows.fnExactClusterLinesRow.laid w) (fun _ _ _ hh h => h.of_heap hh) own started (by kernel_rfl) Tryz.func4
    (ChangeSpec.witness_shaped (enc := enc) (C := Tryz.checked) (os := os) (X := fun w _ => laidMetH Tryz.prog Rows.fnExactClusterLinesRow.laid w) false (World.doorLaid Tryz.prog 400 os) #[.agg #[.slice none 0 0, .int .i64 0, .int .i64 0, .slice none 0 0, .slice none 0 0, .slice none 0 0, .slice none 0 0]] 8 rfl (World.shaped_of_RefB (by kernel_rfl) (by kernel_rfl)) (by kernel_rfl) (by kernel_rfl) (by kernel_rfl) (door_met os _)) ?_
  intro W base args ds gs before hval0 hW _ _ hL _
  have hval : ∀ (j : Nat) t v, Tryz.f4.params[j]? = some t → args[j]? = some v → Value.okWide Tryz.prog W .any base t v := hval0
  have hW' := hW
  obtain ⟨p, q, hA0, hV, rfl, hfz, hnd⟩ := hW
  have hA : DataW.TrodAll enc Tryz.prog W 0 (fun _ => true) true Tryz.f4.params.toList args.toList ds p := hA0
  rw [Tryz.params4] at hA hval
  obtain ⟨v0, vs0, d0, ds0, p0, q0, hargs, rfl, rfl, t0, r0⟩ := trodAll_cons hA
  obtain ⟨rfl, rfl, rfl⟩ := trodAll_nil r0
  obtain rfl : args = #[v0] := by cases args; simp_all
  obtain ⟨rfl, rfl⟩ := trodVars_none hV
  obtain ⟨c0, rfl, z0⟩ := okWide_struct Tryz.underlying30 (hval 0 30 v0 rfl rfl)
  have k0 := t0
  have lt0 : ∀ x ∈ p0, x.block < W.heap.size := by obtain ⟨m, hm⟩ := k0; exact DataW.trod_lt m _ _ _ hm
  obtain ⟨f0, hf0⟩ := t0
  obtain ⟨xs0, rep0, sh0⟩ := trod_rep f0 30 _ _ 9 (by kernel_rfl) hf0
  obtain ⟨x0, o0, w0⟩ := sh_Cluster sh0
  clear hA0 hval0
  refine ((law x0 o0).2 W (tab_of_laid hL) [_] rfl (fun i z hz => ?_)).mono fun e W' hg => ?_
  · match i, hz with
    | 0, hz => simp only [List.getElem?_cons_zero, Option.some.injEq] at hz; subst hz; exact (w0.repL rep0).aggs
    | i + 1, hz => simp at hz
  obtain ⟨he, bel⟩ := gives_true hg
  subst he
  exact ⟨_, rfl, _, _, _, [], _, [], hW', trodAll_mk1 (shut_bool Tryz.underlying4 _), (trodAll_cons_mk (Below.trod laidOut (by kernel_rfl) (of_decide_eq_true (by kernel_rfl)) k0 bel lt0) trodAll_mk0), rfl, bel.frame _, fun h => by cases h⟩

theorem over : Rows.fnExactClusterLinesRow.holds Tryz.pinned (OpenSpec.ofChange Rows.fnExactClusterLinesSpec) :=
  OpenClaim.holds_of_wide 4 Tryz.f4 rfl rfl rfl rfl rfl rfl rfl ⟨rfl, rfl, rfl, rfl, rfl⟩ rfl rfl rfl rfl rfl (by kernel_rfl) Tryz.func4 (by kernel_rfl)
    (of_decide_eq_true (by kernel_rfl)) (by unfold Func.isWrapper; first | (rw [if_pos (by decide +kernel)]; kernel_rfl) | (rw [if_neg (by decide +kernel)]; exact ⟨rfl, rfl⟩))
    (fun os started H enc _ => lifted os started H enc)

theorem proved : Rows.FnExactClusterLinesCardSaid :=
  Claim7.holds_tied_plain_at .later [] [.data, .data, .data] true (true, "411cde96c76d7b6c3734a288a790ee4e47d4f8d9cdde350740ac7078c33dff22") false
    over (fun _ h => by cases h) (by kernel_rfl) (fun _ h => by cases h) fnExactClusterLines_row_tie rfl ⟨rfl, rfl⟩ (by kernel_rfl) rfl
    (fun f fn hf hfn => by
      obtain rfl : f = 4 := Option.some.inj ((show Tryz.prog.funcNamed "loop.example/g00973/laws.FnExactClusterLines" = some 4 by kernel_rfl).symm.trans hf) |>.symm
      obtain rfl : fn = Tryz.f4 := (Option.some.inj (Tryz.func4.symm.trans hfn)).symm
      exact ⟨by kernel_rfl, fun j t ht => by
        rw [Tryz.params4] at ht
        have hm : t ∈ [30] := by simpa using Array.mem_of_getElem? ht
        have hall : ([30].all fun u => !Tryz.prog.wantsStandIn u) = true := by kernel_rfl
        exact (show Tryz.prog.wantsStandIn t = false by simpa using List.all_eq_true.1 hall t hm)⟩)
    (by kernel_rfl)

end Go.Proofs.YteonkhnmlolfgaaGreatDoor
