/- It is proved that the law FnExactWorkerLine returns true for every input, as the given statement says. No conditions. -/
import Derived.Test.YtnialccpeadbbaaDoorLWorkerLine
import Derived.Test.YtnialccpeadbbaaDoorTie
import Derived.Test.YtnialccpeadbbaaDoorCards
import Derived.LaidMore
import Derived.Stop.LaidErr
import Derived.Lib.LaidTab
import Derived.SevenTiedAt
import Derived.Test.YtnialccpeadbbaaDoorRows
import Derived.WalkKit
import Derived.ProofKit
import Derived.OpenShut
import Derived.ShutString
import Derived.ChangeOld
import Derived.Below
import Derived.KernelRfl

set_option maxRecDepth 100000
namespace Go.Proofs.YtnialccpeadbbaaDoor
open Go.ChangeShapes Go.WideShapes Go.ChangeAt Go.RowKit
open Go.Sx
theorem own : ownKnob Tryd.prog.godebug = none := by kernel_rfl
theorem laidOut : laidOutB Tryd.prog = true := by kernel_rfl

theorem gives_true {w w' : World} {e : Ending} (h : Gives w w' [.one (vb true)] e) : e = .returned (.bool true) ∧ Below w.heap.size w w' := by
  obtain ⟨hb, rs, fps, he, hl, ho, _⟩ := h
  match rs, hl with
  | [r], _ =>
    have := ho 0 _ rfl
    simp only [List.getD_cons_zero] at this
    have e1 : r = .bool true := by
      change OwnRep w' (vb true) r (fps 0) at this
      generalize fps 0 = g at this
      cases this; rfl
    subst e1
    exact ⟨he, hb⟩

theorem sh_int {f : Nat} {cs : List Cell} (h : Shaped Tryd.prog f 3 cs) : ∃ x : Int, inR .i64 x ∧ Wk cs ([vi x]) := by
  cases f with
  | zero => exact h.elim
  | succ f =>
    simp only [Shaped, Tryd.underlying3] at h
    obtain ⟨n, h1, rfl⟩ := h
    exact ⟨n, h1, .refl _⟩

theorem sh_SInt {f : Nat} {cs : List Cell} (h : Shaped Tryd.prog f 44 cs) : ∃ x : List Int, (x.length ≤ maxLen ∧ ∀ y ∈ x, inR .i64 y) ∧ Wk cs ([sInt x]) := by
  cases f with
  | zero => exact h.elim
  | succ f =>
    simp only [Shaped, Tryd.underlying44] at h
    obtain ⟨n, row, hn, rfl, hr⟩ := h
    rw [show Tryd.prog.cellsOf 3 = 1 by kernel_rfl]
    obtain ⟨xs, hl, ho, hw⟩ := wk_sl (e := (fun n => [vi n])) (ok := fun y => inR .i64 y) (fun i hi => sh_int (hr i hi))
    exact ⟨xs, ⟨by omega, ho⟩, hw⟩

theorem sh_Node {f : Nat} {cs : List Cell} (h : Shaped Tryd.prog f 46 cs) : ∃ x : GNode, x.ok ∧ Wk cs (x.c) := by
  cases f with
  | zero => exact h.elim
  | succ f =>
    simp only [Shaped, Tryd.underlying46] at h
    change ShapedL (Shaped Tryd.prog f) [3, 3, 3, 44] cs at h
    obtain ⟨_, _, rfl, h0, _, _, rfl, h1, _, _, rfl, h2, _, _, rfl, h3, rfl⟩ := h
    obtain ⟨x0, o0, w0⟩ := sh_int h0
    obtain ⟨x1, o1, w1⟩ := sh_int h1
    obtain ⟨x2, o2, w2⟩ := sh_int h2
    obtain ⟨x3, o3, w3⟩ := sh_SInt h3
    exact ⟨⟨x0, x1, x2, x3⟩, ⟨o0, o1, o2, o3⟩, (w0.append (w1.append (w2.append (w3.append (Wk.refl [])))))⟩

theorem sh_SNode {f : Nat} {cs : List Cell} (h : Shaped Tryd.prog f 53 cs) : ∃ x : List GNode, (x.length ≤ maxLen ∧ ∀ y ∈ x, y.ok) ∧ Wk cs ([sGNode x]) := by
  cases f with
  | zero => exact h.elim
  | succ f =>
    simp only [Shaped, Tryd.underlying53] at h
    obtain ⟨n, row, hn, rfl, hr⟩ := h
    rw [show Tryd.prog.cellsOf 46 = 4 by kernel_rfl]
    obtain ⟨xs, hl, ho, hw⟩ := wk_sl (e := GNode.c) (ok := fun y => y.ok) (fun i hi => sh_Node (hr i hi))
    exact ⟨xs, ⟨by omega, ho⟩, hw⟩

theorem sh_Graph {f : Nat} {cs : List Cell} (h : Shaped Tryd.prog f 55 cs) : ∃ x : GGraph, x.ok ∧ Wk cs (x.c) := by
  cases f with
  | zero => exact h.elim
  | succ f =>
    simp only [Shaped, Tryd.underlying55] at h
    change ShapedL (Shaped Tryd.prog f) [53, 3, 3] cs at h
    obtain ⟨_, _, rfl, h0, _, _, rfl, h1, _, _, rfl, h2, rfl⟩ := h
    obtain ⟨x0, o0, w0⟩ := sh_SNode h0
    obtain ⟨x1, o1, w1⟩ := sh_int h1
    obtain ⟨x2, o2, w2⟩ := sh_int h2
    exact ⟨⟨x0, x1, x2⟩, ⟨o0, o1, o2⟩, (w0.append (w1.append (w2.append (Wk.refl []))))⟩

theorem sh_Stamp {f : Nat} {cs : List Cell} (h : Shaped Tryd.prog f 35 cs) : ∃ x : GStamp, x.ok ∧ Wk cs (x.c) := by
  cases f with
  | zero => exact h.elim
  | succ f =>
    simp only [Shaped, Tryd.underlying35] at h
    change ShapedL (Shaped Tryd.prog f) [3, 3] cs at h
    obtain ⟨_, _, rfl, h0, _, _, rfl, h1, rfl⟩ := h
    obtain ⟨x0, o0, w0⟩ := sh_int h0
    obtain ⟨x1, o1, w1⟩ := sh_int h1
    exact ⟨⟨x0, x1⟩, ⟨o0, o1⟩, (w0.append (w1.append (Wk.refl [])))⟩

theorem sh_Record {f : Nat} {cs : List Cell} (h : Shaped Tryd.prog f 37 cs) : ∃ x : GRecord, x.ok ∧ Wk cs (x.c) := by
  cases f with
  | zero => exact h.elim
  | succ f =>
    simp only [Shaped, Tryd.underlying37] at h
    change ShapedL (Shaped Tryd.prog f) [3, 35, 3, 3] cs at h
    obtain ⟨_, _, rfl, h0, _, _, rfl, h1, _, _, rfl, h2, _, _, rfl, h3, rfl⟩ := h
    obtain ⟨x0, o0, w0⟩ := sh_int h0
    obtain ⟨x1, o1, w1⟩ := sh_Stamp h1
    obtain ⟨x2, o2, w2⟩ := sh_int h2
    obtain ⟨x3, o3, w3⟩ := sh_int h3
    exact ⟨⟨x0, x1, x2, x3⟩, ⟨o0, o1, o2, o3⟩, (w0.append (w1.append (w2.append (w3.append (Wk.refl [])))))⟩

theorem sh_SRecord {f : Nat} {cs : List Cell} (h : Shaped Tryd.prog f 117 cs) : ∃ x : List GRecord, (x.length ≤ maxLen ∧ ∀ y ∈ x, y.ok) ∧ Wk cs ([sGRecord x]) := by
  cases f with
  | zero => exact h.elim
  | succ f =>
    simp only [Shaped, Tryd.underlying117] at h
    obtain ⟨n, row, hn, rfl, hr⟩ := h
    rw [show Tryd.prog.cellsOf 37 = 5 by kernel_rfl]
    obtain ⟨xs, hl, ho, hw⟩ := wk_sl (e := GRecord.c) (ok := fun y => y.ok) (fun i hi => sh_Record (hr i hi))
    exact ⟨xs, ⟨by omega, ho⟩, hw⟩

theorem sh_Cell {f : Nat} {cs : List Cell} (h : Shaped Tryd.prog f 23 cs) : ∃ x : GCell, x.ok ∧ Wk cs (x.c) := by
  cases f with
  | zero => exact h.elim
  | succ f =>
    simp only [Shaped, Tryd.underlying23] at h
    change ShapedL (Shaped Tryd.prog f) [3, 3, 3, 3] cs at h
    obtain ⟨_, _, rfl, h0, _, _, rfl, h1, _, _, rfl, h2, _, _, rfl, h3, rfl⟩ := h
    obtain ⟨x0, o0, w0⟩ := sh_int h0
    obtain ⟨x1, o1, w1⟩ := sh_int h1
    obtain ⟨x2, o2, w2⟩ := sh_int h2
    obtain ⟨x3, o3, w3⟩ := sh_int h3
    exact ⟨⟨x0, x1, x2, x3⟩, ⟨o0, o1, o2, o3⟩, (w0.append (w1.append (w2.append (w3.append (Wk.refl [])))))⟩

theorem sh_SCell {f : Nat} {cs : List Cell} (h : Shaped Tryd.prog f 118 cs) : ∃ x : List GCell, (x.length ≤ maxLen ∧ ∀ y ∈ x, y.ok) ∧ Wk cs ([sGCell x]) := by
  cases f with
  | zero => exact h.elim
  | succ f =>
    simp only [Shaped, Tryd.underlying118] at h
    obtain ⟨n, row, hn, rfl, hr⟩ := h
    rw [show Tryd.prog.cellsOf 23 = 4 by kernel_rfl]
    obtain ⟨xs, hl, ho, hw⟩ := wk_sl (e := GCell.c) (ok := fun y => y.ok) (fun i hi => sh_Cell (hr i hi))
    exact ⟨xs, ⟨by omega, ho⟩, hw⟩

theorem sh_bool {f : Nat} {cs : List Cell} (h : Shaped Tryd.prog f 4 cs) : ∃ x : Bool, True ∧ Wk cs ([vb x]) := by
  cases f with
  | zero => exact h.elim
  | succ f =>
    simp only [Shaped, Tryd.underlying4] at h
    obtain ⟨n, rfl⟩ := h
    exact ⟨n, trivial, .refl _⟩

theorem sh_SBool {f : Nat} {cs : List Cell} (h : Shaped Tryd.prog f 99 cs) : ∃ x : List Bool, x.length ≤ maxLen ∧ Wk cs ([sBool x]) := by
  cases f with
  | zero => exact h.elim
  | succ f =>
    simp only [Shaped, Tryd.underlying99] at h
    obtain ⟨n, row, hn, rfl, hr⟩ := h
    rw [show Tryd.prog.cellsOf 4 = 1 by kernel_rfl]
    obtain ⟨xs, hl, ho, hw⟩ := wk_sl (e := (fun b => [vb b])) (ok := fun y => True) (fun i hi => sh_bool (hr i hi))
    exact ⟨xs, (by omega), hw⟩

theorem sh_Done {f : Nat} {cs : List Cell} (h : Shaped Tryd.prog f 164 cs) : ∃ x : GDone, x.ok ∧ Wk cs (x.c) := by
  cases f with
  | zero => exact h.elim
  | succ f =>
    simp only [Shaped, Tryd.underlying164] at h
    change ShapedL (Shaped Tryd.prog f) [3, 4] cs at h
    obtain ⟨_, _, rfl, h0, _, _, rfl, h1, rfl⟩ := h
    obtain ⟨x0, o0, w0⟩ := sh_int h0
    obtain ⟨x1, o1, w1⟩ := sh_bool h1
    exact ⟨⟨x0, x1⟩, o0, (w0.append (w1.append (Wk.refl [])))⟩

theorem sh_SDone {f : Nat} {cs : List Cell} (h : Shaped Tryd.prog f 119 cs) : ∃ x : List GDone, (x.length ≤ maxLen ∧ ∀ y ∈ x, y.ok) ∧ Wk cs ([sGDone x]) := by
  cases f with
  | zero => exact h.elim
  | succ f =>
    simp only [Shaped, Tryd.underlying119] at h
    obtain ⟨n, row, hn, rfl, hr⟩ := h
    rw [show Tryd.prog.cellsOf 164 = 2 by kernel_rfl]
    obtain ⟨xs, hl, ho, hw⟩ := wk_sl (e := GDone.c) (ok := fun y => y.ok) (fun i hi => sh_Done (hr i hi))
    exact ⟨xs, ⟨by omega, ho⟩, hw⟩

theorem sh_Worker {f : Nat} {cs : List Cell} (h : Shaped Tryd.prog f 121 cs) : ∃ x : GWorker, x.ok ∧ Wk cs (x.c) := by
  cases f with
  | zero => exact h.elim
  | succ f =>
    simp only [Shaped, Tryd.underlying121] at h
    change ShapedL (Shaped Tryd.prog f) [117, 117, 117, 118, 44, 99, 99, 119] cs at h
    obtain ⟨_, _, rfl, h0, _, _, rfl, h1, _, _, rfl, h2, _, _, rfl, h3, _, _, rfl, h4, _, _, rfl, h5, _, _, rfl, h6, _, _, rfl, h7, rfl⟩ := h
    obtain ⟨x0, o0, w0⟩ := sh_SRecord h0
    obtain ⟨x1, o1, w1⟩ := sh_SRecord h1
    obtain ⟨x2, o2, w2⟩ := sh_SRecord h2
    obtain ⟨x3, o3, w3⟩ := sh_SCell h3
    obtain ⟨x4, o4, w4⟩ := sh_SInt h4
    obtain ⟨x5, o5, w5⟩ := sh_SBool h5
    obtain ⟨x6, o6, w6⟩ := sh_SBool h6
    obtain ⟨x7, o7, w7⟩ := sh_SDone h7
    exact ⟨⟨x0, x1, x2, x3, x4, x5, x6, x7⟩, ⟨o0, o1, o2, o3, o4, o5, o6, o7⟩, (w0.append (w1.append (w2.append (w3.append (w4.append (w5.append (w6.append (w7.append (Wk.refl [])))))))))⟩

theorem sh_SWorker {f : Nat} {cs : List Cell} (h : Shaped Tryd.prog f 64 cs) : ∃ x : List GWorker, (x.length ≤ maxLen ∧ ∀ y ∈ x, y.ok) ∧ Wk cs ([sGWorker x]) := by
  cases f with
  | zero => exact h.elim
  | succ f =>
    simp only [Shaped, Tryd.underlying64] at h
    obtain ⟨n, row, hn, rfl, hr⟩ := h
    rw [show Tryd.prog.cellsOf 121 = 8 by kernel_rfl]
    obtain ⟨xs, hl, ho, hw⟩ := wk_sl (e := GWorker.c) (ok := fun y => y.ok) (fun i hi => sh_Worker (hr i hi))
    exact ⟨xs, ⟨by omega, ho⟩, hw⟩

theorem sh_Link {f : Nat} {cs : List Cell} (h : Shaped Tryd.prog f 124 cs) : ∃ x : GLink, x.ok ∧ Wk cs (x.c) := by
  cases f with
  | zero => exact h.elim
  | succ f =>
    simp only [Shaped, Tryd.underlying124] at h
    change ShapedL (Shaped Tryd.prog f) [3, 117, 3, 3, 3, 3] cs at h
    obtain ⟨_, _, rfl, h0, _, _, rfl, h1, _, _, rfl, h2, _, _, rfl, h3, _, _, rfl, h4, _, _, rfl, h5, rfl⟩ := h
    obtain ⟨x0, o0, w0⟩ := sh_int h0
    obtain ⟨x1, o1, w1⟩ := sh_SRecord h1
    obtain ⟨x2, o2, w2⟩ := sh_int h2
    obtain ⟨x3, o3, w3⟩ := sh_int h3
    obtain ⟨x4, o4, w4⟩ := sh_int h4
    obtain ⟨x5, o5, w5⟩ := sh_int h5
    exact ⟨⟨x0, x1, x2, x3, x4, x5⟩, ⟨o0, o1, o2, o3, o4, o5⟩, (w0.append (w1.append (w2.append (w3.append (w4.append (w5.append (Wk.refl [])))))))⟩

theorem sh_SLink {f : Nat} {cs : List Cell} (h : Shaped Tryd.prog f 65 cs) : ∃ x : List GLink, (x.length ≤ maxLen ∧ ∀ y ∈ x, y.ok) ∧ Wk cs ([sGLink x]) := by
  cases f with
  | zero => exact h.elim
  | succ f =>
    simp only [Shaped, Tryd.underlying65] at h
    obtain ⟨n, row, hn, rfl, hr⟩ := h
    rw [show Tryd.prog.cellsOf 124 = 6 by kernel_rfl]
    obtain ⟨xs, hl, ho, hw⟩ := wk_sl (e := GLink.c) (ok := fun y => y.ok) (fun i hi => sh_Link (hr i hi))
    exact ⟨xs, ⟨by omega, ho⟩, hw⟩

theorem sh_Token {f : Nat} {cs : List Cell} (h : Shaped Tryd.prog f 29 cs) : ∃ x : GToken, x.ok ∧ Wk cs (x.c) := by
  cases f with
  | zero => exact h.elim
  | succ f =>
    simp only [Shaped, Tryd.underlying29] at h
    change ShapedL (Shaped Tryd.prog f) [4, 3, 3, 4, 4] cs at h
    obtain ⟨_, _, rfl, h0, _, _, rfl, h1, _, _, rfl, h2, _, _, rfl, h3, _, _, rfl, h4, rfl⟩ := h
    obtain ⟨x0, o0, w0⟩ := sh_bool h0
    obtain ⟨x1, o1, w1⟩ := sh_int h1
    obtain ⟨x2, o2, w2⟩ := sh_int h2
    obtain ⟨x3, o3, w3⟩ := sh_bool h3
    obtain ⟨x4, o4, w4⟩ := sh_bool h4
    exact ⟨⟨x0, x1, x2, x3, x4⟩, ⟨o1, o2⟩, (w0.append (w1.append (w2.append (w3.append (w4.append (Wk.refl []))))))⟩

theorem sh_SToken {f : Nat} {cs : List Cell} (h : Shaped Tryd.prog f 66 cs) : ∃ x : List GToken, (x.length ≤ maxLen ∧ ∀ y ∈ x, y.ok) ∧ Wk cs ([sGToken x]) := by
  cases f with
  | zero => exact h.elim
  | succ f =>
    simp only [Shaped, Tryd.underlying66] at h
    obtain ⟨n, row, hn, rfl, hr⟩ := h
    rw [show Tryd.prog.cellsOf 29 = 5 by kernel_rfl]
    obtain ⟨xs, hl, ho, hw⟩ := wk_sl (e := GToken.c) (ok := fun y => y.ok) (fun i hi => sh_Token (hr i hi))
    exact ⟨xs, ⟨by omega, ho⟩, hw⟩

theorem sh_News {f : Nat} {cs : List Cell} (h : Shaped Tryd.prog f 134 cs) : ∃ x : GNews, x.ok ∧ Wk cs (x.c) := by
  cases f with
  | zero => exact h.elim
  | succ f =>
    simp only [Shaped, Tryd.underlying134] at h
    change ShapedL (Shaped Tryd.prog f) [3, 3, 4] cs at h
    obtain ⟨_, _, rfl, h0, _, _, rfl, h1, _, _, rfl, h2, rfl⟩ := h
    obtain ⟨x0, o0, w0⟩ := sh_int h0
    obtain ⟨x1, o1, w1⟩ := sh_int h1
    obtain ⟨x2, o2, w2⟩ := sh_bool h2
    exact ⟨⟨x0, x1, x2⟩, ⟨o0, o1⟩, (w0.append (w1.append (w2.append (Wk.refl []))))⟩

theorem sh_SNews {f : Nat} {cs : List Cell} (h : Shaped Tryd.prog f 67 cs) : ∃ x : List GNews, (x.length ≤ maxLen ∧ ∀ y ∈ x, y.ok) ∧ Wk cs ([sGNews x]) := by
  cases f with
  | zero => exact h.elim
  | succ f =>
    simp only [Shaped, Tryd.underlying67] at h
    obtain ⟨n, row, hn, rfl, hr⟩ := h
    rw [show Tryd.prog.cellsOf 134 = 3 by kernel_rfl]
    obtain ⟨xs, hl, ho, hw⟩ := wk_sl (e := GNews.c) (ok := fun y => y.ok) (fun i hi => sh_News (hr i hi))
    exact ⟨xs, ⟨by omega, ho⟩, hw⟩

theorem sh_Cluster {f : Nat} {cs : List Cell} (h : Shaped Tryd.prog f 69 cs) : ∃ x : GCluster, x.ok ∧ Wk cs (x.c) := by
  cases f with
  | zero => exact h.elim
  | succ f =>
    simp only [Shaped, Tryd.underlying69] at h
    change ShapedL (Shaped Tryd.prog f) [55, 64, 65, 66, 67] cs at h
    obtain ⟨_, _, rfl, h0, _, _, rfl, h1, _, _, rfl, h2, _, _, rfl, h3, _, _, rfl, h4, rfl⟩ := h
    obtain ⟨x0, o0, w0⟩ := sh_Graph h0
    obtain ⟨x1, o1, w1⟩ := sh_SWorker h1
    obtain ⟨x2, o2, w2⟩ := sh_SLink h2
    obtain ⟨x3, o3, w3⟩ := sh_SToken h3
    obtain ⟨x4, o4, w4⟩ := sh_SNews h4
    exact ⟨⟨x0, x1, x2, x3, x4⟩, ⟨o0, o1, o2, o3, o4⟩, (w0.append (w1.append (w2.append (w3.append (w4.append (Wk.refl []))))))⟩


theorem door_met (os : Os) (args : Array Value) : laidMetH Tryd.prog Rows.fnExactWorkerLineRow.laid ((World.doorLaid Tryd.prog 400 os).forCall (fun _ _ => 0) ⟨#[], args, []⟩).memory :=
  laidMetH_of_parts3 (fuel := 8) (laidMet_of_run' 8 (by kernel_rfl) (by kernel_rfl)) (by kernel_rfl) (by kernel_rfl)

theorem tab_of_laid {W : World} (h : laidMetH Tryd.prog Rows.fnExactWorkerLineRow.laid W) : Tab W := by
  rw [MakeChecks.laidMetH_plain _ _ _ (by kernel_rfl)] at h
  exact Lib.tabIs_of_head (g := 0) (t := 181) (e := 170) (n := 20) (by kernel_rfl) (by kernel_rfl) Tryd.underlying181 Tryd.underlying170 (by kernel_rfl) (by kernel_rfl) (show laidMet Tryd.prog (("internal/strconv.uint64pow10", Lib.tabData .u64 Lib.pow10Tab) :: []) W from laidMet.tail (laidMet.tail (show laidMet Tryd.prog Rows.fnExactWorkerLineRow.laid W from h)))

set_option maxRecDepth 100000 in
theorem lifted (os : Os) (started : os.Started) (H : Type) (enc : TypeId × Value → H) :
    ReturnsInHanded {} Tryd.checked os 8 .any (fun w args => (Rows.fnExactWorkerLineSpec.pre enc Tryd.prog Tryd.f8 [] false w args ∧ laidMetH Tryd.prog Rows.fnExactWorkerLineRow.laid w) ∧ sizedMet enc Tryd.prog Tryd.f8 (OpenSpec.ofChange Rows.fnExactWorkerLineSpec) false w args)
      (Rows.fnExactWorkerLineSpec.post enc Tryd.prog Tryd.f8 false true false false) := by
  refine returnsInHanded_of_change_and (C := Tryd.checked) (X := fun w _ => laidMetH Tryd.prog Rows.fnExactWorkerLineRow.laid w) (fun _ _ _ hh h => h.of_heap hh) own started (by kernel_rfl) Tryd.func8
    (ChangeSpec.witness_shaped (enc := enc) (C := Tryd.checked) (os := os) (X := fun w _ => laidMetH Tryd.prog Rows.fnExactWorkerLineRow.laid w) false (World.doorLaid Tryd.prog 400 os) #[.agg #[.slice none 0 0, .int .i64 0, .int .i64 0, .slice none 0 0, .slice none 0 0, .slice none 0 0, .slice none 0 0], .int .i64 0] 8 rfl (World.shaped_of_RefB (by kernel_rfl) (by kernel_rfl)) (by kernel_rfl) (by kernel_rfl) (by kernel_rfl) (door_met os _)) ?_
  intro W base args ds gs before hval0 hW _ _ hL _
  have hval : ∀ (j : Nat) t v, Tryd.f8.params[j]? = some t → args[j]? = some v → Value.okWide Tryd.prog W .any base t v := hval0
  have hW' := hW
  obtain ⟨p, q, hA0, hV, rfl, hfz, hnd⟩ := hW
  have hA : DataW.TrodAll enc Tryd.prog W 0 (fun _ => true) true Tryd.f8.params.toList args.toList ds p := hA0
  rw [Tryd.params8] at hA hval
  obtain ⟨v0, vs0, d0, ds0, p0, q0, hargs, rfl, rfl, t0, r0⟩ := trodAll_cons hA
  obtain ⟨v1, vs1, d1, ds1, p1, q1, rfl, rfl, rfl, t1, r1⟩ := trodAll_cons r0
  obtain ⟨rfl, rfl, rfl⟩ := trodAll_nil r1
  obtain rfl : args = #[v0, v1] := by cases args; simp_all
  obtain ⟨rfl, rfl⟩ := trodVars_none hV
  obtain ⟨c0, rfl, z0⟩ := okWide_struct Tryd.underlying69 (hval 0 69 v0 rfl rfl)
  have k0 := t0
  have lt0 : ∀ x ∈ p0, x.block < W.heap.size := by obtain ⟨m, hm⟩ := k0; exact DataW.trod_lt m _ _ _ hm
  obtain ⟨f0, hf0⟩ := t0
  obtain ⟨xs0, rep0, sh0⟩ := trod_rep f0 69 _ _ 9 (by kernel_rfl) hf0
  obtain ⟨x0, o0, w0⟩ := sh_Cluster sh0
  obtain ⟨n1, rfl⟩ := okWide_int Tryd.underlying3 (hval 1 3 v1 rfl rfl)
  have k1 := t1
  have lt1 : ∀ x ∈ p1, x.block < W.heap.size := by obtain ⟨m, hm⟩ := k1; exact DataW.trod_lt m _ _ _ hm
  obtain ⟨f1, hf1⟩ := t1
  obtain ⟨xs1, rep1, sh1⟩ := trod_rep f1 3 _ _ 9 (by kernel_rfl) hf1
  obtain ⟨x1, o1, w1⟩ := sh_int sh1
  clear hA0 hval0
  refine ((law x0 x1 o0 o1).2 W (tab_of_laid hL) [_, _] rfl (fun i z hz => ?_)).mono fun e W' hg => ?_
  · match i, hz with
    | 0, hz => simp only [List.getElem?_cons_zero, Option.some.injEq] at hz; subst hz; exact (w0.repL rep0).aggs
    | 1, hz => simp only [List.getElem?_cons_succ, List.getElem?_cons_zero, Option.some.injEq] at hz; subst hz; exact (w1.repL rep1).arg1
    | i + 2, hz => simp at hz
  obtain ⟨he, bel⟩ := gives_true hg
  subst he
  exact ⟨_, rfl, _, _, _, [], _, [], hW', trodAll_mk1 (shut_bool Tryd.underlying4 _), (trodAll_cons_mk (Below.trod laidOut (by kernel_rfl) (of_decide_eq_true (by kernel_rfl)) k0 bel lt0) (trodAll_cons_mk (Below.trod laidOut (by kernel_rfl) (of_decide_eq_true (by kernel_rfl)) k1 bel lt1) trodAll_mk0)), rfl, bel.frame _, fun h => by cases h⟩

theorem over : Rows.fnExactWorkerLineRow.holds Tryd.pinned (OpenSpec.ofChange Rows.fnExactWorkerLineSpec) :=
  OpenClaim.holds_of_wide 8 Tryd.f8 rfl rfl rfl rfl rfl rfl rfl ⟨rfl, rfl, rfl, rfl, rfl⟩ rfl rfl rfl rfl rfl (by kernel_rfl) Tryd.func8 (by kernel_rfl)
    (of_decide_eq_true (by kernel_rfl)) (by unfold Func.isWrapper; first | (rw [if_pos (by decide +kernel)]; kernel_rfl) | (rw [if_neg (by decide +kernel)]; exact ⟨rfl, rfl⟩))
    (fun os started H enc _ => lifted os started H enc)

theorem proved : Rows.FnExactWorkerLineCardSaid :=
  Claim7.holds_tied_plain_at .later [] [.data, .data, .data] true (true, "04d9d630acd6b82ba20fb17952a5804f8e164289e14ac0c9be6bb697007d9281") false
    over (fun _ h => by cases h) (by kernel_rfl) (fun _ h => by cases h) fnExactWorkerLine_row_tie rfl ⟨rfl, rfl⟩ (by kernel_rfl) rfl
    (fun f fn hf hfn => by
      obtain rfl : f = 8 := Option.some.inj ((show Tryd.prog.funcNamed "loop.example/g00973/laws.FnExactWorkerLine" = some 8 by kernel_rfl).symm.trans hf) |>.symm
      obtain rfl : fn = Tryd.f8 := (Option.some.inj (Tryd.func8.symm.trans hfn)).symm
      exact ⟨by kernel_rfl, fun j t ht => by
        rw [Tryd.params8] at ht
        have hm : t ∈ [69, 3] := by simpa using Array.mem_of_getElem? ht
        have hall : ([69, 3].all fun u => !Tryd.prog.wantsStandIn u) = true := by kernel_rfl
        exact (show Tryd.prog.wantsStandIn t = false by simpa using List.all_eq_true.1 hall t hm)⟩)
    (by kernel_rfl)

end Go.Proofs.YtnialccpeadbbaaDoor
