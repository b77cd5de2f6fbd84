/- Texts for the law FnLinesBack: WDrG. No conditions. -/
import Derived.Test.YtcpjpkcahnldfaaGreatDoorWDrN2
import Derived.Test.YtcpjpkcahnldfaaGreatDoorWGrD

set_option maxRecDepth 100000
namespace Go.Proofs.YtcpjpkcahnldfaaGreatDoor
open Go.Sx
def NodeM (x : GNode) : Prop := x.ok ∧ x.outs.length ≤ 20
def AllM (xs : List GNode) : Prop := ∀ x ∈ xs, NodeM x
theorem NodeD.m {m : Nat} {x : GNode} (h : NodeD m x) (hm : m ≤ 20) : NodeM x := ⟨h.1, Nat.le_trans h.2 hm⟩
theorem smallN_m {x : GNode} (h : SmallN x) : x.ok ∧ x.outs.length ≤ 10 := by
  obtain ⟨h1, h2, h3, h4, h5⟩ := h
  exact ⟨⟨in_mk (by omega) (by omega), in_mk (by omega) (by omega), in_mk (by omega) (by omega), by rw [maxLen]; omega, fun n hn => by have := h5 n hn; exact in_mk (by omega) (by omega)⟩, h4⟩
theorem allM_of {xs : List GNode} (h : AllN xs) : AllM xs := fun x hx => ⟨(smallN_m (h x hx)).1, Nat.le_trans (smallN_m (h x hx)).2 (by decide)⟩
theorem allM_snoc {x : GNode} {xs : List GNode} (hs : AllM xs) (h : NodeM x) : AllM (xs ++ [x]) := fun y hy => by
  rcases List.mem_append.1 hy with hy | hy
  · exact hs y hy
  · rw [List.mem_singleton.1 hy]; exact h
theorem allM_set {x : GNode} {xs : List GNode} {j : Nat} (hs : AllM xs) (h : NodeM x) : AllM (xs.set j x) := fun y hy => by
  rcases List.mem_or_eq_of_mem_set hy with hy | rfl
  · exact hs y hy
  · exact h
theorem allM_take {xs : List GNode} (k : Nat) (hs : AllM xs) : AllM (xs.take k) := fun y hy => hs y (List.mem_of_mem_take hy)
def GraphA (g : GGraph) : Prop := g.ok ∧ g.w ≤ 1048576
theorem sumM_le : ∀ {xs : List GNode}, AllM xs → (xs.map GNode.w).sum ≤ 20 * xs.length
  | [], _ => Nat.le_refl _
  | x :: r, h => by
    have h1 : x.w ≤ 20 := (h x (List.mem_cons_self ..)).2
    have h2 := sumM_le fun y hy => h y (List.mem_cons_of_mem _ hy)
    rw [List.map_cons, List.sum_cons, List.length_cons]
    omega
theorem graphA_mk {ns : List GNode} {a b : Int} (h : AllM ns) (hl : ns.length ≤ 10) (ha : inR .i64 a) (hb : inR .i64 b) : GraphA ⟨ns, a, b⟩ := by
  refine ⟨⟨⟨by show ns.length ≤ maxLen; rw [maxLen]; omega, fun x hx => (h x hx).1⟩, ha, hb⟩, ?_⟩
  have := sumM_le h
  show ns.length + (ns.map GNode.w).sum ≤ 1048576
  omega
theorem upd_hole {α : Type} [Inhabited α] {es : Nat} {e : α → List Cell} {xs : List α} {j off : Nat} {v : Value} {x : α} {cs : List Cell} (hj : j < xs.length) (h : spliceC (spliceC (e (xs.getD j default)) off [.val v]) off cs = e x) :
    UpdOk xs.length es (fun i => if i = j then spliceC (e (xs.getD i default)) off [.val v] else e (xs.getD i default)) j off cs (slC es e (xs.set j x)) := by
  refine ⟨_, by rw [slC, List.length_set], fun i hi hne => ?_, ?_⟩
  · simp only [if_neg hne, Go.Sx.getD_set_ne _ _ _ _ _ hne]
  · simp only [if_true, h, Go.Sx.getD_set_self _ _ _ _ hj]
theorem cast_take {α : Type} [Inhabited α] {es : Nat} {e : α → List Cell} {xs : List α} {m : Nat} (hm : m ≤ xs.length) : CastOk (.sl m es fun i => e (xs.getD i default)) (slC es e (xs.take m)) := by
  have hl : (xs.take m).length = m := by rw [List.length_take]; omega
  refine ⟨hl, rfl, fun i hi => ?_⟩
  have : (xs.take m).getD i default = xs.getD i default := by
    simp [List.getD, hi]
  show CastL _ (e ((xs.take m).getD i default))
  rw [this]
  exact CastL.rfl' _
theorem node8 : NodeM ⟨8, 0, 0, []⟩ := by
  refine ⟨⟨in_mk (by decide) (by decide), in_mk (by decide) (by decide), in_mk (by decide) (by decide), Nat.zero_le _, fun n hn => by cases hn⟩, Nat.zero_le _⟩
/-- Where a loop over drawn operators stands. -/
structure JGr where
  i : Int
  h : Int
  xs : List GNode
set_option maxHeartbeats 4000000 in
theorem curAnyGraph (d : DCode) (i h : Int) (hi : 0 ≤ i ∧ i ≤ d.n) : MeetsP Tryz.prog HT 70 d.pins (d.cur i h) [] (fun r : Int × Int × GGraph => (0 ≤ r.1 ∧ r.1 ≤ d.n) ∧ GraphA r.2.2) (fun r => d.cur r.1 r.2.1) (fun r => [.agg r.2.2.c]) := by
  refine enterP tbl_ok false Tryz.func70 rfl (by decide) fun B b hH hp => ?_
  conv => whnf
  refine callP (curGraphD d i h hi) hH hp rfl (by repeat' (first | exact trivial | exact outC_val _ _ | exact rfl | exact .inr ⟨rfl, rfl, _, _, rfl⟩ | refine ⟨?_, ?_⟩)) rfl rfl (fun r hr => go tbl_ok false ?_)
  conv => whnf
  obtain ⟨hr1, _, hn, hl, hw, hc⟩ := hr
  have hm := allM_of hn
  refine callP (curBelow d r.1 r.2.1 r.2.2.nodes.length hr1 (by omega)) hH hp rfl (by repeat' (first | exact trivial | exact outC_val _ _ | exact rfl | exact .inr ⟨rfl, rfl, _, _, rfl⟩ | refine ⟨?_, ?_⟩)) rfl rfl (fun r2 hr2 => go tbl_ok false ?_)
  conv => whnf
  have hk := hr2.2.2.2 (by omega)
  have hk0 := hr2.2.1
  refine callP (curBelow d r2.1 r2.2.1 12 hr2.1 (by decide)) hH hp rfl (by repeat' (first | exact trivial | exact outC_val _ _ | exact rfl | exact .inr ⟨rfl, rfl, _, _, rfl⟩ | refine ⟨?_, ?_⟩)) rfl rfl (fun r3 hr3 => go tbl_ok false ?_)
  conv => whnf
  refine ⟨fun c0 => ?_, fun c0 => ?_⟩ <;> conv => whnf
  · repeat (first | (refine ite_f (by first | with_reducible rfl | assumption | (simp; done) | fail) ?_; conv => whnf) | (refine ite_t (by first | with_reducible rfl | assumption | (simp; done) | fail) ?_; conv => whnf) | (refine ⟨by first | omega | (show _ ∧ _; omega) | ((repeat (first | rw [ByteArray.size_append] | rw [bsz] | rw [List.size_toArray] | rw [List.length_cons] | rw [List.length_nil])) <;> omega) | ((repeat rw [Int.toNat_natCast]) <;> first | omega | (show _ ∧ _; omega)) | (simp only [ByteArray.size_append, bsz, List.size_toArray, List.length_cons, List.length_nil]; omega) | (simp only [Int.toNat_natCast]; first | omega | (show _ ∧ _; omega)) | decide, ?_⟩; conv => whnf))
    refine drawA rfl ?_
    refine preA tbl_ok false 0 rfl rfl rfl (by kernel_rfl) rfl (andL_mem (by repeat' (first | exact trivial | refine ⟨?_, ?_⟩ | (show _ ∧ _; omega) | omega))) ?_
    refine preA tbl_ok false 2 rfl rfl rfl (by kernel_rfl) rfl (andL_mem (by repeat' (first | exact trivial | refine ⟨?_, ?_⟩ | (show _ ∧ _; omega) | omega))) ?_
    refine preA tbl_ok false 3 rfl rfl rfl (by kernel_rfl) rfl (andL_mem (by repeat' (first | exact trivial | refine ⟨?_, ?_⟩ | (show _ ∧ _; omega) | omega))) ?_
    refine splitA [1, 4] (by kernel_rfl) ⟨?_, ?_, trivial⟩
    focus
      refine go tbl_ok false ?_
      conv => whnf
      refine loopA ?_
      refine splitA [4] (by kernel_rfl) ⟨?_, trivial⟩
      refine go tbl_ok false ?_
      conv => whnf
      refine callP (curAnyNode d r3.1 r3.2.1 hr3.1) hH hp rfl (by repeat' (first | exact trivial | exact outC_val _ _ | exact rfl | exact .inr ⟨rfl, rfl, _, _, rfl⟩ | refine ⟨?_, ?_⟩)) rfl rfl (fun r4 hr4 => go tbl_ok false ?_)
      conv => whnf
      refine loopA ?_
      refine splitA [5] (by kernel_rfl) ⟨?_, trivial⟩
      refine go tbl_ok false ?_
      conv => whnf
      (repeat (refine ⟨by first | omega | (show _ ∧ _; omega) | ((repeat (first | rw [ByteArray.size_append] | rw [bsz] | rw [List.size_toArray] | rw [List.length_cons] | rw [List.length_nil])) <;> omega) | ((repeat rw [Int.toNat_natCast]) <;> first | omega | (show _ ∧ _; omega)) | (simp only [ByteArray.size_append, bsz, List.size_toArray, List.length_cons, List.length_nil]; omega) | (simp only [Int.toNat_natCast]; first | omega | (show _ ∧ _; omega)) | decide, ?_⟩; conv => whnf))
      refine loopA ?_
      refine splitA [6] (by kernel_rfl) ⟨?_, trivial⟩
      refine go tbl_ok false ?_
      conv => whnf
      refine storeW (j := r2.2.2) tbl_ok rfl rfl rfl rfl rfl rfl rfl rfl _ (slC_set (j := r2.2.2.toNat) (xs := r.2.2.nodes) (e := GNode.c) (x := r4.2.2) (by omega) rfl) (go tbl_ok false ?_)
      conv => whnf
      refine loopA ?_
      refine doneA (by kernel_rfl) (go tbl_ok false ?_)
      conv => whnf
    rotate_left 1
    focus
      refine go tbl_ok false ?_
      conv => whnf
      refine callP (curAnyNode d r3.1 r3.2.1 hr3.1) hH hp rfl (by repeat' (first | exact trivial | exact outC_val _ _ | exact rfl | exact .inr ⟨rfl, rfl, _, _, rfl⟩ | refine ⟨?_, ?_⟩)) rfl rfl (fun r4 hr4 => go tbl_ok false ?_)
      conv => whnf
      refine loopA ?_
      refine splitA [1] (by kernel_rfl) ⟨?_, trivial⟩
      refine go tbl_ok false ?_
      conv => whnf
      refine loopA ?_
      refine splitA [5] (by kernel_rfl) ⟨?_, trivial⟩
      refine go tbl_ok false ?_
      conv => whnf
      (repeat (refine ⟨by first | omega | (show _ ∧ _; omega) | ((repeat (first | rw [ByteArray.size_append] | rw [bsz] | rw [List.size_toArray] | rw [List.length_cons] | rw [List.length_nil])) <;> omega) | ((repeat rw [Int.toNat_natCast]) <;> first | omega | (show _ ∧ _; omega)) | (simp only [ByteArray.size_append, bsz, List.size_toArray, List.length_cons, List.length_nil]; omega) | (simp only [Int.toNat_natCast]; first | omega | (show _ ∧ _; omega)) | decide, ?_⟩; conv => whnf))
      refine loopA ?_
      refine splitA [6] (by kernel_rfl) ⟨?_, trivial⟩
      refine go tbl_ok false ?_
      conv => whnf
      refine storeW (j := r2.2.2) tbl_ok rfl rfl rfl rfl rfl rfl rfl rfl _ (slC_set (j := r2.2.2.toNat) (xs := r.2.2.nodes) (e := GNode.c) (x := r4.2.2) (by omega) rfl) (go tbl_ok false ?_)
      conv => whnf
      refine loopA ?_
      refine doneA (by kernel_rfl) (go tbl_ok false ?_)
      conv => whnf
    all_goals exact retP tbl_ok (r4.1, r4.2.1, ⟨r.2.2.nodes.set r2.2.2.toNat r4.2.2, r.2.2.workers, r.2.2.cap⟩) ⟨hr4.1, graphA_mk (allM_set hm (hr4.2.m (by decide))) (by rw [List.length_set]; omega) (in_mk (by omega) (by omega)) (in_mk (by omega) (by omega))⟩ rfl rfl rfl rfl (by repeat' (first | exact trivial | exact outC_val _ _ | exact rfl | exact .inr ⟨rfl, rfl, _, _, rfl⟩ | refine ⟨?_, ?_⟩))
  repeat (first | (refine ite_f (by first | with_reducible rfl | assumption | (simp; done) | fail) ?_; conv => whnf) | (refine ite_t (by first | with_reducible rfl | assumption | (simp; done) | fail) ?_; conv => whnf) | (refine ⟨by first | omega | (show _ ∧ _; omega) | ((repeat (first | rw [ByteArray.size_append] | rw [bsz] | rw [List.size_toArray] | rw [List.length_cons] | rw [List.length_nil])) <;> omega) | ((repeat rw [Int.toNat_natCast]) <;> first | omega | (show _ ∧ _; omega)) | (simp only [ByteArray.size_append, bsz, List.size_toArray, List.length_cons, List.length_nil]; omega) | (simp only [Int.toNat_natCast]; first | omega | (show _ ∧ _; omega)) | decide, ?_⟩; conv => whnf))
  refine ⟨fun c1 => ?_, fun c1 => ?_⟩ <;> conv => whnf
  · repeat (first | (refine ite_f (by first | with_reducible rfl | assumption | (simp; done) | fail) ?_; conv => whnf) | (refine ite_t (by first | with_reducible rfl | assumption | (simp; done) | fail) ?_; conv => whnf) | (refine ⟨by first | omega | (show _ ∧ _; omega) | ((repeat (first | rw [ByteArray.size_append] | rw [bsz] | rw [List.size_toArray] | rw [List.length_cons] | rw [List.length_nil])) <;> omega) | ((repeat rw [Int.toNat_natCast]) <;> first | omega | (show _ ∧ _; omega)) | (simp only [ByteArray.size_append, bsz, List.size_toArray, List.length_cons, List.length_nil]; omega) | (simp only [Int.toNat_natCast]; first | omega | (show _ ∧ _; omega)) | decide, ?_⟩; conv => whnf))
    refine castC 4 (sInt [0, 4, 5, -1]) rfl (cast_rows rfl (by repeat' (first | exact trivial | exact rfl | refine ⟨?_, ?_⟩))) ?_
    refine callP (curPickInt d r3.1 r3.2.1 [0, 4, 5, -1] hr3.1 (by decide)) hH hp rfl (by repeat' (first | exact trivial | exact outC_val _ _ | exact rfl | exact .inr ⟨rfl, rfl, _, _, rfl⟩ | refine ⟨?_, ?_⟩)) rfl rfl (fun r4 hr4 => go tbl_ok false ?_)
    conv => whnf
    exact retP tbl_ok (r4.1, r4.2.1, ⟨r.2.2.nodes, [0, 4, 5, -1].getD r4.2.2 0, r.2.2.cap⟩) ⟨hr4.1, graphA_mk hm (by omega) (ints_in _ _ (by intro x hx; simp only [List.mem_cons, List.not_mem_nil, or_false] at hx; show _ ∧ _; omega)) (in_mk (by omega) (by omega))⟩ rfl rfl rfl rfl (by repeat' (first | exact trivial | exact outC_val _ _ | exact rfl | exact .inr ⟨rfl, rfl, _, _, rfl⟩ | refine ⟨?_, ?_⟩))
  repeat (first | (refine ite_f (by first | with_reducible rfl | assumption | (simp; done) | fail) ?_; conv => whnf) | (refine ite_t (by first | with_reducible rfl | assumption | (simp; done) | fail) ?_; conv => whnf) | (refine ⟨by first | omega | (show _ ∧ _; omega) | ((repeat (first | rw [ByteArray.size_append] | rw [bsz] | rw [List.size_toArray] | rw [List.length_cons] | rw [List.length_nil])) <;> omega) | ((repeat rw [Int.toNat_natCast]) <;> first | omega | (show _ ∧ _; omega)) | (simp only [ByteArray.size_append, bsz, List.size_toArray, List.length_cons, List.length_nil]; omega) | (simp only [Int.toNat_natCast]; first | omega | (show _ ∧ _; omega)) | decide, ?_⟩; conv => whnf))
  refine ⟨fun c2 => ?_, fun c2 => ?_⟩ <;> conv => whnf
  · repeat (first | (refine ite_f (by first | with_reducible rfl | assumption | (simp; done) | fail) ?_; conv => whnf) | (refine ite_t (by first | with_reducible rfl | assumption | (simp; done) | fail) ?_; conv => whnf) | (refine ⟨by first | omega | (show _ ∧ _; omega) | ((repeat (first | rw [ByteArray.size_append] | rw [bsz] | rw [List.size_toArray] | rw [List.length_cons] | rw [List.length_nil])) <;> omega) | ((repeat rw [Int.toNat_natCast]) <;> first | omega | (show _ ∧ _; omega)) | (simp only [ByteArray.size_append, bsz, List.size_toArray, List.length_cons, List.length_nil]; omega) | (simp only [Int.toNat_natCast]; first | omega | (show _ ∧ _; omega)) | decide, ?_⟩; conv => whnf))
    refine castC 4 (sInt [0, 4, 5, -1]) rfl (cast_rows rfl (by repeat' (first | exact trivial | exact rfl | refine ⟨?_, ?_⟩))) ?_
    refine callP (curPickInt d r3.1 r3.2.1 [0, 4, 5, -1] hr3.1 (by decide)) hH hp rfl (by repeat' (first | exact trivial | exact outC_val _ _ | exact rfl | exact .inr ⟨rfl, rfl, _, _, rfl⟩ | refine ⟨?_, ?_⟩)) rfl rfl (fun r4 hr4 => go tbl_ok false ?_)
    conv => whnf
    exact retP tbl_ok (r4.1, r4.2.1, ⟨r.2.2.nodes, r.2.2.workers, [0, 4, 5, -1].getD r4.2.2 0⟩) ⟨hr4.1, graphA_mk hm (by omega) (in_mk (by omega) (by omega)) (ints_in _ _ (by intro x hx; simp only [List.mem_cons, List.not_mem_nil, or_false] at hx; show _ ∧ _; omega))⟩ rfl rfl rfl rfl (by repeat' (first | exact trivial | exact outC_val _ _ | exact rfl | exact .inr ⟨rfl, rfl, _, _, rfl⟩ | refine ⟨?_, ?_⟩))
  repeat (first | (refine ite_f (by first | with_reducible rfl | assumption | (simp; done) | fail) ?_; conv => whnf) | (refine ite_t (by first | with_reducible rfl | assumption | (simp; done) | fail) ?_; conv => whnf) | (refine ⟨by first | omega | (show _ ∧ _; omega) | ((repeat (first | rw [ByteArray.size_append] | rw [bsz] | rw [List.size_toArray] | rw [List.length_cons] | rw [List.length_nil])) <;> omega) | ((repeat rw [Int.toNat_natCast]) <;> first | omega | (show _ ∧ _; omega)) | (simp only [ByteArray.size_append, bsz, List.size_toArray, List.length_cons, List.length_nil]; omega) | (simp only [Int.toNat_natCast]; first | omega | (show _ ∧ _; omega)) | decide, ?_⟩; conv => whnf))
  refine ⟨fun c3 => ?_, fun c3 => ?_⟩ <;> conv => whnf
  · repeat (first | (refine ite_f (by first | with_reducible rfl | assumption | (simp; done) | fail) ?_; conv => whnf) | (refine ite_t (by first | with_reducible rfl | assumption | (simp; done) | fail) ?_; conv => whnf) | (refine ⟨by first | omega | (show _ ∧ _; omega) | ((repeat (first | rw [ByteArray.size_append] | rw [bsz] | rw [List.size_toArray] | rw [List.length_cons] | rw [List.length_nil])) <;> omega) | ((repeat rw [Int.toNat_natCast]) <;> first | omega | (show _ ∧ _; omega)) | (simp only [ByteArray.size_append, bsz, List.size_toArray, List.length_cons, List.length_nil]; omega) | (simp only [Int.toNat_natCast]; first | omega | (show _ ∧ _; omega)) | decide, ?_⟩; conv => whnf))
    have hx := hm _ (getD_mem (d := default) (show r2.2.2.toNat < r.2.2.nodes.length by omega))
    have hx2 := (smallN_m (hn _ (getD_mem (d := default) (show r2.2.2.toNat < r.2.2.nodes.length by omega)))).2
    refine drawA rfl ?_
    refine preA tbl_ok false 0 rfl rfl rfl (by kernel_rfl) rfl (andL_mem (by repeat' (first | exact trivial | refine ⟨?_, ?_⟩ | (show _ ∧ _; omega) | omega))) ?_
    refine preA tbl_ok false 2 rfl rfl rfl (by kernel_rfl) rfl (andL_mem (by repeat' (first | exact trivial | refine ⟨?_, ?_⟩ | (show _ ∧ _; omega) | omega))) ?_
    refine preA tbl_ok false 3 rfl rfl rfl (by kernel_rfl) rfl (andL_mem (by repeat' (first | exact trivial | refine ⟨?_, ?_⟩ | (show _ ∧ _; omega) | omega))) ?_
    refine preA tbl_ok false 5 rfl rfl rfl (by kernel_rfl) rfl (andL_mem (by repeat' (first | exact trivial | refine ⟨?_, ?_⟩ | (show _ ∧ _; omega) | omega))) ?_
    refine preA tbl_ok false 9 rfl rfl rfl (by kernel_rfl) rfl (andL_mem (by repeat' (first | exact trivial | refine ⟨?_, ?_⟩ | (show _ ∧ _; omega) | omega))) ?_
    refine splitA [1, 4, 10] (by kernel_rfl) ⟨?_, ?_, ?_, trivial⟩
    focus
      refine go tbl_ok false ?_
      conv => whnf
      refine loopA ?_
      refine splitA [4, 10] (by kernel_rfl) ⟨?_, ?_, trivial⟩
      focus
        refine go tbl_ok false ?_
        conv => whnf
        refine loopA ?_
        refine splitA [6, 10] (by kernel_rfl) ⟨?_, ?_, trivial⟩
        focus
          refine go tbl_ok false ?_
          conv => whnf
          (repeat (refine ⟨by first | omega | (show _ ∧ _; omega) | ((repeat (first | rw [ByteArray.size_append] | rw [bsz] | rw [List.size_toArray] | rw [List.length_cons] | rw [List.length_nil])) <;> omega) | ((repeat rw [Int.toNat_natCast]) <;> first | omega | (show _ ∧ _; omega)) | (simp only [ByteArray.size_append, bsz, List.size_toArray, List.length_cons, List.length_nil]; omega) | (simp only [Int.toNat_natCast]; first | omega | (show _ ∧ _; omega)) | decide, ?_⟩; conv => whnf))
          refine loopA ?_
          refine preA tbl_ok false 7 rfl rfl rfl (by kernel_rfl) rfl (andL_mem (by repeat' (first | exact trivial | refine ⟨?_, ?_⟩ | (show _ ∧ _; omega) | omega))) ?_
          refine splitA [8, 10] (by kernel_rfl) ⟨?_, ?_, trivial⟩
          focus
            refine go tbl_ok false ?_
            conv => whnf
            refine focusW tbl_ok rfl rfl rfl rfl rfl rfl (c := sInt (r.2.2.nodes.getD r2.2.2.toNat default).outs) rfl (fun v => go tbl_ok false ?_)
            conv => whnf
            refine loopA ?_
            refine splitA [10] (by kernel_rfl) ⟨?_, trivial⟩
            refine go tbl_ok false ?_
            conv => whnf
            refine callP (curBelow d r3.1 r3.2.1 9 hr3.1 (by decide)) hH hp rfl (by repeat' (first | exact trivial | exact outC_val _ _ | exact rfl | exact .inr ⟨rfl, rfl, _, _, rfl⟩ | refine ⟨?_, ?_⟩)) rfl rfl (fun r4 hr4 => go tbl_ok false ?_)
            conv => whnf
            refine loopA ?_
            refine preA tbl_ok false 11 rfl rfl rfl (by kernel_rfl) rfl (andL_mem (by repeat' (first | exact trivial | refine ⟨?_, ?_⟩ | (show _ ∧ _; omega) | omega))) ?_
            refine splitA [12] (by kernel_rfl) ⟨?_, trivial⟩
            refine go tbl_ok false ?_
            conv => whnf
            refine loopA ?_
            refine splitA [13] (by kernel_rfl) ⟨?_, trivial⟩
            refine go tbl_ok false ?_
            conv => whnf
            refine appW tbl_ok rfl rfl rfl rfl rfl rfl rfl rfl rfl rfl rfl (sInt ((r.2.2.nodes.getD r2.2.2.toNat default).outs ++ [r4.2.2 - 1])) (slC_snoc rfl) (by intro h; cases h) (by omega) (go tbl_ok false ?_)
            conv => whnf
            refine loopA ?_
            refine splitA [14] (by kernel_rfl) ⟨?_, trivial⟩
            refine go tbl_ok false ?_
            conv => whnf
            (repeat (refine ⟨by first | omega | (show _ ∧ _; omega) | ((repeat (first | rw [ByteArray.size_append] | rw [bsz] | rw [List.size_toArray] | rw [List.length_cons] | rw [List.length_nil])) <;> omega) | ((repeat rw [Int.toNat_natCast]) <;> first | omega | (show _ ∧ _; omega)) | (simp only [ByteArray.size_append, bsz, List.size_toArray, List.length_cons, List.length_nil]; omega) | (simp only [Int.toNat_natCast]; first | omega | (show _ ∧ _; omega)) | decide, ?_⟩; conv => whnf))
            refine loopA ?_
            refine preA tbl_ok false 15 rfl rfl rfl (by kernel_rfl) rfl (andL_mem (by repeat' (first | exact trivial | refine ⟨?_, ?_⟩ | (show _ ∧ _; omega) | omega))) ?_
            refine splitA [16] (by kernel_rfl) ⟨?_, trivial⟩
            refine go tbl_ok false ?_
            conv => whnf
            refine storeW (j := r2.2.2) tbl_ok rfl rfl rfl rfl rfl rfl rfl rfl _ (upd_hole (j := r2.2.2.toNat) (xs := r.2.2.nodes) (e := GNode.c) (x := ⟨(r.2.2.nodes.getD r2.2.2.toNat default).kind, (r.2.2.nodes.getD r2.2.2.toNat default).a, (r.2.2.nodes.getD r2.2.2.toNat default).b, (r.2.2.nodes.getD r2.2.2.toNat default).outs ++ [r4.2.2 - 1]⟩) (by omega) rfl) (go tbl_ok false ?_)
            conv => whnf
            refine loopA ?_
            refine doneA (by kernel_rfl) (go tbl_ok false ?_)
            conv => whnf
          rotate_left 1
          focus
            refine go tbl_ok false ?_
            conv => whnf
            refine callP (curBelow d r3.1 r3.2.1 9 hr3.1 (by decide)) hH hp rfl (by repeat' (first | exact trivial | exact outC_val _ _ | exact rfl | exact .inr ⟨rfl, rfl, _, _, rfl⟩ | refine ⟨?_, ?_⟩)) rfl rfl (fun r4 hr4 => go tbl_ok false ?_)
            conv => whnf
            refine loopA ?_
            refine preA tbl_ok false 11 rfl rfl rfl (by kernel_rfl) rfl (andL_mem (by repeat' (first | exact trivial | refine ⟨?_, ?_⟩ | (show _ ∧ _; omega) | omega))) ?_
            refine splitA [8, 12] (by kernel_rfl) ⟨?_, ?_, trivial⟩
            focus
              refine go tbl_ok false ?_
              conv => whnf
              refine focusW tbl_ok rfl rfl rfl rfl rfl rfl (c := sInt (r.2.2.nodes.getD r2.2.2.toNat default).outs) rfl (fun v => go tbl_ok false ?_)
              conv => whnf
              refine loopA ?_
              refine splitA [12] (by kernel_rfl) ⟨?_, trivial⟩
              refine go tbl_ok false ?_
              conv => whnf
              refine loopA ?_
              refine splitA [13] (by kernel_rfl) ⟨?_, trivial⟩
              refine go tbl_ok false ?_
              conv => whnf
              refine appW tbl_ok rfl rfl rfl rfl rfl rfl rfl rfl rfl rfl rfl (sInt ((r.2.2.nodes.getD r2.2.2.toNat default).outs ++ [r4.2.2 - 1])) (slC_snoc rfl) (by intro h; cases h) (by omega) (go tbl_ok false ?_)
              conv => whnf
              refine loopA ?_
              refine splitA [14] (by kernel_rfl) ⟨?_, trivial⟩
              refine go tbl_ok false ?_
              conv => whnf
              (repeat (refine ⟨by first | omega | (show _ ∧ _; omega) | ((repeat (first | rw [ByteArray.size_append] | rw [bsz] | rw [List.size_toArray] | rw [List.length_cons] | rw [List.length_nil])) <;> omega) | ((repeat rw [Int.toNat_natCast]) <;> first | omega | (show _ ∧ _; omega)) | (simp only [ByteArray.size_append, bsz, List.size_toArray, List.length_cons, List.length_nil]; omega) | (simp only [Int.toNat_natCast]; first | omega | (show _ ∧ _; omega)) | decide, ?_⟩; conv => whnf))
              refine loopA ?_
              refine preA tbl_ok false 15 rfl rfl rfl (by kernel_rfl) rfl (andL_mem (by repeat' (first | exact trivial | refine ⟨?_, ?_⟩ | (show _ ∧ _; omega) | omega))) ?_
              refine splitA [16] (by kernel_rfl) ⟨?_, trivial⟩
              refine go tbl_ok false ?_
              conv => whnf
              refine storeW (j := r2.2.2) tbl_ok rfl rfl rfl rfl rfl rfl rfl rfl _ (upd_hole (j := r2.2.2.toNat) (xs := r.2.2.nodes) (e := GNode.c) (x := ⟨(r.2.2.nodes.getD r2.2.2.toNat default).kind, (r.2.2.nodes.getD r2.2.2.toNat default).a, (r.2.2.nodes.getD r2.2.2.toNat default).b, (r.2.2.nodes.getD r2.2.2.toNat default).outs ++ [r4.2.2 - 1]⟩) (by omega) rfl) (go tbl_ok false ?_)
              conv => whnf
              refine loopA ?_
              refine doneA (by kernel_rfl) (go tbl_ok false ?_)
              conv => whnf
            rotate_left 1
            focus
              refine go tbl_ok false ?_
              conv => whnf
              refine loopA ?_
              refine splitA [8] (by kernel_rfl) ⟨?_, trivial⟩
              refine go tbl_ok false ?_
              conv => whnf
              refine focusW tbl_ok rfl rfl rfl rfl rfl rfl (c := sInt (r.2.2.nodes.getD r2.2.2.toNat default).outs) rfl (fun v => go tbl_ok false ?_)
              conv => whnf
              refine loopA ?_
              refine splitA [13] (by kernel_rfl) ⟨?_, trivial⟩
              refine go tbl_ok false ?_
              conv => whnf
              refine appW tbl_ok rfl rfl rfl rfl rfl rfl rfl rfl rfl rfl rfl (sInt ((r.2.2.nodes.getD r2.2.2.toNat default).outs ++ [r4.2.2 - 1])) (slC_snoc rfl) (by intro h; cases h) (by omega) (go tbl_ok false ?_)
              conv => whnf
              refine loopA ?_
              refine splitA [14] (by kernel_rfl) ⟨?_, trivial⟩
              refine go tbl_ok false ?_
              conv => whnf
              (repeat (refine ⟨by first | omega | (show _ ∧ _; omega) | ((repeat (first | rw [ByteArray.size_append] | rw [bsz] | rw [List.size_toArray] | rw [List.length_cons] | rw [List.length_nil])) <;> omega) | ((repeat rw [Int.toNat_natCast]) <;> first | omega | (show _ ∧ _; omega)) | (simp only [ByteArray.size_append, bsz, List.size_toArray, List.length_cons, List.length_nil]; omega) | (simp only [Int.toNat_natCast]; first | omega | (show _ ∧ _; omega)) | decide, ?_⟩; conv => whnf))
              refine loopA ?_
              refine preA tbl_ok false 15 rfl rfl rfl (by kernel_rfl) rfl (andL_mem (by repeat' (first | exact trivial | refine ⟨?_, ?_⟩ | (show _ ∧ _; omega) | omega))) ?_
              refine splitA [16] (by kernel_rfl) ⟨?_, trivial⟩
              refine go tbl_ok false ?_
              conv => whnf
              refine storeW (j := r2.2.2) tbl_ok rfl rfl rfl rfl rfl rfl rfl rfl _ (upd_hole (j := r2.2.2.toNat) (xs := r.2.2.nodes) (e := GNode.c) (x := ⟨(r.2.2.nodes.getD r2.2.2.toNat default).kind, (r.2.2.nodes.getD r2.2.2.toNat default).a, (r.2.2.nodes.getD r2.2.2.toNat default).b, (r.2.2.nodes.getD r2.2.2.toNat default).outs ++ [r4.2.2 - 1]⟩) (by omega) rfl) (go tbl_ok false ?_)
              conv => whnf
              refine loopA ?_
              refine doneA (by kernel_rfl) (go tbl_ok false ?_)
              conv => whnf
        rotate_left 3
        focus
          refine go tbl_ok false ?_
          conv => whnf
          refine callP (curBelow d r3.1 r3.2.1 9 hr3.1 (by decide)) hH hp rfl (by repeat' (first | exact trivial | exact outC_val _ _ | exact rfl | exact .inr ⟨rfl, rfl, _, _, rfl⟩ | refine ⟨?_, ?_⟩)) rfl rfl (fun r4 hr4 => go tbl_ok false ?_)
          conv => whnf
          refine loopA ?_
          refine preA tbl_ok false 11 rfl rfl rfl (by kernel_rfl) rfl (andL_mem (by repeat' (first | exact trivial | refine ⟨?_, ?_⟩ | (show _ ∧ _; omega) | omega))) ?_
          refine splitA [6, 12] (by kernel_rfl) ⟨?_, ?_, trivial⟩
          focus
            refine go tbl_ok false ?_
            conv => whnf
            (repeat (refine ⟨by first | omega | (show _ ∧ _; omega) | ((repeat (first | rw [ByteArray.size_append] | rw [bsz] | rw [List.size_toArray] | rw [List.length_cons] | rw [List.length_nil])) <;> omega) | ((repeat rw [Int.toNat_natCast]) <;> first | omega | (show _ ∧ _; omega)) | (simp only [ByteArray.size_append, bsz, List.size_toArray, List.length_cons, List.length_nil]; omega) | (simp only [Int.toNat_natCast]; first | omega | (show _ ∧ _; omega)) | decide, ?_⟩; conv => whnf))
            refine loopA ?_
            refine preA tbl_ok false 7 rfl rfl rfl (by kernel_rfl) rfl (andL_mem (by repeat' (first | exact trivial | refine ⟨?_, ?_⟩ | (show _ ∧ _; omega) | omega))) ?_
            refine splitA [8, 12] (by kernel_rfl) ⟨?_, ?_, trivial⟩
            focus
              refine go tbl_ok false ?_
              conv => whnf
              refine focusW tbl_ok rfl rfl rfl rfl rfl rfl (c := sInt (r.2.2.nodes.getD r2.2.2.toNat default).outs) rfl (fun v => go tbl_ok false ?_)
              conv => whnf
              refine loopA ?_
              refine splitA [12] (by kernel_rfl) ⟨?_, trivial⟩
              refine go tbl_ok false ?_
              conv => whnf
              refine loopA ?_
              refine splitA [13] (by kernel_rfl) ⟨?_, trivial⟩
              refine go tbl_ok false ?_
              conv => whnf
              refine appW tbl_ok rfl rfl rfl rfl rfl rfl rfl rfl rfl rfl rfl (sInt ((r.2.2.nodes.getD r2.2.2.toNat default).outs ++ [r4.2.2 - 1])) (slC_snoc rfl) (by intro h; cases h) (by omega) (go tbl_ok false ?_)
              conv => whnf
              refine loopA ?_
              refine splitA [14] (by kernel_rfl) ⟨?_, trivial⟩
              refine go tbl_ok false ?_
              conv => whnf
              (repeat (refine ⟨by first | omega | (show _ ∧ _; omega) | ((repeat (first | rw [ByteArray.size_append] | rw [bsz] | rw [List.size_toArray] | rw [List.length_cons] | rw [List.length_nil])) <;> omega) | ((repeat rw [Int.toNat_natCast]) <;> first | omega | (show _ ∧ _; omega)) | (simp only [ByteArray.size_append, bsz, List.size_toArray, List.length_cons, List.length_nil]; omega) | (simp only [Int.toNat_natCast]; first | omega | (show _ ∧ _; omega)) | decide, ?_⟩; conv => whnf))
              refine loopA ?_
              refine preA tbl_ok false 15 rfl rfl rfl (by kernel_rfl) rfl (andL_mem (by repeat' (first | exact trivial | refine ⟨?_, ?_⟩ | (show _ ∧ _; omega) | omega))) ?_
              refine splitA [16] (by kernel_rfl) ⟨?_, trivial⟩
              refine go tbl_ok false ?_
              conv => whnf
              refine storeW (j := r2.2.2) tbl_ok rfl rfl rfl rfl rfl rfl rfl rfl _ (upd_hole (j := r2.2.2.toNat) (xs := r.2.2.nodes) (e := GNode.c) (x := ⟨(r.2.2.nodes.getD r2.2.2.toNat default).kind, (r.2.2.nodes.getD r2.2.2.toNat default).a, (r.2.2.nodes.getD r2.2.2.toNat default).b, (r.2.2.nodes.getD r2.2.2.toNat default).outs ++ [r4.2.2 - 1]⟩) (by omega) rfl) (go tbl_ok false ?_)
              conv => whnf
              refine loopA ?_
              refine doneA (by kernel_rfl) (go tbl_ok false ?_)
              conv => whnf
            rotate_left 1
            focus
              refine go tbl_ok false ?_
              conv => whnf
              refine loopA ?_
              refine splitA [8] (by kernel_rfl) ⟨?_, trivial⟩
              refine go tbl_ok false ?_
              conv => whnf
              refine focusW tbl_ok rfl rfl rfl rfl rfl rfl (c := sInt (r.2.2.nodes.getD r2.2.2.toNat default).outs) rfl (fun v => go tbl_ok false ?_)
              conv => whnf
              refine loopA ?_
              refine splitA [13] (by kernel_rfl) ⟨?_, trivial⟩
              refine go tbl_ok false ?_
              conv => whnf
              refine appW tbl_ok rfl rfl rfl rfl rfl rfl rfl rfl rfl rfl rfl (sInt ((r.2.2.nodes.getD r2.2.2.toNat default).outs ++ [r4.2.2 - 1])) (slC_snoc rfl) (by intro h; cases h) (by omega) (go tbl_ok false ?_)
              conv => whnf
              refine loopA ?_
              refine splitA [14] (by kernel_rfl) ⟨?_, trivial⟩
              refine go tbl_ok false ?_
              conv => whnf
              (repeat (refine ⟨by first | omega | (show _ ∧ _; omega) | ((repeat (first | rw [ByteArray.size_append] | rw [bsz] | rw [List.size_toArray] | rw [List.length_cons] | rw [List.length_nil])) <;> omega) | ((repeat rw [Int.toNat_natCast]) <;> first | omega | (show _ ∧ _; omega)) | (simp only [ByteArray.size_append, bsz, List.size_toArray, List.length_cons, List.length_nil]; omega) | (simp only [Int.toNat_natCast]; first | omega | (show _ ∧ _; omega)) | decide, ?_⟩; conv => whnf))
              refine loopA ?_
              refine preA tbl_ok false 15 rfl rfl rfl (by kernel_rfl) rfl (andL_mem (by repeat' (first | exact trivial | refine ⟨?_, ?_⟩ | (show _ ∧ _; omega) | omega))) ?_
              refine splitA [16] (by kernel_rfl) ⟨?_, trivial⟩
              refine go tbl_ok false ?_
              conv => whnf
              refine storeW (j := r2.2.2) tbl_ok rfl rfl rfl rfl rfl rfl rfl rfl _ (upd_hole (j := r2.2.2.toNat) (xs := r.2.2.nodes) (e := GNode.c) (x := ⟨(r.2.2.nodes.getD r2.2.2.toNat default).kind, (r.2.2.nodes.getD r2.2.2.toNat default).a, (r.2.2.nodes.getD r2.2.2.toNat default).b, (r.2.2.nodes.getD r2.2.2.toNat default).outs ++ [r4.2.2 - 1]⟩) (by omega) rfl) (go tbl_ok false ?_)
              conv => whnf
              refine loopA ?_
              refine doneA (by kernel_rfl) (go tbl_ok false ?_)
              conv => whnf
          rotate_left 2
          focus
            refine go tbl_ok false ?_
            conv => whnf
            refine loopA ?_
            refine splitA [6] (by kernel_rfl) ⟨?_, trivial⟩
            refine go tbl_ok false ?_
            conv => whnf
            (repeat (refine ⟨by first | omega | (show _ ∧ _; omega) | ((repeat (first | rw [ByteArray.size_append] | rw [bsz] | rw [List.size_toArray] | rw [List.length_cons] | rw [List.length_nil])) <;> omega) | ((repeat rw [Int.toNat_natCast]) <;> first | omega | (show _ ∧ _; omega)) | (simp only [ByteArray.size_append, bsz, List.size_toArray, List.length_cons, List.length_nil]; omega) | (simp only [Int.toNat_natCast]; first | omega | (show _ ∧ _; omega)) | decide, ?_⟩; conv => whnf))
            refine loopA ?_
            refine preA tbl_ok false 7 rfl rfl rfl (by kernel_rfl) rfl (andL_mem (by repeat' (first | exact trivial | refine ⟨?_, ?_⟩ | (show _ ∧ _; omega) | omega))) ?_
            refine splitA [8] (by kernel_rfl) ⟨?_, trivial⟩
            refine go tbl_ok false ?_
            conv => whnf
            refine focusW tbl_ok rfl rfl rfl rfl rfl rfl (c := sInt (r.2.2.nodes.getD r2.2.2.toNat default).outs) rfl (fun v => go tbl_ok false ?_)
            conv => whnf
            refine loopA ?_
            refine splitA [13] (by kernel_rfl) ⟨?_, trivial⟩
            refine go tbl_ok false ?_
            conv => whnf
            refine appW tbl_ok rfl rfl rfl rfl rfl rfl rfl rfl rfl rfl rfl (sInt ((r.2.2.nodes.getD r2.2.2.toNat default).outs ++ [r4.2.2 - 1])) (slC_snoc rfl) (by intro h; cases h) (by omega) (go tbl_ok false ?_)
            conv => whnf
            refine loopA ?_
            refine splitA [14] (by kernel_rfl) ⟨?_, trivial⟩
            refine go tbl_ok false ?_
            conv => whnf
            (repeat (refine ⟨by first | omega | (show _ ∧ _; omega) | ((repeat (first | rw [ByteArray.size_append] | rw [bsz] | rw [List.size_toArray] | rw [List.length_cons] | rw [List.length_nil])) <;> omega) | ((repeat rw [Int.toNat_natCast]) <;> first | omega | (show _ ∧ _; omega)) | (simp only [ByteArray.size_append, bsz, List.size_toArray, List.length_cons, List.length_nil]; omega) | (simp only [Int.toNat_natCast]; first | omega | (show _ ∧ _; omega)) | decide, ?_⟩; conv => whnf))
            refine loopA ?_
            refine preA tbl_ok false 15 rfl rfl rfl (by kernel_rfl) rfl (andL_mem (by repeat' (first | exact trivial | refine ⟨?_, ?_⟩ | (show _ ∧ _; omega) | omega))) ?_
            refine splitA [16] (by kernel_rfl) ⟨?_, trivial⟩
            refine go tbl_ok false ?_
            conv => whnf
            refine storeW (j := r2.2.2) tbl_ok rfl rfl rfl rfl rfl rfl rfl rfl _ (upd_hole (j := r2.2.2.toNat) (xs := r.2.2.nodes) (e := GNode.c) (x := ⟨(r.2.2.nodes.getD r2.2.2.toNat default).kind, (r.2.2.nodes.getD r2.2.2.toNat default).a, (r.2.2.nodes.getD r2.2.2.toNat default).b, (r.2.2.nodes.getD r2.2.2.toNat default).outs ++ [r4.2.2 - 1]⟩) (by omega) rfl) (go tbl_ok false ?_)
            conv => whnf
            refine loopA ?_
            refine doneA (by kernel_rfl) (go tbl_ok false ?_)
            conv => whnf
      rotate_left 6
      focus
        refine go tbl_ok false ?_
        conv => whnf
        refine callP (curBelow d r3.1 r3.2.1 9 hr3.1 (by decide)) hH hp rfl (by repeat' (first | exact trivial | exact outC_val _ _ | exact rfl | exact .inr ⟨rfl, rfl, _, _, rfl⟩ | refine ⟨?_, ?_⟩)) rfl rfl (fun r4 hr4 => go tbl_ok false ?_)
        conv => whnf
        refine loopA ?_
        refine preA tbl_ok false 11 rfl rfl rfl (by kernel_rfl) rfl (andL_mem (by repeat' (first | exact trivial | refine ⟨?_, ?_⟩ | (show _ ∧ _; omega) | omega))) ?_
        refine splitA [4, 12] (by kernel_rfl) ⟨?_, ?_, trivial⟩
        focus
          refine go tbl_ok false ?_
          conv => whnf
          refine loopA ?_
          refine splitA [6, 12] (by kernel_rfl) ⟨?_, ?_, trivial⟩
          focus
            refine go tbl_ok false ?_
            conv => whnf
            (repeat (refine ⟨by first | omega | (show _ ∧ _; omega) | ((repeat (first | rw [ByteArray.size_append] | rw [bsz] | rw [List.size_toArray] | rw [List.length_cons] | rw [List.length_nil])) <;> omega) | ((repeat rw [Int.toNat_natCast]) <;> first | omega | (show _ ∧ _; omega)) | (simp only [ByteArray.size_append, bsz, List.size_toArray, List.length_cons, List.length_nil]; omega) | (simp only [Int.toNat_natCast]; first | omega | (show _ ∧ _; omega)) | decide, ?_⟩; conv => whnf))
            refine loopA ?_
            refine preA tbl_ok false 7 rfl rfl rfl (by kernel_rfl) rfl (andL_mem (by repeat' (first | exact trivial | refine ⟨?_, ?_⟩ | (show _ ∧ _; omega) | omega))) ?_
            refine splitA [8, 12] (by kernel_rfl) ⟨?_, ?_, trivial⟩
            focus
              refine go tbl_ok false ?_
              conv => whnf
              refine focusW tbl_ok rfl rfl rfl rfl rfl rfl (c := sInt (r.2.2.nodes.getD r2.2.2.toNat default).outs) rfl (fun v => go tbl_ok false ?_)
              conv => whnf
              refine loopA ?_
              refine splitA [12] (by kernel_rfl) ⟨?_, trivial⟩
              refine go tbl_ok false ?_
              conv => whnf
              refine loopA ?_
              refine splitA [13] (by kernel_rfl) ⟨?_, trivial⟩
              refine go tbl_ok false ?_
              conv => whnf
              refine appW tbl_ok rfl rfl rfl rfl rfl rfl rfl rfl rfl rfl rfl (sInt ((r.2.2.nodes.getD r2.2.2.toNat default).outs ++ [r4.2.2 - 1])) (slC_snoc rfl) (by intro h; cases h) (by omega) (go tbl_ok false ?_)
              conv => whnf
              refine loopA ?_
              refine splitA [14] (by kernel_rfl) ⟨?_, trivial⟩
              refine go tbl_ok false ?_
              conv => whnf
              (repeat (refine ⟨by first | omega | (show _ ∧ _; omega) | ((repeat (first | rw [ByteArray.size_append] | rw [bsz] | rw [List.size_toArray] | rw [List.length_cons] | rw [List.length_nil])) <;> omega) | ((repeat rw [Int.toNat_natCast]) <;> first | omega | (show _ ∧ _; omega)) | (simp only [ByteArray.size_append, bsz, List.size_toArray, List.length_cons, List.length_nil]; omega) | (simp only [Int.toNat_natCast]; first | omega | (show _ ∧ _; omega)) | decide, ?_⟩; conv => whnf))
              refine loopA ?_
              refine preA tbl_ok false 15 rfl rfl rfl (by kernel_rfl) rfl (andL_mem (by repeat' (first | exact trivial | refine ⟨?_, ?_⟩ | (show _ ∧ _; omega) | omega))) ?_
              refine splitA [16] (by kernel_rfl) ⟨?_, trivial⟩
              refine go tbl_ok false ?_
              conv => whnf
              refine storeW (j := r2.2.2) tbl_ok rfl rfl rfl rfl rfl rfl rfl rfl _ (upd_hole (j := r2.2.2.toNat) (xs := r.2.2.nodes) (e := GNode.c) (x := ⟨(r.2.2.nodes.getD r2.2.2.toNat default).kind, (r.2.2.nodes.getD r2.2.2.toNat default).a, (r.2.2.nodes.getD r2.2.2.toNat default).b, (r.2.2.nodes.getD r2.2.2.toNat default).outs ++ [r4.2.2 - 1]⟩) (by omega) rfl) (go tbl_ok false ?_)
              conv => whnf
              refine loopA ?_
              refine doneA (by kernel_rfl) (go tbl_ok false ?_)
              conv => whnf
            rotate_left 1
            focus
              refine go tbl_ok false ?_
              conv => whnf
              refine loopA ?_
              refine splitA [8] (by kernel_rfl) ⟨?_, trivial⟩
              refine go tbl_ok false ?_
              conv => whnf
              refine focusW tbl_ok rfl rfl rfl rfl rfl rfl (c := sInt (r.2.2.nodes.getD r2.2.2.toNat default).outs) rfl (fun v => go tbl_ok false ?_)
              conv => whnf
              refine loopA ?_
              refine splitA [13] (by kernel_rfl) ⟨?_, trivial⟩
              refine go tbl_ok false ?_
              conv => whnf
              refine appW tbl_ok rfl rfl rfl rfl rfl rfl rfl rfl rfl rfl rfl (sInt ((r.2.2.nodes.getD r2.2.2.toNat default).outs ++ [r4.2.2 - 1])) (slC_snoc rfl) (by intro h; cases h) (by omega) (go tbl_ok false ?_)
              conv => whnf
              refine loopA ?_
              refine splitA [14] (by kernel_rfl) ⟨?_, trivial⟩
              refine go tbl_ok false ?_
              conv => whnf
              (repeat (refine ⟨by first | omega | (show _ ∧ _; omega) | ((repeat (first | rw [ByteArray.size_append] | rw [bsz] | rw [List.size_toArray] | rw [List.length_cons] | rw [List.length_nil])) <;> omega) | ((repeat rw [Int.toNat_natCast]) <;> first | omega | (show _ ∧ _; omega)) | (simp only [ByteArray.size_append, bsz, List.size_toArray, List.length_cons, List.length_nil]; omega) | (simp only [Int.toNat_natCast]; first | omega | (show _ ∧ _; omega)) | decide, ?_⟩; conv => whnf))
              refine loopA ?_
              refine preA tbl_ok false 15 rfl rfl rfl (by kernel_rfl) rfl (andL_mem (by repeat' (first | exact trivial | refine ⟨?_, ?_⟩ | (show _ ∧ _; omega) | omega))) ?_
              refine splitA [16] (by kernel_rfl) ⟨?_, trivial⟩
              refine go tbl_ok false ?_
              conv => whnf
              refine storeW (j := r2.2.2) tbl_ok rfl rfl rfl rfl rfl rfl rfl rfl _ (upd_hole (j := r2.2.2.toNat) (xs := r.2.2.nodes) (e := GNode.c) (x := ⟨(r.2.2.nodes.getD r2.2.2.toNat default).kind, (r.2.2.nodes.getD r2.2.2.toNat default).a, (r.2.2.nodes.getD r2.2.2.toNat default).b, (r.2.2.nodes.getD r2.2.2.toNat default).outs ++ [r4.2.2 - 1]⟩) (by omega) rfl) (go tbl_ok false ?_)
              conv => whnf
              refine loopA ?_
              refine doneA (by kernel_rfl) (go tbl_ok false ?_)
              conv => whnf
          rotate_left 2
          focus
            refine go tbl_ok false ?_
            conv => whnf
            refine loopA ?_
            refine splitA [6] (by kernel_rfl) ⟨?_, trivial⟩
            refine go tbl_ok false ?_
            conv => whnf
            (repeat (refine ⟨by first | omega | (show _ ∧ _; omega) | ((repeat (first | rw [ByteArray.size_append] | rw [bsz] | rw [List.size_toArray] | rw [List.length_cons] | rw [List.length_nil])) <;> omega) | ((repeat rw [Int.toNat_natCast]) <;> first | omega | (show _ ∧ _; omega)) | (simp only [ByteArray.size_append, bsz, List.size_toArray, List.length_cons, List.length_nil]; omega) | (simp only [Int.toNat_natCast]; first | omega | (show _ ∧ _; omega)) | decide, ?_⟩; conv => whnf))
            refine loopA ?_
            refine preA tbl_ok false 7 rfl rfl rfl (by kernel_rfl) rfl (andL_mem (by repeat' (first | exact trivial | refine ⟨?_, ?_⟩ | (show _ ∧ _; omega) | omega))) ?_
            refine splitA [8] (by kernel_rfl) ⟨?_, trivial⟩
            refine go tbl_ok false ?_
            conv => whnf
            refine focusW tbl_ok rfl rfl rfl rfl rfl rfl (c := sInt (r.2.2.nodes.getD r2.2.2.toNat default).outs) rfl (fun v => go tbl_ok false ?_)
            conv => whnf
            refine loopA ?_
            refine splitA [13] (by kernel_rfl) ⟨?_, trivial⟩
            refine go tbl_ok false ?_
            conv => whnf
            refine appW tbl_ok rfl rfl rfl rfl rfl rfl rfl rfl rfl rfl rfl (sInt ((r.2.2.nodes.getD r2.2.2.toNat default).outs ++ [r4.2.2 - 1])) (slC_snoc rfl) (by intro h; cases h) (by omega) (go tbl_ok false ?_)
            conv => whnf
            refine loopA ?_
            refine splitA [14] (by kernel_rfl) ⟨?_, trivial⟩
            refine go tbl_ok false ?_
            conv => whnf
            (repeat (refine ⟨by first | omega | (show _ ∧ _; omega) | ((repeat (first | rw [ByteArray.size_append] | rw [bsz] | rw [List.size_toArray] | rw [List.length_cons] | rw [List.length_nil])) <;> omega) | ((repeat rw [Int.toNat_natCast]) <;> first | omega | (show _ ∧ _; omega)) | (simp only [ByteArray.size_append, bsz, List.size_toArray, List.length_cons, List.length_nil]; omega) | (simp only [Int.toNat_natCast]; first | omega | (show _ ∧ _; omega)) | decide, ?_⟩; conv => whnf))
            refine loopA ?_
            refine preA tbl_ok false 15 rfl rfl rfl (by kernel_rfl) rfl (andL_mem (by repeat' (first | exact trivial | refine ⟨?_, ?_⟩ | (show _ ∧ _; omega) | omega))) ?_
            refine splitA [16] (by kernel_rfl) ⟨?_, trivial⟩
            refine go tbl_ok false ?_
            conv => whnf
            refine storeW (j := r2.2.2) tbl_ok rfl rfl rfl rfl rfl rfl rfl rfl _ (upd_hole (j := r2.2.2.toNat) (xs := r.2.2.nodes) (e := GNode.c) (x := ⟨(r.2.2.nodes.getD r2.2.2.toNat default).kind, (r.2.2.nodes.getD r2.2.2.toNat default).a, (r.2.2.nodes.getD r2.2.2.toNat default).b, (r.2.2.nodes.getD r2.2.2.toNat default).outs ++ [r4.2.2 - 1]⟩) (by omega) rfl) (go tbl_ok false ?_)
            conv => whnf
            refine loopA ?_
            refine doneA (by kernel_rfl) (go tbl_ok false ?_)
            conv => whnf
        rotate_left 3
        focus
          refine go tbl_ok false ?_
          conv => whnf
          refine loopA ?_
          refine splitA [4] (by kernel_rfl) ⟨?_, trivial⟩
          refine go tbl_ok false ?_
          conv => whnf
          refine loopA ?_
          refine splitA [6] (by kernel_rfl) ⟨?_, trivial⟩
          refine go tbl_ok false ?_
          conv => whnf
          (repeat (refine ⟨by first | omega | (show _ ∧ _; omega) | ((repeat (first | rw [ByteArray.size_append] | rw [bsz] | rw [List.size_toArray] | rw [List.length_cons] | rw [List.length_nil])) <;> omega) | ((repeat rw [Int.toNat_natCast]) <;> first | omega | (show _ ∧ _; omega)) | (simp only [ByteArray.size_append, bsz, List.size_toArray, List.length_cons, List.length_nil]; omega) | (simp only [Int.toNat_natCast]; first | omega | (show _ ∧ _; omega)) | decide, ?_⟩; conv => whnf))
          refine loopA ?_
          refine preA tbl_ok false 7 rfl rfl rfl (by kernel_rfl) rfl (andL_mem (by repeat' (first | exact trivial | refine ⟨?_, ?_⟩ | (show _ ∧ _; omega) | omega))) ?_
          refine splitA [8] (by kernel_rfl) ⟨?_, trivial⟩
          refine go tbl_ok false ?_
          conv => whnf
          refine focusW tbl_ok rfl rfl rfl rfl rfl rfl (c := sInt (r.2.2.nodes.getD r2.2.2.toNat default).outs) rfl (fun v => go tbl_ok false ?_)
          conv => whnf
          refine loopA ?_
          refine splitA [13] (by kernel_rfl) ⟨?_, trivial⟩
          refine go tbl_ok false ?_
          conv => whnf
          refine appW tbl_ok rfl rfl rfl rfl rfl rfl rfl rfl rfl rfl rfl (sInt ((r.2.2.nodes.getD r2.2.2.toNat default).outs ++ [r4.2.2 - 1])) (slC_snoc rfl) (by intro h; cases h) (by omega) (go tbl_ok false ?_)
          conv => whnf
          refine loopA ?_
          refine splitA [14] (by kernel_rfl) ⟨?_, trivial⟩
          refine go tbl_ok false ?_
          conv => whnf
          (repeat (refine ⟨by first | omega | (show _ ∧ _; omega) | ((repeat (first | rw [ByteArray.size_append] | rw [bsz] | rw [List.size_toArray] | rw [List.length_cons] | rw [List.length_nil])) <;> omega) | ((repeat rw [Int.toNat_natCast]) <;> first | omega | (show _ ∧ _; omega)) | (simp only [ByteArray.size_append, bsz, List.size_toArray, List.length_cons, List.length_nil]; omega) | (simp only [Int.toNat_natCast]; first | omega | (show _ ∧ _; omega)) | decide, ?_⟩; conv => whnf))
          refine loopA ?_
          refine preA tbl_ok false 15 rfl rfl rfl (by kernel_rfl) rfl (andL_mem (by repeat' (first | exact trivial | refine ⟨?_, ?_⟩ | (show _ ∧ _; omega) | omega))) ?_
          refine splitA [16] (by kernel_rfl) ⟨?_, trivial⟩
          refine go tbl_ok false ?_
          conv => whnf
          refine storeW (j := r2.2.2) tbl_ok rfl rfl rfl rfl rfl rfl rfl rfl _ (upd_hole (j := r2.2.2.toNat) (xs := r.2.2.nodes) (e := GNode.c) (x := ⟨(r.2.2.nodes.getD r2.2.2.toNat default).kind, (r.2.2.nodes.getD r2.2.2.toNat default).a, (r.2.2.nodes.getD r2.2.2.toNat default).b, (r.2.2.nodes.getD r2.2.2.toNat default).outs ++ [r4.2.2 - 1]⟩) (by omega) rfl) (go tbl_ok false ?_)
          conv => whnf
          refine loopA ?_
          refine doneA (by kernel_rfl) (go tbl_ok false ?_)
          conv => whnf
    rotate_left 10
    focus
      refine go tbl_ok false ?_
      conv => whnf
      refine loopA ?_
      refine splitA [1, 6, 10] (by kernel_rfl) ⟨?_, ?_, ?_, trivial⟩
      focus
        refine go tbl_ok false ?_
        conv => whnf
        refine loopA ?_
        refine splitA [6, 10] (by kernel_rfl) ⟨?_, ?_, trivial⟩
        focus
          refine go tbl_ok false ?_
          conv => whnf
          (repeat (refine ⟨by first | omega | (show _ ∧ _; omega) | ((repeat (first | rw [ByteArray.size_append] | rw [bsz] | rw [List.size_toArray] | rw [List.length_cons] | rw [List.length_nil])) <;> omega) | ((repeat rw [Int.toNat_natCast]) <;> first | omega | (show _ ∧ _; omega)) | (simp only [ByteArray.size_append, bsz, List.size_toArray, List.length_cons, List.length_nil]; omega) | (simp only [Int.toNat_natCast]; first | omega | (show _ ∧ _; omega)) | decide, ?_⟩; conv => whnf))
          refine loopA ?_
          refine preA tbl_ok false 7 rfl rfl rfl (by kernel_rfl) rfl (andL_mem (by repeat' (first | exact trivial | refine ⟨?_, ?_⟩ | (show _ ∧ _; omega) | omega))) ?_
          refine splitA [8, 10] (by kernel_rfl) ⟨?_, ?_, trivial⟩
          focus
            refine go tbl_ok false ?_
            conv => whnf
            refine focusW tbl_ok rfl rfl rfl rfl rfl rfl (c := sInt (r.2.2.nodes.getD r2.2.2.toNat default).outs) rfl (fun v => go tbl_ok false ?_)
            conv => whnf
            refine loopA ?_
            refine splitA [10] (by kernel_rfl) ⟨?_, trivial⟩
            refine go tbl_ok false ?_
            conv => whnf
            refine callP (curBelow d r3.1 r3.2.1 9 hr3.1 (by decide)) hH hp rfl (by repeat' (first | exact trivial | exact outC_val _ _ | exact rfl | exact .inr ⟨rfl, rfl, _, _, rfl⟩ | refine ⟨?_, ?_⟩)) rfl rfl (fun r4 hr4 => go tbl_ok false ?_)
            conv => whnf
            refine loopA ?_
            refine preA tbl_ok false 11 rfl rfl rfl (by kernel_rfl) rfl (andL_mem (by repeat' (first | exact trivial | refine ⟨?_, ?_⟩ | (show _ ∧ _; omega) | omega))) ?_
            refine splitA [12] (by kernel_rfl) ⟨?_, trivial⟩
            refine go tbl_ok false ?_
            conv => whnf
            refine loopA ?_
            refine splitA [13] (by kernel_rfl) ⟨?_, trivial⟩
            refine go tbl_ok false ?_
            conv => whnf
            refine appW tbl_ok rfl rfl rfl rfl rfl rfl rfl rfl rfl rfl rfl (sInt ((r.2.2.nodes.getD r2.2.2.toNat default).outs ++ [r4.2.2 - 1])) (slC_snoc rfl) (by intro h; cases h) (by omega) (go tbl_ok false ?_)
            conv => whnf
            refine loopA ?_
            refine splitA [14] (by kernel_rfl) ⟨?_, trivial⟩
            refine go tbl_ok false ?_
            conv => whnf
            (repeat (refine ⟨by first | omega | (show _ ∧ _; omega) | ((repeat (first | rw [ByteArray.size_append] | rw [bsz] | rw [List.size_toArray] | rw [List.length_cons] | rw [List.length_nil])) <;> omega) | ((repeat rw [Int.toNat_natCast]) <;> first | omega | (show _ ∧ _; omega)) | (simp only [ByteArray.size_append, bsz, List.size_toArray, List.length_cons, List.length_nil]; omega) | (simp only [Int.toNat_natCast]; first | omega | (show _ ∧ _; omega)) | decide, ?_⟩; conv => whnf))
            refine loopA ?_
            refine preA tbl_ok false 15 rfl rfl rfl (by kernel_rfl) rfl (andL_mem (by repeat' (first | exact trivial | refine ⟨?_, ?_⟩ | (show _ ∧ _; omega) | omega))) ?_
            refine splitA [16] (by kernel_rfl) ⟨?_, trivial⟩
            refine go tbl_ok false ?_
            conv => whnf
            refine storeW (j := r2.2.2) tbl_ok rfl rfl rfl rfl rfl rfl rfl rfl _ (upd_hole (j := r2.2.2.toNat) (xs := r.2.2.nodes) (e := GNode.c) (x := ⟨(r.2.2.nodes.getD r2.2.2.toNat default).kind, (r.2.2.nodes.getD r2.2.2.toNat default).a, (r.2.2.nodes.getD r2.2.2.toNat default).b, (r.2.2.nodes.getD r2.2.2.toNat default).outs ++ [r4.2.2 - 1]⟩) (by omega) rfl) (go tbl_ok false ?_)
            conv => whnf
            refine loopA ?_
            refine doneA (by kernel_rfl) (go tbl_ok false ?_)
            conv => whnf
          rotate_left 1
          focus
            refine go tbl_ok false ?_
            conv => whnf
            refine callP (curBelow d r3.1 r3.2.1 9 hr3.1 (by decide)) hH hp rfl (by repeat' (first | exact trivial | exact outC_val _ _ | exact rfl | exact .inr ⟨rfl, rfl, _, _, rfl⟩ | refine ⟨?_, ?_⟩)) rfl rfl (fun r4 hr4 => go tbl_ok false ?_)
            conv => whnf
            refine loopA ?_
            refine preA tbl_ok false 11 rfl rfl rfl (by kernel_rfl) rfl (andL_mem (by repeat' (first | exact trivial | refine ⟨?_, ?_⟩ | (show _ ∧ _; omega) | omega))) ?_
            refine splitA [8, 12] (by kernel_rfl) ⟨?_, ?_, trivial⟩
            focus
              refine go tbl_ok false ?_
              conv => whnf
              refine focusW tbl_ok rfl rfl rfl rfl rfl rfl (c := sInt (r.2.2.nodes.getD r2.2.2.toNat default).outs) rfl (fun v => go tbl_ok false ?_)
              conv => whnf
              refine loopA ?_
              refine splitA [12] (by kernel_rfl) ⟨?_, trivial⟩
              refine go tbl_ok false ?_
              conv => whnf
              refine loopA ?_
              refine splitA [13] (by kernel_rfl) ⟨?_, trivial⟩
              refine go tbl_ok false ?_
              conv => whnf
              refine appW tbl_ok rfl rfl rfl rfl rfl rfl rfl rfl rfl rfl rfl (sInt ((r.2.2.nodes.getD r2.2.2.toNat default).outs ++ [r4.2.2 - 1])) (slC_snoc rfl) (by intro h; cases h) (by omega) (go tbl_ok false ?_)
              conv => whnf
              refine loopA ?_
              refine splitA [14] (by kernel_rfl) ⟨?_, trivial⟩
              refine go tbl_ok false ?_
              conv => whnf
              (repeat (refine ⟨by first | omega | (show _ ∧ _; omega) | ((repeat (first | rw [ByteArray.size_append] | rw [bsz] | rw [List.size_toArray] | rw [List.length_cons] | rw [List.length_nil])) <;> omega) | ((repeat rw [Int.toNat_natCast]) <;> first | omega | (show _ ∧ _; omega)) | (simp only [ByteArray.size_append, bsz, List.size_toArray, List.length_cons, List.length_nil]; omega) | (simp only [Int.toNat_natCast]; first | omega | (show _ ∧ _; omega)) | decide, ?_⟩; conv => whnf))
              refine loopA ?_
              refine preA tbl_ok false 15 rfl rfl rfl (by kernel_rfl) rfl (andL_mem (by repeat' (first | exact trivial | refine ⟨?_, ?_⟩ | (show _ ∧ _; omega) | omega))) ?_
              refine splitA [16] (by kernel_rfl) ⟨?_, trivial⟩
              refine go tbl_ok false ?_
              conv => whnf
              refine storeW (j := r2.2.2) tbl_ok rfl rfl rfl rfl rfl rfl rfl rfl _ (upd_hole (j := r2.2.2.toNat) (xs := r.2.2.nodes) (e := GNode.c) (x := ⟨(r.2.2.nodes.getD r2.2.2.toNat default).kind, (r.2.2.nodes.getD r2.2.2.toNat default).a, (r.2.2.nodes.getD r2.2.2.toNat default).b, (r.2.2.nodes.getD r2.2.2.toNat default).outs ++ [r4.2.2 - 1]⟩) (by omega) rfl) (go tbl_ok false ?_)
              conv => whnf
              refine loopA ?_
              refine doneA (by kernel_rfl) (go tbl_ok false ?_)
              conv => whnf
            rotate_left 1
            focus
              refine go tbl_ok false ?_
              conv => whnf
              refine loopA ?_
              refine splitA [8] (by kernel_rfl) ⟨?_, trivial⟩
              refine go tbl_ok false ?_
              conv => whnf
              refine focusW tbl_ok rfl rfl rfl rfl rfl rfl (c := sInt (r.2.2.nodes.getD r2.2.2.toNat default).outs) rfl (fun v => go tbl_ok false ?_)
              conv => whnf
              refine loopA ?_
              refine splitA [13] (by kernel_rfl) ⟨?_, trivial⟩
              refine go tbl_ok false ?_
              conv => whnf
              refine appW tbl_ok rfl rfl rfl rfl rfl rfl rfl rfl rfl rfl rfl (sInt ((r.2.2.nodes.getD r2.2.2.toNat default).outs ++ [r4.2.2 - 1])) (slC_snoc rfl) (by intro h; cases h) (by omega) (go tbl_ok false ?_)
              conv => whnf
              refine loopA ?_
              refine splitA [14] (by kernel_rfl) ⟨?_, trivial⟩
              refine go tbl_ok false ?_
              conv => whnf
              (repeat (refine ⟨by first | omega | (show _ ∧ _; omega) | ((repeat (first | rw [ByteArray.size_append] | rw [bsz] | rw [List.size_toArray] | rw [List.length_cons] | rw [List.length_nil])) <;> omega) | ((repeat rw [Int.toNat_natCast]) <;> first | omega | (show _ ∧ _; omega)) | (simp only [ByteArray.size_append, bsz, List.size_toArray, List.length_cons, List.length_nil]; omega) | (simp only [Int.toNat_natCast]; first | omega | (show _ ∧ _; omega)) | decide, ?_⟩; conv => whnf))
              refine loopA ?_
              refine preA tbl_ok false 15 rfl rfl rfl (by kernel_rfl) rfl (andL_mem (by repeat' (first | exact trivial | refine ⟨?_, ?_⟩ | (show _ ∧ _; omega) | omega))) ?_
              refine splitA [16] (by kernel_rfl) ⟨?_, trivial⟩
              refine go tbl_ok false ?_
              conv => whnf
              refine storeW (j := r2.2.2) tbl_ok rfl rfl rfl rfl rfl rfl rfl rfl _ (upd_hole (j := r2.2.2.toNat) (xs := r.2.2.nodes) (e := GNode.c) (x := ⟨(r.2.2.nodes.getD r2.2.2.toNat default).kind, (r.2.2.nodes.getD r2.2.2.toNat default).a, (r.2.2.nodes.getD r2.2.2.toNat default).b, (r.2.2.nodes.getD r2.2.2.toNat default).outs ++ [r4.2.2 - 1]⟩) (by omega) rfl) (go tbl_ok false ?_)
              conv => whnf
              refine loopA ?_
              refine doneA (by kernel_rfl) (go tbl_ok false ?_)
              conv => whnf
        rotate_left 3
        focus
          refine go tbl_ok false ?_
          conv => whnf
          refine callP (curBelow d r3.1 r3.2.1 9 hr3.1 (by decide)) hH hp rfl (by repeat' (first | exact trivial | exact outC_val _ _ | exact rfl | exact .inr ⟨rfl, rfl, _, _, rfl⟩ | refine ⟨?_, ?_⟩)) rfl rfl (fun r4 hr4 => go tbl_ok false ?_)
          conv => whnf
          refine loopA ?_
          refine preA tbl_ok false 11 rfl rfl rfl (by kernel_rfl) rfl (andL_mem (by repeat' (first | exact trivial | refine ⟨?_, ?_⟩ | (show _ ∧ _; omega) | omega))) ?_
          refine splitA [6, 12] (by kernel_rfl) ⟨?_, ?_, trivial⟩
          focus
            refine go tbl_ok false ?_
            conv => whnf
            (repeat (refine ⟨by first | omega | (show _ ∧ _; omega) | ((repeat (first | rw [ByteArray.size_append] | rw [bsz] | rw [List.size_toArray] | rw [List.length_cons] | rw [List.length_nil])) <;> omega) | ((repeat rw [Int.toNat_natCast]) <;> first | omega | (show _ ∧ _; omega)) | (simp only [ByteArray.size_append, bsz, List.size_toArray, List.length_cons, List.length_nil]; omega) | (simp only [Int.toNat_natCast]; first | omega | (show _ ∧ _; omega)) | decide, ?_⟩; conv => whnf))
            refine loopA ?_
            refine preA tbl_ok false 7 rfl rfl rfl (by kernel_rfl) rfl (andL_mem (by repeat' (first | exact trivial | refine ⟨?_, ?_⟩ | (show _ ∧ _; omega) | omega))) ?_
            refine splitA [8, 12] (by kernel_rfl) ⟨?_, ?_, trivial⟩
            focus
              refine go tbl_ok false ?_
              conv => whnf
              refine focusW tbl_ok rfl rfl rfl rfl rfl rfl (c := sInt (r.2.2.nodes.getD r2.2.2.toNat default).outs) rfl (fun v => go tbl_ok false ?_)
              conv => whnf
              refine loopA ?_
              refine splitA [12] (by kernel_rfl) ⟨?_, trivial⟩
              refine go tbl_ok false ?_
              conv => whnf
              refine loopA ?_
              refine splitA [13] (by kernel_rfl) ⟨?_, trivial⟩
              refine go tbl_ok false ?_
              conv => whnf
              refine appW tbl_ok rfl rfl rfl rfl rfl rfl rfl rfl rfl rfl rfl (sInt ((r.2.2.nodes.getD r2.2.2.toNat default).outs ++ [r4.2.2 - 1])) (slC_snoc rfl) (by intro h; cases h) (by omega) (go tbl_ok false ?_)
              conv => whnf
              refine loopA ?_
              refine splitA [14] (by kernel_rfl) ⟨?_, trivial⟩
              refine go tbl_ok false ?_
              conv => whnf
              (repeat (refine ⟨by first | omega | (show _ ∧ _; omega) | ((repeat (first | rw [ByteArray.size_append] | rw [bsz] | rw [List.size_toArray] | rw [List.length_cons] | rw [List.length_nil])) <;> omega) | ((repeat rw [Int.toNat_natCast]) <;> first | omega | (show _ ∧ _; omega)) | (simp only [ByteArray.size_append, bsz, List.size_toArray, List.length_cons, List.length_nil]; omega) | (simp only [Int.toNat_natCast]; first | omega | (show _ ∧ _; omega)) | decide, ?_⟩; conv => whnf))
              refine loopA ?_
              refine preA tbl_ok false 15 rfl rfl rfl (by kernel_rfl) rfl (andL_mem (by repeat' (first | exact trivial | refine ⟨?_, ?_⟩ | (show _ ∧ _; omega) | omega))) ?_
              refine splitA [16] (by kernel_rfl) ⟨?_, trivial⟩
              refine go tbl_ok false ?_
              conv => whnf
              refine storeW (j := r2.2.2) tbl_ok rfl rfl rfl rfl rfl rfl rfl rfl _ (upd_hole (j := r2.2.2.toNat) (xs := r.2.2.nodes) (e := GNode.c) (x := ⟨(r.2.2.nodes.getD r2.2.2.toNat default).kind, (r.2.2.nodes.getD r2.2.2.toNat default).a, (r.2.2.nodes.getD r2.2.2.toNat default).b, (r.2.2.nodes.getD r2.2.2.toNat default).outs ++ [r4.2.2 - 1]⟩) (by omega) rfl) (go tbl_ok false ?_)
              conv => whnf
              refine loopA ?_
              refine doneA (by kernel_rfl) (go tbl_ok false ?_)
              conv => whnf
            rotate_left 1
            focus
              refine go tbl_ok false ?_
              conv => whnf
              refine loopA ?_
              refine splitA [8] (by kernel_rfl) ⟨?_, trivial⟩
              refine go tbl_ok false ?_
              conv => whnf
              refine focusW tbl_ok rfl rfl rfl rfl rfl rfl (c := sInt (r.2.2.nodes.getD r2.2.2.toNat default).outs) rfl (fun v => go tbl_ok false ?_)
              conv => whnf
              refine loopA ?_
              refine splitA [13] (by kernel_rfl) ⟨?_, trivial⟩
              refine go tbl_ok false ?_
              conv => whnf
              refine appW tbl_ok rfl rfl rfl rfl rfl rfl rfl rfl rfl rfl rfl (sInt ((r.2.2.nodes.getD r2.2.2.toNat default).outs ++ [r4.2.2 - 1])) (slC_snoc rfl) (by intro h; cases h) (by omega) (go tbl_ok false ?_)
              conv => whnf
              refine loopA ?_
              refine splitA [14] (by kernel_rfl) ⟨?_, trivial⟩
              refine go tbl_ok false ?_
              conv => whnf
              (repeat (refine ⟨by first | omega | (show _ ∧ _; omega) | ((repeat (first | rw [ByteArray.size_append] | rw [bsz] | rw [List.size_toArray] | rw [List.length_cons] | rw [List.length_nil])) <;> omega) | ((repeat rw [Int.toNat_natCast]) <;> first | omega | (show _ ∧ _; omega)) | (simp only [ByteArray.size_append, bsz, List.size_toArray, List.length_cons, List.length_nil]; omega) | (simp only [Int.toNat_natCast]; first | omega | (show _ ∧ _; omega)) | decide, ?_⟩; conv => whnf))
              refine loopA ?_
              refine preA tbl_ok false 15 rfl rfl rfl (by kernel_rfl) rfl (andL_mem (by repeat' (first | exact trivial | refine ⟨?_, ?_⟩ | (show _ ∧ _; omega) | omega))) ?_
              refine splitA [16] (by kernel_rfl) ⟨?_, trivial⟩
              refine go tbl_ok false ?_
              conv => whnf
              refine storeW (j := r2.2.2) tbl_ok rfl rfl rfl rfl rfl rfl rfl rfl _ (upd_hole (j := r2.2.2.toNat) (xs := r.2.2.nodes) (e := GNode.c) (x := ⟨(r.2.2.nodes.getD r2.2.2.toNat default).kind, (r.2.2.nodes.getD r2.2.2.toNat default).a, (r.2.2.nodes.getD r2.2.2.toNat default).b, (r.2.2.nodes.getD r2.2.2.toNat default).outs ++ [r4.2.2 - 1]⟩) (by omega) rfl) (go tbl_ok false ?_)
              conv => whnf
              refine loopA ?_
              refine doneA (by kernel_rfl) (go tbl_ok false ?_)
              conv => whnf
          rotate_left 2
          focus
            refine go tbl_ok false ?_
            conv => whnf
            refine loopA ?_
            refine splitA [6] (by kernel_rfl) ⟨?_, trivial⟩
            refine go tbl_ok false ?_
            conv => whnf
            (repeat (refine ⟨by first | omega | (show _ ∧ _; omega) | ((repeat (first | rw [ByteArray.size_append] | rw [bsz] | rw [List.size_toArray] | rw [List.length_cons] | rw [List.length_nil])) <;> omega) | ((repeat rw [Int.toNat_natCast]) <;> first | omega | (show _ ∧ _; omega)) | (simp only [ByteArray.size_append, bsz, List.size_toArray, List.length_cons, List.length_nil]; omega) | (simp only [Int.toNat_natCast]; first | omega | (show _ ∧ _; omega)) | decide, ?_⟩; conv => whnf))
            refine loopA ?_
            refine preA tbl_ok false 7 rfl rfl rfl (by kernel_rfl) rfl (andL_mem (by repeat' (first | exact trivial | refine ⟨?_, ?_⟩ | (show _ ∧ _; omega) | omega))) ?_
            refine splitA [8] (by kernel_rfl) ⟨?_, trivial⟩
            refine go tbl_ok false ?_
            conv => whnf
            refine focusW tbl_ok rfl rfl rfl rfl rfl rfl (c := sInt (r.2.2.nodes.getD r2.2.2.toNat default).outs) rfl (fun v => go tbl_ok false ?_)
            conv => whnf
            refine loopA ?_
            refine splitA [13] (by kernel_rfl) ⟨?_, trivial⟩
            refine go tbl_ok false ?_
            conv => whnf
            refine appW tbl_ok rfl rfl rfl rfl rfl rfl rfl rfl rfl rfl rfl (sInt ((r.2.2.nodes.getD r2.2.2.toNat default).outs ++ [r4.2.2 - 1])) (slC_snoc rfl) (by intro h; cases h) (by omega) (go tbl_ok false ?_)
            conv => whnf
            refine loopA ?_
            refine splitA [14] (by kernel_rfl) ⟨?_, trivial⟩
            refine go tbl_ok false ?_
            conv => whnf
            (repeat (refine ⟨by first | omega | (show _ ∧ _; omega) | ((repeat (first | rw [ByteArray.size_append] | rw [bsz] | rw [List.size_toArray] | rw [List.length_cons] | rw [List.length_nil])) <;> omega) | ((repeat rw [Int.toNat_natCast]) <;> first | omega | (show _ ∧ _; omega)) | (simp only [ByteArray.size_append, bsz, List.size_toArray, List.length_cons, List.length_nil]; omega) | (simp only [Int.toNat_natCast]; first | omega | (show _ ∧ _; omega)) | decide, ?_⟩; conv => whnf))
            refine loopA ?_
            refine preA tbl_ok false 15 rfl rfl rfl (by kernel_rfl) rfl (andL_mem (by repeat' (first | exact trivial | refine ⟨?_, ?_⟩ | (show _ ∧ _; omega) | omega))) ?_
            refine splitA [16] (by kernel_rfl) ⟨?_, trivial⟩
            refine go tbl_ok false ?_
            conv => whnf
            refine storeW (j := r2.2.2) tbl_ok rfl rfl rfl rfl rfl rfl rfl rfl _ (upd_hole (j := r2.2.2.toNat) (xs := r.2.2.nodes) (e := GNode.c) (x := ⟨(r.2.2.nodes.getD r2.2.2.toNat default).kind, (r.2.2.nodes.getD r2.2.2.toNat default).a, (r.2.2.nodes.getD r2.2.2.toNat default).b, (r.2.2.nodes.getD r2.2.2.toNat default).outs ++ [r4.2.2 - 1]⟩) (by omega) rfl) (go tbl_ok false ?_)
            conv => whnf
            refine loopA ?_
            refine doneA (by kernel_rfl) (go tbl_ok false ?_)
            conv => whnf
      rotate_left 6
      focus
        refine go tbl_ok false ?_
        conv => whnf
        (repeat (refine ⟨by first | omega | (show _ ∧ _; omega) | ((repeat (first | rw [ByteArray.size_append] | rw [bsz] | rw [List.size_toArray] | rw [List.length_cons] | rw [List.length_nil])) <;> omega) | ((repeat rw [Int.toNat_natCast]) <;> first | omega | (show _ ∧ _; omega)) | (simp only [ByteArray.size_append, bsz, List.size_toArray, List.length_cons, List.length_nil]; omega) | (simp only [Int.toNat_natCast]; first | omega | (show _ ∧ _; omega)) | decide, ?_⟩; conv => whnf))
        refine loopA ?_
        refine preA tbl_ok false 7 rfl rfl rfl (by kernel_rfl) rfl (andL_mem (by repeat' (first | exact trivial | refine ⟨?_, ?_⟩ | (show _ ∧ _; omega) | omega))) ?_
        refine splitA [1, 8, 10] (by kernel_rfl) ⟨?_, ?_, ?_, trivial⟩
        focus
          refine go tbl_ok false ?_
          conv => whnf
          refine loopA ?_
          refine splitA [8, 10] (by kernel_rfl) ⟨?_, ?_, trivial⟩
          focus
            refine go tbl_ok false ?_
            conv => whnf
            refine focusW tbl_ok rfl rfl rfl rfl rfl rfl (c := sInt (r.2.2.nodes.getD r2.2.2.toNat default).outs) rfl (fun v => go tbl_ok false ?_)
            conv => whnf
            refine loopA ?_
            refine splitA [10] (by kernel_rfl) ⟨?_, trivial⟩
            refine go tbl_ok false ?_
            conv => whnf
            refine callP (curBelow d r3.1 r3.2.1 9 hr3.1 (by decide)) hH hp rfl (by repeat' (first | exact trivial | exact outC_val _ _ | exact rfl | exact .inr ⟨rfl, rfl, _, _, rfl⟩ | refine ⟨?_, ?_⟩)) rfl rfl (fun r4 hr4 => go tbl_ok false ?_)
            conv => whnf
            refine loopA ?_
            refine preA tbl_ok false 11 rfl rfl rfl (by kernel_rfl) rfl (andL_mem (by repeat' (first | exact trivial | refine ⟨?_, ?_⟩ | (show _ ∧ _; omega) | omega))) ?_
            refine splitA [12] (by kernel_rfl) ⟨?_, trivial⟩
            refine go tbl_ok false ?_
            conv => whnf
            refine loopA ?_
            refine splitA [13] (by kernel_rfl) ⟨?_, trivial⟩
            refine go tbl_ok false ?_
            conv => whnf
            refine appW tbl_ok rfl rfl rfl rfl rfl rfl rfl rfl rfl rfl rfl (sInt ((r.2.2.nodes.getD r2.2.2.toNat default).outs ++ [r4.2.2 - 1])) (slC_snoc rfl) (by intro h; cases h) (by omega) (go tbl_ok false ?_)
            conv => whnf
            refine loopA ?_
            refine splitA [14] (by kernel_rfl) ⟨?_, trivial⟩
            refine go tbl_ok false ?_
            conv => whnf
            (repeat (refine ⟨by first | omega | (show _ ∧ _; omega) | ((repeat (first | rw [ByteArray.size_append] | rw [bsz] | rw [List.size_toArray] | rw [List.length_cons] | rw [List.length_nil])) <;> omega) | ((repeat rw [Int.toNat_natCast]) <;> first | omega | (show _ ∧ _; omega)) | (simp only [ByteArray.size_append, bsz, List.size_toArray, List.length_cons, List.length_nil]; omega) | (simp only [Int.toNat_natCast]; first | omega | (show _ ∧ _; omega)) | decide, ?_⟩; conv => whnf))
            refine loopA ?_
            refine preA tbl_ok false 15 rfl rfl rfl (by kernel_rfl) rfl (andL_mem (by repeat' (first | exact trivial | refine ⟨?_, ?_⟩ | (show _ ∧ _; omega) | omega))) ?_
            refine splitA [16] (by kernel_rfl) ⟨?_, trivial⟩
            refine go tbl_ok false ?_
            conv => whnf
            refine storeW (j := r2.2.2) tbl_ok rfl rfl rfl rfl rfl rfl rfl rfl _ (upd_hole (j := r2.2.2.toNat) (xs := r.2.2.nodes) (e := GNode.c) (x := ⟨(r.2.2.nodes.getD r2.2.2.toNat default).kind, (r.2.2.nodes.getD r2.2.2.toNat default).a, (r.2.2.nodes.getD r2.2.2.toNat default).b, (r.2.2.nodes.getD r2.2.2.toNat default).outs ++ [r4.2.2 - 1]⟩) (by omega) rfl) (go tbl_ok false ?_)
            conv => whnf
            refine loopA ?_
            refine doneA (by kernel_rfl) (go tbl_ok false ?_)
            conv => whnf
          rotate_left 1
          focus
            refine go tbl_ok false ?_
            conv => whnf
            refine callP (curBelow d r3.1 r3.2.1 9 hr3.1 (by decide)) hH hp rfl (by repeat' (first | exact trivial | exact outC_val _ _ | exact rfl | exact .inr ⟨rfl, rfl, _, _, rfl⟩ | refine ⟨?_, ?_⟩)) rfl rfl (fun r4 hr4 => go tbl_ok false ?_)
            conv => whnf
            refine loopA ?_
            refine preA tbl_ok false 11 rfl rfl rfl (by kernel_rfl) rfl (andL_mem (by repeat' (first | exact trivial | refine ⟨?_, ?_⟩ | (show _ ∧ _; omega) | omega))) ?_
            refine splitA [8, 12] (by kernel_rfl) ⟨?_, ?_, trivial⟩
            focus
              refine go tbl_ok false ?_
              conv => whnf
              refine focusW tbl_ok rfl rfl rfl rfl rfl rfl (c := sInt (r.2.2.nodes.getD r2.2.2.toNat default).outs) rfl (fun v => go tbl_ok false ?_)
              conv => whnf
              refine loopA ?_
              refine splitA [12] (by kernel_rfl) ⟨?_, trivial⟩
              refine go tbl_ok false ?_
              conv => whnf
              refine loopA ?_
              refine splitA [13] (by kernel_rfl) ⟨?_, trivial⟩
              refine go tbl_ok false ?_
              conv => whnf
              refine appW tbl_ok rfl rfl rfl rfl rfl rfl rfl rfl rfl rfl rfl (sInt ((r.2.2.nodes.getD r2.2.2.toNat default).outs ++ [r4.2.2 - 1])) (slC_snoc rfl) (by intro h; cases h) (by omega) (go tbl_ok false ?_)
              conv => whnf
              refine loopA ?_
              refine splitA [14] (by kernel_rfl) ⟨?_, trivial⟩
              refine go tbl_ok false ?_
              conv => whnf
              (repeat (refine ⟨by first | omega | (show _ ∧ _; omega) | ((repeat (first | rw [ByteArray.size_append] | rw [bsz] | rw [List.size_toArray] | rw [List.length_cons] | rw [List.length_nil])) <;> omega) | ((repeat rw [Int.toNat_natCast]) <;> first | omega | (show _ ∧ _; omega)) | (simp only [ByteArray.size_append, bsz, List.size_toArray, List.length_cons, List.length_nil]; omega) | (simp only [Int.toNat_natCast]; first | omega | (show _ ∧ _; omega)) | decide, ?_⟩; conv => whnf))
              refine loopA ?_
              refine preA tbl_ok false 15 rfl rfl rfl (by kernel_rfl) rfl (andL_mem (by repeat' (first | exact trivial | refine ⟨?_, ?_⟩ | (show _ ∧ _; omega) | omega))) ?_
              refine splitA [16] (by kernel_rfl) ⟨?_, trivial⟩
              refine go tbl_ok false ?_
              conv => whnf
              refine storeW (j := r2.2.2) tbl_ok rfl rfl rfl rfl rfl rfl rfl rfl _ (upd_hole (j := r2.2.2.toNat) (xs := r.2.2.nodes) (e := GNode.c) (x := ⟨(r.2.2.nodes.getD r2.2.2.toNat default).kind, (r.2.2.nodes.getD r2.2.2.toNat default).a, (r.2.2.nodes.getD r2.2.2.toNat default).b, (r.2.2.nodes.getD r2.2.2.toNat default).outs ++ [r4.2.2 - 1]⟩) (by omega) rfl) (go tbl_ok false ?_)
              conv => whnf
              refine loopA ?_
              refine doneA (by kernel_rfl) (go tbl_ok false ?_)
              conv => whnf
            rotate_left 1
            focus
              refine go tbl_ok false ?_
              conv => whnf
              refine loopA ?_
              refine splitA [8] (by kernel_rfl) ⟨?_, trivial⟩
              refine go tbl_ok false ?_
              conv => whnf
              refine focusW tbl_ok rfl rfl rfl rfl rfl rfl (c := sInt (r.2.2.nodes.getD r2.2.2.toNat default).outs) rfl (fun v => go tbl_ok false ?_)
              conv => whnf
              refine loopA ?_
              refine splitA [13] (by kernel_rfl) ⟨?_, trivial⟩
              refine go tbl_ok false ?_
              conv => whnf
              refine appW tbl_ok rfl rfl rfl rfl rfl rfl rfl rfl rfl rfl rfl (sInt ((r.2.2.nodes.getD r2.2.2.toNat default).outs ++ [r4.2.2 - 1])) (slC_snoc rfl) (by intro h; cases h) (by omega) (go tbl_ok false ?_)
              conv => whnf
              refine loopA ?_
              refine splitA [14] (by kernel_rfl) ⟨?_, trivial⟩
              refine go tbl_ok false ?_
              conv => whnf
              (repeat (refine ⟨by first | omega | (show _ ∧ _; omega) | ((repeat (first | rw [ByteArray.size_append] | rw [bsz] | rw [List.size_toArray] | rw [List.length_cons] | rw [List.length_nil])) <;> omega) | ((repeat rw [Int.toNat_natCast]) <;> first | omega | (show _ ∧ _; omega)) | (simp only [ByteArray.size_append, bsz, List.size_toArray, List.length_cons, List.length_nil]; omega) | (simp only [Int.toNat_natCast]; first | omega | (show _ ∧ _; omega)) | decide, ?_⟩; conv => whnf))
              refine loopA ?_
              refine preA tbl_ok false 15 rfl rfl rfl (by kernel_rfl) rfl (andL_mem (by repeat' (first | exact trivial | refine ⟨?_, ?_⟩ | (show _ ∧ _; omega) | omega))) ?_
              refine splitA [16] (by kernel_rfl) ⟨?_, trivial⟩
              refine go tbl_ok false ?_
              conv => whnf
              refine storeW (j := r2.2.2) tbl_ok rfl rfl rfl rfl rfl rfl rfl rfl _ (upd_hole (j := r2.2.2.toNat) (xs := r.2.2.nodes) (e := GNode.c) (x := ⟨(r.2.2.nodes.getD r2.2.2.toNat default).kind, (r.2.2.nodes.getD r2.2.2.toNat default).a, (r.2.2.nodes.getD r2.2.2.toNat default).b, (r.2.2.nodes.getD r2.2.2.toNat default).outs ++ [r4.2.2 - 1]⟩) (by omega) rfl) (go tbl_ok false ?_)
              conv => whnf
              refine loopA ?_
              refine doneA (by kernel_rfl) (go tbl_ok false ?_)
              conv => whnf
        rotate_left 3
        focus
          refine go tbl_ok false ?_
          conv => whnf
          refine focusW tbl_ok rfl rfl rfl rfl rfl rfl (c := sInt (r.2.2.nodes.getD r2.2.2.toNat default).outs) rfl (fun v => go tbl_ok false ?_)
          conv => whnf
          refine loopA ?_
          refine splitA [1, 10] (by kernel_rfl) ⟨?_, ?_, trivial⟩
          focus
            refine go tbl_ok false ?_
            conv => whnf
            refine loopA ?_
            refine splitA [10] (by kernel_rfl) ⟨?_, trivial⟩
            refine go tbl_ok false ?_
            conv => whnf
            refine callP (curBelow d r3.1 r3.2.1 9 hr3.1 (by decide)) hH hp rfl (by repeat' (first | exact trivial | exact outC_val _ _ | exact rfl | exact .inr ⟨rfl, rfl, _, _, rfl⟩ | refine ⟨?_, ?_⟩)) rfl rfl (fun r4 hr4 => go tbl_ok false ?_)
            conv => whnf
            refine loopA ?_
            refine preA tbl_ok false 11 rfl rfl rfl (by kernel_rfl) rfl (andL_mem (by repeat' (first | exact trivial | refine ⟨?_, ?_⟩ | (show _ ∧ _; omega) | omega))) ?_
            refine splitA [12] (by kernel_rfl) ⟨?_, trivial⟩
            refine go tbl_ok false ?_
            conv => whnf
            refine loopA ?_
            refine splitA [13] (by kernel_rfl) ⟨?_, trivial⟩
            refine go tbl_ok false ?_
            conv => whnf
            refine appW tbl_ok rfl rfl rfl rfl rfl rfl rfl rfl rfl rfl rfl (sInt ((r.2.2.nodes.getD r2.2.2.toNat default).outs ++ [r4.2.2 - 1])) (slC_snoc rfl) (by intro h; cases h) (by omega) (go tbl_ok false ?_)
            conv => whnf
            refine loopA ?_
            refine splitA [14] (by kernel_rfl) ⟨?_, trivial⟩
            refine go tbl_ok false ?_
            conv => whnf
            (repeat (refine ⟨by first | omega | (show _ ∧ _; omega) | ((repeat (first | rw [ByteArray.size_append] | rw [bsz] | rw [List.size_toArray] | rw [List.length_cons] | rw [List.length_nil])) <;> omega) | ((repeat rw [Int.toNat_natCast]) <;> first | omega | (show _ ∧ _; omega)) | (simp only [ByteArray.size_append, bsz, List.size_toArray, List.length_cons, List.length_nil]; omega) | (simp only [Int.toNat_natCast]; first | omega | (show _ ∧ _; omega)) | decide, ?_⟩; conv => whnf))
            refine loopA ?_
            refine preA tbl_ok false 15 rfl rfl rfl (by kernel_rfl) rfl (andL_mem (by repeat' (first | exact trivial | refine ⟨?_, ?_⟩ | (show _ ∧ _; omega) | omega))) ?_
            refine splitA [16] (by kernel_rfl) ⟨?_, trivial⟩
            refine go tbl_ok false ?_
            conv => whnf
            refine storeW (j := r2.2.2) tbl_ok rfl rfl rfl rfl rfl rfl rfl rfl _ (upd_hole (j := r2.2.2.toNat) (xs := r.2.2.nodes) (e := GNode.c) (x := ⟨(r.2.2.nodes.getD r2.2.2.toNat default).kind, (r.2.2.nodes.getD r2.2.2.toNat default).a, (r.2.2.nodes.getD r2.2.2.toNat default).b, (r.2.2.nodes.getD r2.2.2.toNat default).outs ++ [r4.2.2 - 1]⟩) (by omega) rfl) (go tbl_ok false ?_)
            conv => whnf
            refine loopA ?_
            refine doneA (by kernel_rfl) (go tbl_ok false ?_)
            conv => whnf
          rotate_left 1
          focus
            refine go tbl_ok false ?_
            conv => whnf
            refine callP (curBelow d r3.1 r3.2.1 9 hr3.1 (by decide)) hH hp rfl (by repeat' (first | exact trivial | exact outC_val _ _ | exact rfl | exact .inr ⟨rfl, rfl, _, _, rfl⟩ | refine ⟨?_, ?_⟩)) rfl rfl (fun r4 hr4 => go tbl_ok false ?_)
            conv => whnf
            refine loopA ?_
            refine preA tbl_ok false 11 rfl rfl rfl (by kernel_rfl) rfl (andL_mem (by repeat' (first | exact trivial | refine ⟨?_, ?_⟩ | (show _ ∧ _; omega) | omega))) ?_
            refine splitA [1, 12] (by kernel_rfl) ⟨?_, ?_, trivial⟩
            focus
              refine go tbl_ok false ?_
              conv => whnf
              refine loopA ?_
              refine splitA [12] (by kernel_rfl) ⟨?_, trivial⟩
              refine go tbl_ok false ?_
              conv => whnf
              refine loopA ?_
              refine splitA [13] (by kernel_rfl) ⟨?_, trivial⟩
              refine go tbl_ok false ?_
              conv => whnf
              refine appW tbl_ok rfl rfl rfl rfl rfl rfl rfl rfl rfl rfl rfl (sInt ((r.2.2.nodes.getD r2.2.2.toNat default).outs ++ [r4.2.2 - 1])) (slC_snoc rfl) (by intro h; cases h) (by omega) (go tbl_ok false ?_)
              conv => whnf
              refine loopA ?_
              refine splitA [14] (by kernel_rfl) ⟨?_, trivial⟩
              refine go tbl_ok false ?_
              conv => whnf
              (repeat (refine ⟨by first | omega | (show _ ∧ _; omega) | ((repeat (first | rw [ByteArray.size_append] | rw [bsz] | rw [List.size_toArray] | rw [List.length_cons] | rw [List.length_nil])) <;> omega) | ((repeat rw [Int.toNat_natCast]) <;> first | omega | (show _ ∧ _; omega)) | (simp only [ByteArray.size_append, bsz, List.size_toArray, List.length_cons, List.length_nil]; omega) | (simp only [Int.toNat_natCast]; first | omega | (show _ ∧ _; omega)) | decide, ?_⟩; conv => whnf))
              refine loopA ?_
              refine preA tbl_ok false 15 rfl rfl rfl (by kernel_rfl) rfl (andL_mem (by repeat' (first | exact trivial | refine ⟨?_, ?_⟩ | (show _ ∧ _; omega) | omega))) ?_
              refine splitA [16] (by kernel_rfl) ⟨?_, trivial⟩
              refine go tbl_ok false ?_
              conv => whnf
              refine storeW (j := r2.2.2) tbl_ok rfl rfl rfl rfl rfl rfl rfl rfl _ (upd_hole (j := r2.2.2.toNat) (xs := r.2.2.nodes) (e := GNode.c) (x := ⟨(r.2.2.nodes.getD r2.2.2.toNat default).kind, (r.2.2.nodes.getD r2.2.2.toNat default).a, (r.2.2.nodes.getD r2.2.2.toNat default).b, (r.2.2.nodes.getD r2.2.2.toNat default).outs ++ [r4.2.2 - 1]⟩) (by omega) rfl) (go tbl_ok false ?_)
              conv => whnf
              refine loopA ?_
              refine doneA (by kernel_rfl) (go tbl_ok false ?_)
              conv => whnf
            rotate_left 1
            focus
              refine go tbl_ok false ?_
              conv => whnf
              refine loopA ?_
              refine splitA [1, 13] (by kernel_rfl) ⟨?_, ?_, trivial⟩
              focus
                refine go tbl_ok false ?_
                conv => whnf
                refine loopA ?_
                refine splitA [13] (by kernel_rfl) ⟨?_, trivial⟩
                refine go tbl_ok false ?_
                conv => whnf
                refine appW tbl_ok rfl rfl rfl rfl rfl rfl rfl rfl rfl rfl rfl (sInt ((r.2.2.nodes.getD r2.2.2.toNat default).outs ++ [r4.2.2 - 1])) (slC_snoc rfl) (by intro h; cases h) (by omega) (go tbl_ok false ?_)
                conv => whnf
                refine loopA ?_
                refine splitA [14] (by kernel_rfl) ⟨?_, trivial⟩
                refine go tbl_ok false ?_
                conv => whnf
                (repeat (refine ⟨by first | omega | (show _ ∧ _; omega) | ((repeat (first | rw [ByteArray.size_append] | rw [bsz] | rw [List.size_toArray] | rw [List.length_cons] | rw [List.length_nil])) <;> omega) | ((repeat rw [Int.toNat_natCast]) <;> first | omega | (show _ ∧ _; omega)) | (simp only [ByteArray.size_append, bsz, List.size_toArray, List.length_cons, List.length_nil]; omega) | (simp only [Int.toNat_natCast]; first | omega | (show _ ∧ _; omega)) | decide, ?_⟩; conv => whnf))
                refine loopA ?_
                refine preA tbl_ok false 15 rfl rfl rfl (by kernel_rfl) rfl (andL_mem (by repeat' (first | exact trivial | refine ⟨?_, ?_⟩ | (show _ ∧ _; omega) | omega))) ?_
                refine splitA [16] (by kernel_rfl) ⟨?_, trivial⟩
                refine go tbl_ok false ?_
                conv => whnf
                refine storeW (j := r2.2.2) tbl_ok rfl rfl rfl rfl rfl rfl rfl rfl _ (upd_hole (j := r2.2.2.toNat) (xs := r.2.2.nodes) (e := GNode.c) (x := ⟨(r.2.2.nodes.getD r2.2.2.toNat default).kind, (r.2.2.nodes.getD r2.2.2.toNat default).a, (r.2.2.nodes.getD r2.2.2.toNat default).b, (r.2.2.nodes.getD r2.2.2.toNat default).outs ++ [r4.2.2 - 1]⟩) (by omega) rfl) (go tbl_ok false ?_)
                conv => whnf
                refine loopA ?_
                refine doneA (by kernel_rfl) (go tbl_ok false ?_)
                conv => whnf
              rotate_left 1
              focus
                refine go tbl_ok false ?_
                conv => whnf
                refine appW tbl_ok rfl rfl rfl rfl rfl rfl rfl rfl rfl rfl rfl (sInt ((r.2.2.nodes.getD r2.2.2.toNat default).outs ++ [r4.2.2 - 1])) (slC_snoc rfl) (by intro h; cases h) (by omega) (go tbl_ok false ?_)
                conv => whnf
                refine loopA ?_
                refine splitA [1] (by kernel_rfl) ⟨?_, trivial⟩
                refine go tbl_ok false ?_
                conv => whnf
                refine loopA ?_
                refine splitA [14] (by kernel_rfl) ⟨?_, trivial⟩
                refine go tbl_ok false ?_
                conv => whnf
                (repeat (refine ⟨by first | omega | (show _ ∧ _; omega) | ((repeat (first | rw [ByteArray.size_append] | rw [bsz] | rw [List.size_toArray] | rw [List.length_cons] | rw [List.length_nil])) <;> omega) | ((repeat rw [Int.toNat_natCast]) <;> first | omega | (show _ ∧ _; omega)) | (simp only [ByteArray.size_append, bsz, List.size_toArray, List.length_cons, List.length_nil]; omega) | (simp only [Int.toNat_natCast]; first | omega | (show _ ∧ _; omega)) | decide, ?_⟩; conv => whnf))
                refine loopA ?_
                refine preA tbl_ok false 15 rfl rfl rfl (by kernel_rfl) rfl (andL_mem (by repeat' (first | exact trivial | refine ⟨?_, ?_⟩ | (show _ ∧ _; omega) | omega))) ?_
                refine splitA [16] (by kernel_rfl) ⟨?_, trivial⟩
                refine go tbl_ok false ?_
                conv => whnf
                refine storeW (j := r2.2.2) tbl_ok rfl rfl rfl rfl rfl rfl rfl rfl _ (upd_hole (j := r2.2.2.toNat) (xs := r.2.2.nodes) (e := GNode.c) (x := ⟨(r.2.2.nodes.getD r2.2.2.toNat default).kind, (r.2.2.nodes.getD r2.2.2.toNat default).a, (r.2.2.nodes.getD r2.2.2.toNat default).b, (r.2.2.nodes.getD r2.2.2.toNat default).outs ++ [r4.2.2 - 1]⟩) (by omega) rfl) (go tbl_ok false ?_)
                conv => whnf
                refine loopA ?_
                refine doneA (by kernel_rfl) (go tbl_ok false ?_)
                conv => whnf
        rotate_left 4
        focus
          refine go tbl_ok false ?_
          conv => whnf
          refine callP (curBelow d r3.1 r3.2.1 9 hr3.1 (by decide)) hH hp rfl (by repeat' (first | exact trivial | exact outC_val _ _ | exact rfl | exact .inr ⟨rfl, rfl, _, _, rfl⟩ | refine ⟨?_, ?_⟩)) rfl rfl (fun r4 hr4 => go tbl_ok false ?_)
          conv => whnf
          refine loopA ?_
          refine preA tbl_ok false 11 rfl rfl rfl (by kernel_rfl) rfl (andL_mem (by repeat' (first | exact trivial | refine ⟨?_, ?_⟩ | (show _ ∧ _; omega) | omega))) ?_
          refine splitA [1, 8, 12] (by kernel_rfl) ⟨?_, ?_, ?_, trivial⟩
          focus
            refine go tbl_ok false ?_
            conv => whnf
            refine loopA ?_
            refine splitA [8, 12] (by kernel_rfl) ⟨?_, ?_, trivial⟩
            focus
              refine go tbl_ok false ?_
              conv => whnf
              refine focusW tbl_ok rfl rfl rfl rfl rfl rfl (c := sInt (r.2.2.nodes.getD r2.2.2.toNat default).outs) rfl (fun v => go tbl_ok false ?_)
              conv => whnf
              refine loopA ?_
              refine splitA [12] (by kernel_rfl) ⟨?_, trivial⟩
              refine go tbl_ok false ?_
              conv => whnf
              refine loopA ?_
              refine splitA [13] (by kernel_rfl) ⟨?_, trivial⟩
              refine go tbl_ok false ?_
              conv => whnf
              refine appW tbl_ok rfl rfl rfl rfl rfl rfl rfl rfl rfl rfl rfl (sInt ((r.2.2.nodes.getD r2.2.2.toNat default).outs ++ [r4.2.2 - 1])) (slC_snoc rfl) (by intro h; cases h) (by omega) (go tbl_ok false ?_)
              conv => whnf
              refine loopA ?_
              refine splitA [14] (by kernel_rfl) ⟨?_, trivial⟩
              refine go tbl_ok false ?_
              conv => whnf
              (repeat (refine ⟨by first | omega | (show _ ∧ _; omega) | ((repeat (first | rw [ByteArray.size_append] | rw [bsz] | rw [List.size_toArray] | rw [List.length_cons] | rw [List.length_nil])) <;> omega) | ((repeat rw [Int.toNat_natCast]) <;> first | omega | (show _ ∧ _; omega)) | (simp only [ByteArray.size_append, bsz, List.size_toArray, List.length_cons, List.length_nil]; omega) | (simp only [Int.toNat_natCast]; first | omega | (show _ ∧ _; omega)) | decide, ?_⟩; conv => whnf))
              refine loopA ?_
              refine preA tbl_ok false 15 rfl rfl rfl (by kernel_rfl) rfl (andL_mem (by repeat' (first | exact trivial | refine ⟨?_, ?_⟩ | (show _ ∧ _; omega) | omega))) ?_
              refine splitA [16] (by kernel_rfl) ⟨?_, trivial⟩
              refine go tbl_ok false ?_
              conv => whnf
              refine storeW (j := r2.2.2) tbl_ok rfl rfl rfl rfl rfl rfl rfl rfl _ (upd_hole (j := r2.2.2.toNat) (xs := r.2.2.nodes) (e := GNode.c) (x := ⟨(r.2.2.nodes.getD r2.2.2.toNat default).kind, (r.2.2.nodes.getD r2.2.2.toNat default).a, (r.2.2.nodes.getD r2.2.2.toNat default).b, (r.2.2.nodes.getD r2.2.2.toNat default).outs ++ [r4.2.2 - 1]⟩) (by omega) rfl) (go tbl_ok false ?_)
              conv => whnf
              refine loopA ?_
              refine doneA (by kernel_rfl) (go tbl_ok false ?_)
              conv => whnf
            rotate_left 1
            focus
              refine go tbl_ok false ?_
              conv => whnf
              refine loopA ?_
              refine splitA [8] (by kernel_rfl) ⟨?_, trivial⟩
              refine go tbl_ok false ?_
              conv => whnf
              refine focusW tbl_ok rfl rfl rfl rfl rfl rfl (c := sInt (r.2.2.nodes.getD r2.2.2.toNat default).outs) rfl (fun v => go tbl_ok false ?_)
              conv => whnf
              refine loopA ?_
              refine splitA [13] (by kernel_rfl) ⟨?_, trivial⟩
              refine go tbl_ok false ?_
              conv => whnf
              refine appW tbl_ok rfl rfl rfl rfl rfl rfl rfl rfl rfl rfl rfl (sInt ((r.2.2.nodes.getD r2.2.2.toNat default).outs ++ [r4.2.2 - 1])) (slC_snoc rfl) (by intro h; cases h) (by omega) (go tbl_ok false ?_)
              conv => whnf
              refine loopA ?_
              refine splitA [14] (by kernel_rfl) ⟨?_, trivial⟩
              refine go tbl_ok false ?_
              conv => whnf
              (repeat (refine ⟨by first | omega | (show _ ∧ _; omega) | ((repeat (first | rw [ByteArray.size_append] | rw [bsz] | rw [List.size_toArray] | rw [List.length_cons] | rw [List.length_nil])) <;> omega) | ((repeat rw [Int.toNat_natCast]) <;> first | omega | (show _ ∧ _; omega)) | (simp only [ByteArray.size_append, bsz, List.size_toArray, List.length_cons, List.length_nil]; omega) | (simp only [Int.toNat_natCast]; first | omega | (show _ ∧ _; omega)) | decide, ?_⟩; conv => whnf))
              refine loopA ?_
              refine preA tbl_ok false 15 rfl rfl rfl (by kernel_rfl) rfl (andL_mem (by repeat' (first | exact trivial | refine ⟨?_, ?_⟩ | (show _ ∧ _; omega) | omega))) ?_
              refine splitA [16] (by kernel_rfl) ⟨?_, trivial⟩
              refine go tbl_ok false ?_
              conv => whnf
              refine storeW (j := r2.2.2) tbl_ok rfl rfl rfl rfl rfl rfl rfl rfl _ (upd_hole (j := r2.2.2.toNat) (xs := r.2.2.nodes) (e := GNode.c) (x := ⟨(r.2.2.nodes.getD r2.2.2.toNat default).kind, (r.2.2.nodes.getD r2.2.2.toNat default).a, (r.2.2.nodes.getD r2.2.2.toNat default).b, (r.2.2.nodes.getD r2.2.2.toNat default).outs ++ [r4.2.2 - 1]⟩) (by omega) rfl) (go tbl_ok false ?_)
              conv => whnf
              refine loopA ?_
              refine doneA (by kernel_rfl) (go tbl_ok false ?_)
              conv => whnf
          rotate_left 2
          focus
            refine go tbl_ok false ?_
            conv => whnf
            refine focusW tbl_ok rfl rfl rfl rfl rfl rfl (c := sInt (r.2.2.nodes.getD r2.2.2.toNat default).outs) rfl (fun v => go tbl_ok false ?_)
            conv => whnf
            refine loopA ?_
            refine splitA [1, 12] (by kernel_rfl) ⟨?_, ?_, trivial⟩
            focus
              refine go tbl_ok false ?_
              conv => whnf
              refine loopA ?_
              refine splitA [12] (by kernel_rfl) ⟨?_, trivial⟩
              refine go tbl_ok false ?_
              conv => whnf
              refine loopA ?_
              refine splitA [13] (by kernel_rfl) ⟨?_, trivial⟩
              refine go tbl_ok false ?_
              conv => whnf
              refine appW tbl_ok rfl rfl rfl rfl rfl rfl rfl rfl rfl rfl rfl (sInt ((r.2.2.nodes.getD r2.2.2.toNat default).outs ++ [r4.2.2 - 1])) (slC_snoc rfl) (by intro h; cases h) (by omega) (go tbl_ok false ?_)
              conv => whnf
              refine loopA ?_
              refine splitA [14] (by kernel_rfl) ⟨?_, trivial⟩
              refine go tbl_ok false ?_
              conv => whnf
              (repeat (refine ⟨by first | omega | (show _ ∧ _; omega) | ((repeat (first | rw [ByteArray.size_append] | rw [bsz] | rw [List.size_toArray] | rw [List.length_cons] | rw [List.length_nil])) <;> omega) | ((repeat rw [Int.toNat_natCast]) <;> first | omega | (show _ ∧ _; omega)) | (simp only [ByteArray.size_append, bsz, List.size_toArray, List.length_cons, List.length_nil]; omega) | (simp only [Int.toNat_natCast]; first | omega | (show _ ∧ _; omega)) | decide, ?_⟩; conv => whnf))
              refine loopA ?_
              refine preA tbl_ok false 15 rfl rfl rfl (by kernel_rfl) rfl (andL_mem (by repeat' (first | exact trivial | refine ⟨?_, ?_⟩ | (show _ ∧ _; omega) | omega))) ?_
              refine splitA [16] (by kernel_rfl) ⟨?_, trivial⟩
              refine go tbl_ok false ?_
              conv => whnf
              refine storeW (j := r2.2.2) tbl_ok rfl rfl rfl rfl rfl rfl rfl rfl _ (upd_hole (j := r2.2.2.toNat) (xs := r.2.2.nodes) (e := GNode.c) (x := ⟨(r.2.2.nodes.getD r2.2.2.toNat default).kind, (r.2.2.nodes.getD r2.2.2.toNat default).a, (r.2.2.nodes.getD r2.2.2.toNat default).b, (r.2.2.nodes.getD r2.2.2.toNat default).outs ++ [r4.2.2 - 1]⟩) (by omega) rfl) (go tbl_ok false ?_)
              conv => whnf
              refine loopA ?_
              refine doneA (by kernel_rfl) (go tbl_ok false ?_)
              conv => whnf
            rotate_left 1
            focus
              refine go tbl_ok false ?_
              conv => whnf
              refine loopA ?_
              refine splitA [1, 13] (by kernel_rfl) ⟨?_, ?_, trivial⟩
              focus
                refine go tbl_ok false ?_
                conv => whnf
                refine loopA ?_
                refine splitA [13] (by kernel_rfl) ⟨?_, trivial⟩
                refine go tbl_ok false ?_
                conv => whnf
                refine appW tbl_ok rfl rfl rfl rfl rfl rfl rfl rfl rfl rfl rfl (sInt ((r.2.2.nodes.getD r2.2.2.toNat default).outs ++ [r4.2.2 - 1])) (slC_snoc rfl) (by intro h; cases h) (by omega) (go tbl_ok false ?_)
                conv => whnf
                refine loopA ?_
                refine splitA [14] (by kernel_rfl) ⟨?_, trivial⟩
                refine go tbl_ok false ?_
                conv => whnf
                (repeat (refine ⟨by first | omega | (show _ ∧ _; omega) | ((repeat (first | rw [ByteArray.size_append] | rw [bsz] | rw [List.size_toArray] | rw [List.length_cons] | rw [List.length_nil])) <;> omega) | ((repeat rw [Int.toNat_natCast]) <;> first | omega | (show _ ∧ _; omega)) | (simp only [ByteArray.size_append, bsz, List.size_toArray, List.length_cons, List.length_nil]; omega) | (simp only [Int.toNat_natCast]; first | omega | (show _ ∧ _; omega)) | decide, ?_⟩; conv => whnf))
                refine loopA ?_
                refine preA tbl_ok false 15 rfl rfl rfl (by kernel_rfl) rfl (andL_mem (by repeat' (first | exact trivial | refine ⟨?_, ?_⟩ | (show _ ∧ _; omega) | omega))) ?_
                refine splitA [16] (by kernel_rfl) ⟨?_, trivial⟩
                refine go tbl_ok false ?_
                conv => whnf
                refine storeW (j := r2.2.2) tbl_ok rfl rfl rfl rfl rfl rfl rfl rfl _ (upd_hole (j := r2.2.2.toNat) (xs := r.2.2.nodes) (e := GNode.c) (x := ⟨(r.2.2.nodes.getD r2.2.2.toNat default).kind, (r.2.2.nodes.getD r2.2.2.toNat default).a, (r.2.2.nodes.getD r2.2.2.toNat default).b, (r.2.2.nodes.getD r2.2.2.toNat default).outs ++ [r4.2.2 - 1]⟩) (by omega) rfl) (go tbl_ok false ?_)
                conv => whnf
                refine loopA ?_
                refine doneA (by kernel_rfl) (go tbl_ok false ?_)
                conv => whnf
              rotate_left 1
              focus
                refine go tbl_ok false ?_
                conv => whnf
                refine appW tbl_ok rfl rfl rfl rfl rfl rfl rfl rfl rfl rfl rfl (sInt ((r.2.2.nodes.getD r2.2.2.toNat default).outs ++ [r4.2.2 - 1])) (slC_snoc rfl) (by intro h; cases h) (by omega) (go tbl_ok false ?_)
                conv => whnf
                refine loopA ?_
                refine splitA [1] (by kernel_rfl) ⟨?_, trivial⟩
                refine go tbl_ok false ?_
                conv => whnf
                refine loopA ?_
                refine splitA [14] (by kernel_rfl) ⟨?_, trivial⟩
                refine go tbl_ok false ?_
                conv => whnf
                (repeat (refine ⟨by first | omega | (show _ ∧ _; omega) | ((repeat (first | rw [ByteArray.size_append] | rw [bsz] | rw [List.size_toArray] | rw [List.length_cons] | rw [List.length_nil])) <;> omega) | ((repeat rw [Int.toNat_natCast]) <;> first | omega | (show _ ∧ _; omega)) | (simp only [ByteArray.size_append, bsz, List.size_toArray, List.length_cons, List.length_nil]; omega) | (simp only [Int.toNat_natCast]; first | omega | (show _ ∧ _; omega)) | decide, ?_⟩; conv => whnf))
                refine loopA ?_
                refine preA tbl_ok false 15 rfl rfl rfl (by kernel_rfl) rfl (andL_mem (by repeat' (first | exact trivial | refine ⟨?_, ?_⟩ | (show _ ∧ _; omega) | omega))) ?_
                refine splitA [16] (by kernel_rfl) ⟨?_, trivial⟩
                refine go tbl_ok false ?_
                conv => whnf
                refine storeW (j := r2.2.2) tbl_ok rfl rfl rfl rfl rfl rfl rfl rfl _ (upd_hole (j := r2.2.2.toNat) (xs := r.2.2.nodes) (e := GNode.c) (x := ⟨(r.2.2.nodes.getD r2.2.2.toNat default).kind, (r.2.2.nodes.getD r2.2.2.toNat default).a, (r.2.2.nodes.getD r2.2.2.toNat default).b, (r.2.2.nodes.getD r2.2.2.toNat default).outs ++ [r4.2.2 - 1]⟩) (by omega) rfl) (go tbl_ok false ?_)
                conv => whnf
                refine loopA ?_
                refine doneA (by kernel_rfl) (go tbl_ok false ?_)
                conv => whnf
          rotate_left 3
          focus
            refine go tbl_ok false ?_
            conv => whnf
            refine loopA ?_
            refine splitA [1, 8] (by kernel_rfl) ⟨?_, ?_, trivial⟩
            focus
              refine go tbl_ok false ?_
              conv => whnf
              refine loopA ?_
              refine splitA [8] (by kernel_rfl) ⟨?_, trivial⟩
              refine go tbl_ok false ?_
              conv => whnf
              refine focusW tbl_ok rfl rfl rfl rfl rfl rfl (c := sInt (r.2.2.nodes.getD r2.2.2.toNat default).outs) rfl (fun v => go tbl_ok false ?_)
              conv => whnf
              refine loopA ?_
              refine splitA [13] (by kernel_rfl) ⟨?_, trivial⟩
              refine go tbl_ok false ?_
              conv => whnf
              refine appW tbl_ok rfl rfl rfl rfl rfl rfl rfl rfl rfl rfl rfl (sInt ((r.2.2.nodes.getD r2.2.2.toNat default).outs ++ [r4.2.2 - 1])) (slC_snoc rfl) (by intro h; cases h) (by omega) (go tbl_ok false ?_)
              conv => whnf
              refine loopA ?_
              refine splitA [14] (by kernel_rfl) ⟨?_, trivial⟩
              refine go tbl_ok false ?_
              conv => whnf
              (repeat (refine ⟨by first | omega | (show _ ∧ _; omega) | ((repeat (first | rw [ByteArray.size_append] | rw [bsz] | rw [List.size_toArray] | rw [List.length_cons] | rw [List.length_nil])) <;> omega) | ((repeat rw [Int.toNat_natCast]) <;> first | omega | (show _ ∧ _; omega)) | (simp only [ByteArray.size_append, bsz, List.size_toArray, List.length_cons, List.length_nil]; omega) | (simp only [Int.toNat_natCast]; first | omega | (show _ ∧ _; omega)) | decide, ?_⟩; conv => whnf))
              refine loopA ?_
              refine preA tbl_ok false 15 rfl rfl rfl (by kernel_rfl) rfl (andL_mem (by repeat' (first | exact trivial | refine ⟨?_, ?_⟩ | (show _ ∧ _; omega) | omega))) ?_
              refine splitA [16] (by kernel_rfl) ⟨?_, trivial⟩
              refine go tbl_ok false ?_
              conv => whnf
              refine storeW (j := r2.2.2) tbl_ok rfl rfl rfl rfl rfl rfl rfl rfl _ (upd_hole (j := r2.2.2.toNat) (xs := r.2.2.nodes) (e := GNode.c) (x := ⟨(r.2.2.nodes.getD r2.2.2.toNat default).kind, (r.2.2.nodes.getD r2.2.2.toNat default).a, (r.2.2.nodes.getD r2.2.2.toNat default).b, (r.2.2.nodes.getD r2.2.2.toNat default).outs ++ [r4.2.2 - 1]⟩) (by omega) rfl) (go tbl_ok false ?_)
              conv => whnf
              refine loopA ?_
              refine doneA (by kernel_rfl) (go tbl_ok false ?_)
              conv => whnf
            rotate_left 1
            focus
              refine go tbl_ok false ?_
              conv => whnf
              refine focusW tbl_ok rfl rfl rfl rfl rfl rfl (c := sInt (r.2.2.nodes.getD r2.2.2.toNat default).outs) rfl (fun v => go tbl_ok false ?_)
              conv => whnf
              refine loopA ?_
              refine splitA [1, 13] (by kernel_rfl) ⟨?_, ?_, trivial⟩
              focus
                refine go tbl_ok false ?_
                conv => whnf
                refine loopA ?_
                refine splitA [13] (by kernel_rfl) ⟨?_, trivial⟩
                refine go tbl_ok false ?_
                conv => whnf
                refine appW tbl_ok rfl rfl rfl rfl rfl rfl rfl rfl rfl rfl rfl (sInt ((r.2.2.nodes.getD r2.2.2.toNat default).outs ++ [r4.2.2 - 1])) (slC_snoc rfl) (by intro h; cases h) (by omega) (go tbl_ok false ?_)
                conv => whnf
                refine loopA ?_
                refine splitA [14] (by kernel_rfl) ⟨?_, trivial⟩
                refine go tbl_ok false ?_
                conv => whnf
                (repeat (refine ⟨by first | omega | (show _ ∧ _; omega) | ((repeat (first | rw [ByteArray.size_append] | rw [bsz] | rw [List.size_toArray] | rw [List.length_cons] | rw [List.length_nil])) <;> omega) | ((repeat rw [Int.toNat_natCast]) <;> first | omega | (show _ ∧ _; omega)) | (simp only [ByteArray.size_append, bsz, List.size_toArray, List.length_cons, List.length_nil]; omega) | (simp only [Int.toNat_natCast]; first | omega | (show _ ∧ _; omega)) | decide, ?_⟩; conv => whnf))
                refine loopA ?_
                refine preA tbl_ok false 15 rfl rfl rfl (by kernel_rfl) rfl (andL_mem (by repeat' (first | exact trivial | refine ⟨?_, ?_⟩ | (show _ ∧ _; omega) | omega))) ?_
                refine splitA [16] (by kernel_rfl) ⟨?_, trivial⟩
                refine go tbl_ok false ?_
                conv => whnf
                refine storeW (j := r2.2.2) tbl_ok rfl rfl rfl rfl rfl rfl rfl rfl _ (upd_hole (j := r2.2.2.toNat) (xs := r.2.2.nodes) (e := GNode.c) (x := ⟨(r.2.2.nodes.getD r2.2.2.toNat default).kind, (r.2.2.nodes.getD r2.2.2.toNat default).a, (r.2.2.nodes.getD r2.2.2.toNat default).b, (r.2.2.nodes.getD r2.2.2.toNat default).outs ++ [r4.2.2 - 1]⟩) (by omega) rfl) (go tbl_ok false ?_)
                conv => whnf
                refine loopA ?_
                refine doneA (by kernel_rfl) (go tbl_ok false ?_)
                conv => whnf
              rotate_left 1
              focus
                refine go tbl_ok false ?_
                conv => whnf
                refine appW tbl_ok rfl rfl rfl rfl rfl rfl rfl rfl rfl rfl rfl (sInt ((r.2.2.nodes.getD r2.2.2.toNat default).outs ++ [r4.2.2 - 1])) (slC_snoc rfl) (by intro h; cases h) (by omega) (go tbl_ok false ?_)
                conv => whnf
                refine loopA ?_
                refine splitA [1] (by kernel_rfl) ⟨?_, trivial⟩
                refine go tbl_ok false ?_
                conv => whnf
                refine loopA ?_
                refine splitA [14] (by kernel_rfl) ⟨?_, trivial⟩
                refine go tbl_ok false ?_
                conv => whnf
                (repeat (refine ⟨by first | omega | (show _ ∧ _; omega) | ((repeat (first | rw [ByteArray.size_append] | rw [bsz] | rw [List.size_toArray] | rw [List.length_cons] | rw [List.length_nil])) <;> omega) | ((repeat rw [Int.toNat_natCast]) <;> first | omega | (show _ ∧ _; omega)) | (simp only [ByteArray.size_append, bsz, List.size_toArray, List.length_cons, List.length_nil]; omega) | (simp only [Int.toNat_natCast]; first | omega | (show _ ∧ _; omega)) | decide, ?_⟩; conv => whnf))
                refine loopA ?_
                refine preA tbl_ok false 15 rfl rfl rfl (by kernel_rfl) rfl (andL_mem (by repeat' (first | exact trivial | refine ⟨?_, ?_⟩ | (show _ ∧ _; omega) | omega))) ?_
                refine splitA [16] (by kernel_rfl) ⟨?_, trivial⟩
                refine go tbl_ok false ?_
                conv => whnf
                refine storeW (j := r2.2.2) tbl_ok rfl rfl rfl rfl rfl rfl rfl rfl _ (upd_hole (j := r2.2.2.toNat) (xs := r.2.2.nodes) (e := GNode.c) (x := ⟨(r.2.2.nodes.getD r2.2.2.toNat default).kind, (r.2.2.nodes.getD r2.2.2.toNat default).a, (r.2.2.nodes.getD r2.2.2.toNat default).b, (r.2.2.nodes.getD r2.2.2.toNat default).outs ++ [r4.2.2 - 1]⟩) (by omega) rfl) (go tbl_ok false ?_)
                conv => whnf
                refine loopA ?_
                refine doneA (by kernel_rfl) (go tbl_ok false ?_)
                conv => whnf
      rotate_left 15
      focus
        refine go tbl_ok false ?_
        conv => whnf
        refine callP (curBelow d r3.1 r3.2.1 9 hr3.1 (by decide)) hH hp rfl (by repeat' (first | exact trivial | exact outC_val _ _ | exact rfl | exact .inr ⟨rfl, rfl, _, _, rfl⟩ | refine ⟨?_, ?_⟩)) rfl rfl (fun r4 hr4 => go tbl_ok false ?_)
        conv => whnf
        refine loopA ?_
        refine preA tbl_ok false 11 rfl rfl rfl (by kernel_rfl) rfl (andL_mem (by repeat' (first | exact trivial | refine ⟨?_, ?_⟩ | (show _ ∧ _; omega) | omega))) ?_
        refine splitA [1, 6, 12] (by kernel_rfl) ⟨?_, ?_, ?_, trivial⟩
        focus
          refine go tbl_ok false ?_
          conv => whnf
          refine loopA ?_
          refine splitA [6, 12] (by kernel_rfl) ⟨?_, ?_, trivial⟩
          focus
            refine go tbl_ok false ?_
            conv => whnf
            (repeat (refine ⟨by first | omega | (show _ ∧ _; omega) | ((repeat (first | rw [ByteArray.size_append] | rw [bsz] | rw [List.size_toArray] | rw [List.length_cons] | rw [List.length_nil])) <;> omega) | ((repeat rw [Int.toNat_natCast]) <;> first | omega | (show _ ∧ _; omega)) | (simp only [ByteArray.size_append, bsz, List.size_toArray, List.length_cons, List.length_nil]; omega) | (simp only [Int.toNat_natCast]; first | omega | (show _ ∧ _; omega)) | decide, ?_⟩; conv => whnf))
            refine loopA ?_
            refine preA tbl_ok false 7 rfl rfl rfl (by kernel_rfl) rfl (andL_mem (by repeat' (first | exact trivial | refine ⟨?_, ?_⟩ | (show _ ∧ _; omega) | omega))) ?_
            refine splitA [8, 12] (by kernel_rfl) ⟨?_, ?_, trivial⟩
            focus
              refine go tbl_ok false ?_
              conv => whnf
              refine focusW tbl_ok rfl rfl rfl rfl rfl rfl (c := sInt (r.2.2.nodes.getD r2.2.2.toNat default).outs) rfl (fun v => go tbl_ok false ?_)
              conv => whnf
              refine loopA ?_
              refine splitA [12] (by kernel_rfl) ⟨?_, trivial⟩
              refine go tbl_ok false ?_
              conv => whnf
              refine loopA ?_
              refine splitA [13] (by kernel_rfl) ⟨?_, trivial⟩
              refine go tbl_ok false ?_
              conv => whnf
              refine appW tbl_ok rfl rfl rfl rfl rfl rfl rfl rfl rfl rfl rfl (sInt ((r.2.2.nodes.getD r2.2.2.toNat default).outs ++ [r4.2.2 - 1])) (slC_snoc rfl) (by intro h; cases h) (by omega) (go tbl_ok false ?_)
              conv => whnf
              refine loopA ?_
              refine splitA [14] (by kernel_rfl) ⟨?_, trivial⟩
              refine go tbl_ok false ?_
              conv => whnf
              (repeat (refine ⟨by first | omega | (show _ ∧ _; omega) | ((repeat (first | rw [ByteArray.size_append] | rw [bsz] | rw [List.size_toArray] | rw [List.length_cons] | rw [List.length_nil])) <;> omega) | ((repeat rw [Int.toNat_natCast]) <;> first | omega | (show _ ∧ _; omega)) | (simp only [ByteArray.size_append, bsz, List.size_toArray, List.length_cons, List.length_nil]; omega) | (simp only [Int.toNat_natCast]; first | omega | (show _ ∧ _; omega)) | decide, ?_⟩; conv => whnf))
              refine loopA ?_
              refine preA tbl_ok false 15 rfl rfl rfl (by kernel_rfl) rfl (andL_mem (by repeat' (first | exact trivial | refine ⟨?_, ?_⟩ | (show _ ∧ _; omega) | omega))) ?_
              refine splitA [16] (by kernel_rfl) ⟨?_, trivial⟩
              refine go tbl_ok false ?_
              conv => whnf
              refine storeW (j := r2.2.2) tbl_ok rfl rfl rfl rfl rfl rfl rfl rfl _ (upd_hole (j := r2.2.2.toNat) (xs := r.2.2.nodes) (e := GNode.c) (x := ⟨(r.2.2.nodes.getD r2.2.2.toNat default).kind, (r.2.2.nodes.getD r2.2.2.toNat default).a, (r.2.2.nodes.getD r2.2.2.toNat default).b, (r.2.2.nodes.getD r2.2.2.toNat default).outs ++ [r4.2.2 - 1]⟩) (by omega) rfl) (go tbl_ok false ?_)
              conv => whnf
              refine loopA ?_
              refine doneA (by kernel_rfl) (go tbl_ok false ?_)
              conv => whnf
            rotate_left 1
            focus
              refine go tbl_ok false ?_
              conv => whnf
              refine loopA ?_
              refine splitA [8] (by kernel_rfl) ⟨?_, trivial⟩
              refine go tbl_ok false ?_
              conv => whnf
              refine focusW tbl_ok rfl rfl rfl rfl rfl rfl (c := sInt (r.2.2.nodes.getD r2.2.2.toNat default).outs) rfl (fun v => go tbl_ok false ?_)
              conv => whnf
              refine loopA ?_
              refine splitA [13] (by kernel_rfl) ⟨?_, trivial⟩
              refine go tbl_ok false ?_
              conv => whnf
              refine appW tbl_ok rfl rfl rfl rfl rfl rfl rfl rfl rfl rfl rfl (sInt ((r.2.2.nodes.getD r2.2.2.toNat default).outs ++ [r4.2.2 - 1])) (slC_snoc rfl) (by intro h; cases h) (by omega) (go tbl_ok false ?_)
              conv => whnf
              refine loopA ?_
              refine splitA [14] (by kernel_rfl) ⟨?_, trivial⟩
              refine go tbl_ok false ?_
              conv => whnf
              (repeat (refine ⟨by first | omega | (show _ ∧ _; omega) | ((repeat (first | rw [ByteArray.size_append] | rw [bsz] | rw [List.size_toArray] | rw [List.length_cons] | rw [List.length_nil])) <;> omega) | ((repeat rw [Int.toNat_natCast]) <;> first | omega | (show _ ∧ _; omega)) | (simp only [ByteArray.size_append, bsz, List.size_toArray, List.length_cons, List.length_nil]; omega) | (simp only [Int.toNat_natCast]; first | omega | (show _ ∧ _; omega)) | decide, ?_⟩; conv => whnf))
              refine loopA ?_
              refine preA tbl_ok false 15 rfl rfl rfl (by kernel_rfl) rfl (andL_mem (by repeat' (first | exact trivial | refine ⟨?_, ?_⟩ | (show _ ∧ _; omega) | omega))) ?_
              refine splitA [16] (by kernel_rfl) ⟨?_, trivial⟩
              refine go tbl_ok false ?_
              conv => whnf
              refine storeW (j := r2.2.2) tbl_ok rfl rfl rfl rfl rfl rfl rfl rfl _ (upd_hole (j := r2.2.2.toNat) (xs := r.2.2.nodes) (e := GNode.c) (x := ⟨(r.2.2.nodes.getD r2.2.2.toNat default).kind, (r.2.2.nodes.getD r2.2.2.toNat default).a, (r.2.2.nodes.getD r2.2.2.toNat default).b, (r.2.2.nodes.getD r2.2.2.toNat default).outs ++ [r4.2.2 - 1]⟩) (by omega) rfl) (go tbl_ok false ?_)
              conv => whnf
              refine loopA ?_
              refine doneA (by kernel_rfl) (go tbl_ok false ?_)
              conv => whnf
          rotate_left 2
          focus
            refine go tbl_ok false ?_
            conv => whnf
            refine loopA ?_
            refine splitA [6] (by kernel_rfl) ⟨?_, trivial⟩
            refine go tbl_ok false ?_
            conv => whnf
            (repeat (refine ⟨by first | omega | (show _ ∧ _; omega) | ((repeat (first | rw [ByteArray.size_append] | rw [bsz] | rw [List.size_toArray] | rw [List.length_cons] | rw [List.length_nil])) <;> omega) | ((repeat rw [Int.toNat_natCast]) <;> first | omega | (show _ ∧ _; omega)) | (simp only [ByteArray.size_append, bsz, List.size_toArray, List.length_cons, List.length_nil]; omega) | (simp only [Int.toNat_natCast]; first | omega | (show _ ∧ _; omega)) | decide, ?_⟩; conv => whnf))
            refine loopA ?_
            refine preA tbl_ok false 7 rfl rfl rfl (by kernel_rfl) rfl (andL_mem (by repeat' (first | exact trivial | refine ⟨?_, ?_⟩ | (show _ ∧ _; omega) | omega))) ?_
            refine splitA [8] (by kernel_rfl) ⟨?_, trivial⟩
            refine go tbl_ok false ?_
            conv => whnf
            refine focusW tbl_ok rfl rfl rfl rfl rfl rfl (c := sInt (r.2.2.nodes.getD r2.2.2.toNat default).outs) rfl (fun v => go tbl_ok false ?_)
            conv => whnf
            refine loopA ?_
            refine splitA [13] (by kernel_rfl) ⟨?_, trivial⟩
            refine go tbl_ok false ?_
            conv => whnf
            refine appW tbl_ok rfl rfl rfl rfl rfl rfl rfl rfl rfl rfl rfl (sInt ((r.2.2.nodes.getD r2.2.2.toNat default).outs ++ [r4.2.2 - 1])) (slC_snoc rfl) (by intro h; cases h) (by omega) (go tbl_ok false ?_)
            conv => whnf
            refine loopA ?_
            refine splitA [14] (by kernel_rfl) ⟨?_, trivial⟩
            refine go tbl_ok false ?_
            conv => whnf
            (repeat (refine ⟨by first | omega | (show _ ∧ _; omega) | ((repeat (first | rw [ByteArray.size_append] | rw [bsz] | rw [List.size_toArray] | rw [List.length_cons] | rw [List.length_nil])) <;> omega) | ((repeat rw [Int.toNat_natCast]) <;> first | omega | (show _ ∧ _; omega)) | (simp only [ByteArray.size_append, bsz, List.size_toArray, List.length_cons, List.length_nil]; omega) | (simp only [Int.toNat_natCast]; first | omega | (show _ ∧ _; omega)) | decide, ?_⟩; conv => whnf))
            refine loopA ?_
            refine preA tbl_ok false 15 rfl rfl rfl (by kernel_rfl) rfl (andL_mem (by repeat' (first | exact trivial | refine ⟨?_, ?_⟩ | (show _ ∧ _; omega) | omega))) ?_
            refine splitA [16] (by kernel_rfl) ⟨?_, trivial⟩
            refine go tbl_ok false ?_
            conv => whnf
            refine storeW (j := r2.2.2) tbl_ok rfl rfl rfl rfl rfl rfl rfl rfl _ (upd_hole (j := r2.2.2.toNat) (xs := r.2.2.nodes) (e := GNode.c) (x := ⟨(r.2.2.nodes.getD r2.2.2.toNat default).kind, (r.2.2.nodes.getD r2.2.2.toNat default).a, (r.2.2.nodes.getD r2.2.2.toNat default).b, (r.2.2.nodes.getD r2.2.2.toNat default).outs ++ [r4.2.2 - 1]⟩) (by omega) rfl) (go tbl_ok false ?_)
            conv => whnf
            refine loopA ?_
            refine doneA (by kernel_rfl) (go tbl_ok false ?_)
            conv => whnf
        rotate_left 3
        focus
          refine go tbl_ok false ?_
          conv => whnf
          (repeat (refine ⟨by first | omega | (show _ ∧ _; omega) | ((repeat (first | rw [ByteArray.size_append] | rw [bsz] | rw [List.size_toArray] | rw [List.length_cons] | rw [List.length_nil])) <;> omega) | ((repeat rw [Int.toNat_natCast]) <;> first | omega | (show _ ∧ _; omega)) | (simp only [ByteArray.size_append, bsz, List.size_toArray, List.length_cons, List.length_nil]; omega) | (simp only [Int.toNat_natCast]; first | omega | (show _ ∧ _; omega)) | decide, ?_⟩; conv => whnf))
          refine loopA ?_
          refine preA tbl_ok false 7 rfl rfl rfl (by kernel_rfl) rfl (andL_mem (by repeat' (first | exact trivial | refine ⟨?_, ?_⟩ | (show _ ∧ _; omega) | omega))) ?_
          refine splitA [1, 8, 12] (by kernel_rfl) ⟨?_, ?_, ?_, trivial⟩
          focus
            refine go tbl_ok false ?_
            conv => whnf
            refine loopA ?_
            refine splitA [8, 12] (by kernel_rfl) ⟨?_, ?_, trivial⟩
            focus
              refine go tbl_ok false ?_
              conv => whnf
              refine focusW tbl_ok rfl rfl rfl rfl rfl rfl (c := sInt (r.2.2.nodes.getD r2.2.2.toNat default).outs) rfl (fun v => go tbl_ok false ?_)
              conv => whnf
              refine loopA ?_
              refine splitA [12] (by kernel_rfl) ⟨?_, trivial⟩
              refine go tbl_ok false ?_
              conv => whnf
              refine loopA ?_
              refine splitA [13] (by kernel_rfl) ⟨?_, trivial⟩
              refine go tbl_ok false ?_
              conv => whnf
              refine appW tbl_ok rfl rfl rfl rfl rfl rfl rfl rfl rfl rfl rfl (sInt ((r.2.2.nodes.getD r2.2.2.toNat default).outs ++ [r4.2.2 - 1])) (slC_snoc rfl) (by intro h; cases h) (by omega) (go tbl_ok false ?_)
              conv => whnf
              refine loopA ?_
              refine splitA [14] (by kernel_rfl) ⟨?_, trivial⟩
              refine go tbl_ok false ?_
              conv => whnf
              (repeat (refine ⟨by first | omega | (show _ ∧ _; omega) | ((repeat (first | rw [ByteArray.size_append] | rw [bsz] | rw [List.size_toArray] | rw [List.length_cons] | rw [List.length_nil])) <;> omega) | ((repeat rw [Int.toNat_natCast]) <;> first | omega | (show _ ∧ _; omega)) | (simp only [ByteArray.size_append, bsz, List.size_toArray, List.length_cons, List.length_nil]; omega) | (simp only [Int.toNat_natCast]; first | omega | (show _ ∧ _; omega)) | decide, ?_⟩; conv => whnf))
              refine loopA ?_
              refine preA tbl_ok false 15 rfl rfl rfl (by kernel_rfl) rfl (andL_mem (by repeat' (first | exact trivial | refine ⟨?_, ?_⟩ | (show _ ∧ _; omega) | omega))) ?_
              refine splitA [16] (by kernel_rfl) ⟨?_, trivial⟩
              refine go tbl_ok false ?_
              conv => whnf
              refine storeW (j := r2.2.2) tbl_ok rfl rfl rfl rfl rfl rfl rfl rfl _ (upd_hole (j := r2.2.2.toNat) (xs := r.2.2.nodes) (e := GNode.c) (x := ⟨(r.2.2.nodes.getD r2.2.2.toNat default).kind, (r.2.2.nodes.getD r2.2.2.toNat default).a, (r.2.2.nodes.getD r2.2.2.toNat default).b, (r.2.2.nodes.getD r2.2.2.toNat default).outs ++ [r4.2.2 - 1]⟩) (by omega) rfl) (go tbl_ok false ?_)
              conv => whnf
              refine loopA ?_
              refine doneA (by kernel_rfl) (go tbl_ok false ?_)
              conv => whnf
            rotate_left 1
            focus
              refine go tbl_ok false ?_
              conv => whnf
              refine loopA ?_
              refine splitA [8] (by kernel_rfl) ⟨?_, trivial⟩
              refine go tbl_ok false ?_
              conv => whnf
              refine focusW tbl_ok rfl rfl rfl rfl rfl rfl (c := sInt (r.2.2.nodes.getD r2.2.2.toNat default).outs) rfl (fun v => go tbl_ok false ?_)
              conv => whnf
              refine loopA ?_
              refine splitA [13] (by kernel_rfl) ⟨?_, trivial⟩
              refine go tbl_ok false ?_
              conv => whnf
              refine appW tbl_ok rfl rfl rfl rfl rfl rfl rfl rfl rfl rfl rfl (sInt ((r.2.2.nodes.getD r2.2.2.toNat default).outs ++ [r4.2.2 - 1])) (slC_snoc rfl) (by intro h; cases h) (by omega) (go tbl_ok false ?_)
              conv => whnf
              refine loopA ?_
              refine splitA [14] (by kernel_rfl) ⟨?_, trivial⟩
              refine go tbl_ok false ?_
              conv => whnf
              (repeat (refine ⟨by first | omega | (show _ ∧ _; omega) | ((repeat (first | rw [ByteArray.size_append] | rw [bsz] | rw [List.size_toArray] | rw [List.length_cons] | rw [List.length_nil])) <;> omega) | ((repeat rw [Int.toNat_natCast]) <;> first | omega | (show _ ∧ _; omega)) | (simp only [ByteArray.size_append, bsz, List.size_toArray, List.length_cons, List.length_nil]; omega) | (simp only [Int.toNat_natCast]; first | omega | (show _ ∧ _; omega)) | decide, ?_⟩; conv => whnf))
              refine loopA ?_
              refine preA tbl_ok false 15 rfl rfl rfl (by kernel_rfl) rfl (andL_mem (by repeat' (first | exact trivial | refine ⟨?_, ?_⟩ | (show _ ∧ _; omega) | omega))) ?_
              refine splitA [16] (by kernel_rfl) ⟨?_, trivial⟩
              refine go tbl_ok false ?_
              conv => whnf
              refine storeW (j := r2.2.2) tbl_ok rfl rfl rfl rfl rfl rfl rfl rfl _ (upd_hole (j := r2.2.2.toNat) (xs := r.2.2.nodes) (e := GNode.c) (x := ⟨(r.2.2.nodes.getD r2.2.2.toNat default).kind, (r.2.2.nodes.getD r2.2.2.toNat default).a, (r.2.2.nodes.getD r2.2.2.toNat default).b, (r.2.2.nodes.getD r2.2.2.toNat default).outs ++ [r4.2.2 - 1]⟩) (by omega) rfl) (go tbl_ok false ?_)
              conv => whnf
              refine loopA ?_
              refine doneA (by kernel_rfl) (go tbl_ok false ?_)
              conv => whnf
          rotate_left 2
          focus
            refine go tbl_ok false ?_
            conv => whnf
            refine focusW tbl_ok rfl rfl rfl rfl rfl rfl (c := sInt (r.2.2.nodes.getD r2.2.2.toNat default).outs) rfl (fun v => go tbl_ok false ?_)
            conv => whnf
            refine loopA ?_
            refine splitA [1, 12] (by kernel_rfl) ⟨?_, ?_, trivial⟩
            focus
              refine go tbl_ok false ?_
              conv => whnf
              refine loopA ?_
              refine splitA [12] (by kernel_rfl) ⟨?_, trivial⟩
              refine go tbl_ok false ?_
              conv => whnf
              refine loopA ?_
              refine splitA [13] (by kernel_rfl) ⟨?_, trivial⟩
              refine go tbl_ok false ?_
              conv => whnf
              refine appW tbl_ok rfl rfl rfl rfl rfl rfl rfl rfl rfl rfl rfl (sInt ((r.2.2.nodes.getD r2.2.2.toNat default).outs ++ [r4.2.2 - 1])) (slC_snoc rfl) (by intro h; cases h) (by omega) (go tbl_ok false ?_)
              conv => whnf
              refine loopA ?_
              refine splitA [14] (by kernel_rfl) ⟨?_, trivial⟩
              refine go tbl_ok false ?_
              conv => whnf
              (repeat (refine ⟨by first | omega | (show _ ∧ _; omega) | ((repeat (first | rw [ByteArray.size_append] | rw [bsz] | rw [List.size_toArray] | rw [List.length_cons] | rw [List.length_nil])) <;> omega) | ((repeat rw [Int.toNat_natCast]) <;> first | omega | (show _ ∧ _; omega)) | (simp only [ByteArray.size_append, bsz, List.size_toArray, List.length_cons, List.length_nil]; omega) | (simp only [Int.toNat_natCast]; first | omega | (show _ ∧ _; omega)) | decide, ?_⟩; conv => whnf))
              refine loopA ?_
              refine preA tbl_ok false 15 rfl rfl rfl (by kernel_rfl) rfl (andL_mem (by repeat' (first | exact trivial | refine ⟨?_, ?_⟩ | (show _ ∧ _; omega) | omega))) ?_
              refine splitA [16] (by kernel_rfl) ⟨?_, trivial⟩
              refine go tbl_ok false ?_
              conv => whnf
              refine storeW (j := r2.2.2) tbl_ok rfl rfl rfl rfl rfl rfl rfl rfl _ (upd_hole (j := r2.2.2.toNat) (xs := r.2.2.nodes) (e := GNode.c) (x := ⟨(r.2.2.nodes.getD r2.2.2.toNat default).kind, (r.2.2.nodes.getD r2.2.2.toNat default).a, (r.2.2.nodes.getD r2.2.2.toNat default).b, (r.2.2.nodes.getD r2.2.2.toNat default).outs ++ [r4.2.2 - 1]⟩) (by omega) rfl) (go tbl_ok false ?_)
              conv => whnf
              refine loopA ?_
              refine doneA (by kernel_rfl) (go tbl_ok false ?_)
              conv => whnf
            rotate_left 1
            focus
              refine go tbl_ok false ?_
              conv => whnf
              refine loopA ?_
              refine splitA [1, 13] (by kernel_rfl) ⟨?_, ?_, trivial⟩
              focus
                refine go tbl_ok false ?_
                conv => whnf
                refine loopA ?_
                refine splitA [13] (by kernel_rfl) ⟨?_, trivial⟩
                refine go tbl_ok false ?_
                conv => whnf
                refine appW tbl_ok rfl rfl rfl rfl rfl rfl rfl rfl rfl rfl rfl (sInt ((r.2.2.nodes.getD r2.2.2.toNat default).outs ++ [r4.2.2 - 1])) (slC_snoc rfl) (by intro h; cases h) (by omega) (go tbl_ok false ?_)
                conv => whnf
                refine loopA ?_
                refine splitA [14] (by kernel_rfl) ⟨?_, trivial⟩
                refine go tbl_ok false ?_
                conv => whnf
                (repeat (refine ⟨by first | omega | (show _ ∧ _; omega) | ((repeat (first | rw [ByteArray.size_append] | rw [bsz] | rw [List.size_toArray] | rw [List.length_cons] | rw [List.length_nil])) <;> omega) | ((repeat rw [Int.toNat_natCast]) <;> first | omega | (show _ ∧ _; omega)) | (simp only [ByteArray.size_append, bsz, List.size_toArray, List.length_cons, List.length_nil]; omega) | (simp only [Int.toNat_natCast]; first | omega | (show _ ∧ _; omega)) | decide, ?_⟩; conv => whnf))
                refine loopA ?_
                refine preA tbl_ok false 15 rfl rfl rfl (by kernel_rfl) rfl (andL_mem (by repeat' (first | exact trivial | refine ⟨?_, ?_⟩ | (show _ ∧ _; omega) | omega))) ?_
                refine splitA [16] (by kernel_rfl) ⟨?_, trivial⟩
                refine go tbl_ok false ?_
                conv => whnf
                refine storeW (j := r2.2.2) tbl_ok rfl rfl rfl rfl rfl rfl rfl rfl _ (upd_hole (j := r2.2.2.toNat) (xs := r.2.2.nodes) (e := GNode.c) (x := ⟨(r.2.2.nodes.getD r2.2.2.toNat default).kind, (r.2.2.nodes.getD r2.2.2.toNat default).a, (r.2.2.nodes.getD r2.2.2.toNat default).b, (r.2.2.nodes.getD r2.2.2.toNat default).outs ++ [r4.2.2 - 1]⟩) (by omega) rfl) (go tbl_ok false ?_)
                conv => whnf
                refine loopA ?_
                refine doneA (by kernel_rfl) (go tbl_ok false ?_)
                conv => whnf
              rotate_left 1
              focus
                refine go tbl_ok false ?_
                conv => whnf
                refine appW tbl_ok rfl rfl rfl rfl rfl rfl rfl rfl rfl rfl rfl (sInt ((r.2.2.nodes.getD r2.2.2.toNat default).outs ++ [r4.2.2 - 1])) (slC_snoc rfl) (by intro h; cases h) (by omega) (go tbl_ok false ?_)
                conv => whnf
                refine loopA ?_
                refine splitA [1] (by kernel_rfl) ⟨?_, trivial⟩
                refine go tbl_ok false ?_
                conv => whnf
                refine loopA ?_
                refine splitA [14] (by kernel_rfl) ⟨?_, trivial⟩
                refine go tbl_ok false ?_
                conv => whnf
                (repeat (refine ⟨by first | omega | (show _ ∧ _; omega) | ((repeat (first | rw [ByteArray.size_append] | rw [bsz] | rw [List.size_toArray] | rw [List.length_cons] | rw [List.length_nil])) <;> omega) | ((repeat rw [Int.toNat_natCast]) <;> first | omega | (show _ ∧ _; omega)) | (simp only [ByteArray.size_append, bsz, List.size_toArray, List.length_cons, List.length_nil]; omega) | (simp only [Int.toNat_natCast]; first | omega | (show _ ∧ _; omega)) | decide, ?_⟩; conv => whnf))
                refine loopA ?_
                refine preA tbl_ok false 15 rfl rfl rfl (by kernel_rfl) rfl (andL_mem (by repeat' (first | exact trivial | refine ⟨?_, ?_⟩ | (show _ ∧ _; omega) | omega))) ?_
                refine splitA [16] (by kernel_rfl) ⟨?_, trivial⟩
                refine go tbl_ok false ?_
                conv => whnf
                refine storeW (j := r2.2.2) tbl_ok rfl rfl rfl rfl rfl rfl rfl rfl _ (upd_hole (j := r2.2.2.toNat) (xs := r.2.2.nodes) (e := GNode.c) (x := ⟨(r.2.2.nodes.getD r2.2.2.toNat default).kind, (r.2.2.nodes.getD r2.2.2.toNat default).a, (r.2.2.nodes.getD r2.2.2.toNat default).b, (r.2.2.nodes.getD r2.2.2.toNat default).outs ++ [r4.2.2 - 1]⟩) (by omega) rfl) (go tbl_ok false ?_)
                conv => whnf
                refine loopA ?_
                refine doneA (by kernel_rfl) (go tbl_ok false ?_)
                conv => whnf
          rotate_left 3
          focus
            refine go tbl_ok false ?_
            conv => whnf
            refine loopA ?_
            refine splitA [1, 8] (by kernel_rfl) ⟨?_, ?_, trivial⟩
            focus
              refine go tbl_ok false ?_
              conv => whnf
              refine loopA ?_
              refine splitA [8] (by kernel_rfl) ⟨?_, trivial⟩
              refine go tbl_ok false ?_
              conv => whnf
              refine focusW tbl_ok rfl rfl rfl rfl rfl rfl (c := sInt (r.2.2.nodes.getD r2.2.2.toNat default).outs) rfl (fun v => go tbl_ok false ?_)
              conv => whnf
              refine loopA ?_
              refine splitA [13] (by kernel_rfl) ⟨?_, trivial⟩
              refine go tbl_ok false ?_
              conv => whnf
              refine appW tbl_ok rfl rfl rfl rfl rfl rfl rfl rfl rfl rfl rfl (sInt ((r.2.2.nodes.getD r2.2.2.toNat default).outs ++ [r4.2.2 - 1])) (slC_snoc rfl) (by intro h; cases h) (by omega) (go tbl_ok false ?_)
              conv => whnf
              refine loopA ?_
              refine splitA [14] (by kernel_rfl) ⟨?_, trivial⟩
              refine go tbl_ok false ?_
              conv => whnf
              (repeat (refine ⟨by first | omega | (show _ ∧ _; omega) | ((repeat (first | rw [ByteArray.size_append] | rw [bsz] | rw [List.size_toArray] | rw [List.length_cons] | rw [List.length_nil])) <;> omega) | ((repeat rw [Int.toNat_natCast]) <;> first | omega | (show _ ∧ _; omega)) | (simp only [ByteArray.size_append, bsz, List.size_toArray, List.length_cons, List.length_nil]; omega) | (simp only [Int.toNat_natCast]; first | omega | (show _ ∧ _; omega)) | decide, ?_⟩; conv => whnf))
              refine loopA ?_
              refine preA tbl_ok false 15 rfl rfl rfl (by kernel_rfl) rfl (andL_mem (by repeat' (first | exact trivial | refine ⟨?_, ?_⟩ | (show _ ∧ _; omega) | omega))) ?_
              refine splitA [16] (by kernel_rfl) ⟨?_, trivial⟩
              refine go tbl_ok false ?_
              conv => whnf
              refine storeW (j := r2.2.2) tbl_ok rfl rfl rfl rfl rfl rfl rfl rfl _ (upd_hole (j := r2.2.2.toNat) (xs := r.2.2.nodes) (e := GNode.c) (x := ⟨(r.2.2.nodes.getD r2.2.2.toNat default).kind, (r.2.2.nodes.getD r2.2.2.toNat default).a, (r.2.2.nodes.getD r2.2.2.toNat default).b, (r.2.2.nodes.getD r2.2.2.toNat default).outs ++ [r4.2.2 - 1]⟩) (by omega) rfl) (go tbl_ok false ?_)
              conv => whnf
              refine loopA ?_
              refine doneA (by kernel_rfl) (go tbl_ok false ?_)
              conv => whnf
            rotate_left 1
            focus
              refine go tbl_ok false ?_
              conv => whnf
              refine focusW tbl_ok rfl rfl rfl rfl rfl rfl (c := sInt (r.2.2.nodes.getD r2.2.2.toNat default).outs) rfl (fun v => go tbl_ok false ?_)
              conv => whnf
              refine loopA ?_
              refine splitA [1, 13] (by kernel_rfl) ⟨?_, ?_, trivial⟩
              focus
                refine go tbl_ok false ?_
                conv => whnf
                refine loopA ?_
                refine splitA [13] (by kernel_rfl) ⟨?_, trivial⟩
                refine go tbl_ok false ?_
                conv => whnf
                refine appW tbl_ok rfl rfl rfl rfl rfl rfl rfl rfl rfl rfl rfl (sInt ((r.2.2.nodes.getD r2.2.2.toNat default).outs ++ [r4.2.2 - 1])) (slC_snoc rfl) (by intro h; cases h) (by omega) (go tbl_ok false ?_)
                conv => whnf
                refine loopA ?_
                refine splitA [14] (by kernel_rfl) ⟨?_, trivial⟩
                refine go tbl_ok false ?_
                conv => whnf
                (repeat (refine ⟨by first | omega | (show _ ∧ _; omega) | ((repeat (first | rw [ByteArray.size_append] | rw [bsz] | rw [List.size_toArray] | rw [List.length_cons] | rw [List.length_nil])) <;> omega) | ((repeat rw [Int.toNat_natCast]) <;> first | omega | (show _ ∧ _; omega)) | (simp only [ByteArray.size_append, bsz, List.size_toArray, List.length_cons, List.length_nil]; omega) | (simp only [Int.toNat_natCast]; first | omega | (show _ ∧ _; omega)) | decide, ?_⟩; conv => whnf))
                refine loopA ?_
                refine preA tbl_ok false 15 rfl rfl rfl (by kernel_rfl) rfl (andL_mem (by repeat' (first | exact trivial | refine ⟨?_, ?_⟩ | (show _ ∧ _; omega) | omega))) ?_
                refine splitA [16] (by kernel_rfl) ⟨?_, trivial⟩
                refine go tbl_ok false ?_
                conv => whnf
                refine storeW (j := r2.2.2) tbl_ok rfl rfl rfl rfl rfl rfl rfl rfl _ (upd_hole (j := r2.2.2.toNat) (xs := r.2.2.nodes) (e := GNode.c) (x := ⟨(r.2.2.nodes.getD r2.2.2.toNat default).kind, (r.2.2.nodes.getD r2.2.2.toNat default).a, (r.2.2.nodes.getD r2.2.2.toNat default).b, (r.2.2.nodes.getD r2.2.2.toNat default).outs ++ [r4.2.2 - 1]⟩) (by omega) rfl) (go tbl_ok false ?_)
                conv => whnf
                refine loopA ?_
                refine doneA (by kernel_rfl) (go tbl_ok false ?_)
                conv => whnf
              rotate_left 1
              focus
                refine go tbl_ok false ?_
                conv => whnf
                refine appW tbl_ok rfl rfl rfl rfl rfl rfl rfl rfl rfl rfl rfl (sInt ((r.2.2.nodes.getD r2.2.2.toNat default).outs ++ [r4.2.2 - 1])) (slC_snoc rfl) (by intro h; cases h) (by omega) (go tbl_ok false ?_)
                conv => whnf
                refine loopA ?_
                refine splitA [1] (by kernel_rfl) ⟨?_, trivial⟩
                refine go tbl_ok false ?_
                conv => whnf
                refine loopA ?_
                refine splitA [14] (by kernel_rfl) ⟨?_, trivial⟩
                refine go tbl_ok false ?_
                conv => whnf
                (repeat (refine ⟨by first | omega | (show _ ∧ _; omega) | ((repeat (first | rw [ByteArray.size_append] | rw [bsz] | rw [List.size_toArray] | rw [List.length_cons] | rw [List.length_nil])) <;> omega) | ((repeat rw [Int.toNat_natCast]) <;> first | omega | (show _ ∧ _; omega)) | (simp only [ByteArray.size_append, bsz, List.size_toArray, List.length_cons, List.length_nil]; omega) | (simp only [Int.toNat_natCast]; first | omega | (show _ ∧ _; omega)) | decide, ?_⟩; conv => whnf))
                refine loopA ?_
                refine preA tbl_ok false 15 rfl rfl rfl (by kernel_rfl) rfl (andL_mem (by repeat' (first | exact trivial | refine ⟨?_, ?_⟩ | (show _ ∧ _; omega) | omega))) ?_
                refine splitA [16] (by kernel_rfl) ⟨?_, trivial⟩
                refine go tbl_ok false ?_
                conv => whnf
                refine storeW (j := r2.2.2) tbl_ok rfl rfl rfl rfl rfl rfl rfl rfl _ (upd_hole (j := r2.2.2.toNat) (xs := r.2.2.nodes) (e := GNode.c) (x := ⟨(r.2.2.nodes.getD r2.2.2.toNat default).kind, (r.2.2.nodes.getD r2.2.2.toNat default).a, (r.2.2.nodes.getD r2.2.2.toNat default).b, (r.2.2.nodes.getD r2.2.2.toNat default).outs ++ [r4.2.2 - 1]⟩) (by omega) rfl) (go tbl_ok false ?_)
                conv => whnf
                refine loopA ?_
                refine doneA (by kernel_rfl) (go tbl_ok false ?_)
                conv => whnf
        rotate_left 8
        focus
          refine go tbl_ok false ?_
          conv => whnf
          refine loopA ?_
          refine splitA [1, 6] (by kernel_rfl) ⟨?_, ?_, trivial⟩
          focus
            refine go tbl_ok false ?_
            conv => whnf
            refine loopA ?_
            refine splitA [6] (by kernel_rfl) ⟨?_, trivial⟩
            refine go tbl_ok false ?_
            conv => whnf
            (repeat (refine ⟨by first | omega | (show _ ∧ _; omega) | ((repeat (first | rw [ByteArray.size_append] | rw [bsz] | rw [List.size_toArray] | rw [List.length_cons] | rw [List.length_nil])) <;> omega) | ((repeat rw [Int.toNat_natCast]) <;> first | omega | (show _ ∧ _; omega)) | (simp only [ByteArray.size_append, bsz, List.size_toArray, List.length_cons, List.length_nil]; omega) | (simp only [Int.toNat_natCast]; first | omega | (show _ ∧ _; omega)) | decide, ?_⟩; conv => whnf))
            refine loopA ?_
            refine preA tbl_ok false 7 rfl rfl rfl (by kernel_rfl) rfl (andL_mem (by repeat' (first | exact trivial | refine ⟨?_, ?_⟩ | (show _ ∧ _; omega) | omega))) ?_
            refine splitA [8] (by kernel_rfl) ⟨?_, trivial⟩
            refine go tbl_ok false ?_
            conv => whnf
            refine focusW tbl_ok rfl rfl rfl rfl rfl rfl (c := sInt (r.2.2.nodes.getD r2.2.2.toNat default).outs) rfl (fun v => go tbl_ok false ?_)
            conv => whnf
            refine loopA ?_
            refine splitA [13] (by kernel_rfl) ⟨?_, trivial⟩
            refine go tbl_ok false ?_
            conv => whnf
            refine appW tbl_ok rfl rfl rfl rfl rfl rfl rfl rfl rfl rfl rfl (sInt ((r.2.2.nodes.getD r2.2.2.toNat default).outs ++ [r4.2.2 - 1])) (slC_snoc rfl) (by intro h; cases h) (by omega) (go tbl_ok false ?_)
            conv => whnf
            refine loopA ?_
            refine splitA [14] (by kernel_rfl) ⟨?_, trivial⟩
            refine go tbl_ok false ?_
            conv => whnf
            (repeat (refine ⟨by first | omega | (show _ ∧ _; omega) | ((repeat (first | rw [ByteArray.size_append] | rw [bsz] | rw [List.size_toArray] | rw [List.length_cons] | rw [List.length_nil])) <;> omega) | ((repeat rw [Int.toNat_natCast]) <;> first | omega | (show _ ∧ _; omega)) | (simp only [ByteArray.size_append, bsz, List.size_toArray, List.length_cons, List.length_nil]; omega) | (simp only [Int.toNat_natCast]; first | omega | (show _ ∧ _; omega)) | decide, ?_⟩; conv => whnf))
            refine loopA ?_
            refine preA tbl_ok false 15 rfl rfl rfl (by kernel_rfl) rfl (andL_mem (by repeat' (first | exact trivial | refine ⟨?_, ?_⟩ | (show _ ∧ _; omega) | omega))) ?_
            refine splitA [16] (by kernel_rfl) ⟨?_, trivial⟩
            refine go tbl_ok false ?_
            conv => whnf
            refine storeW (j := r2.2.2) tbl_ok rfl rfl rfl rfl rfl rfl rfl rfl _ (upd_hole (j := r2.2.2.toNat) (xs := r.2.2.nodes) (e := GNode.c) (x := ⟨(r.2.2.nodes.getD r2.2.2.toNat default).kind, (r.2.2.nodes.getD r2.2.2.toNat default).a, (r.2.2.nodes.getD r2.2.2.toNat default).b, (r.2.2.nodes.getD r2.2.2.toNat default).outs ++ [r4.2.2 - 1]⟩) (by omega) rfl) (go tbl_ok false ?_)
            conv => whnf
            refine loopA ?_
            refine doneA (by kernel_rfl) (go tbl_ok false ?_)
            conv => whnf
          rotate_left 1
          focus
            refine go tbl_ok false ?_
            conv => whnf
            (repeat (refine ⟨by first | omega | (show _ ∧ _; omega) | ((repeat (first | rw [ByteArray.size_append] | rw [bsz] | rw [List.size_toArray] | rw [List.length_cons] | rw [List.length_nil])) <;> omega) | ((repeat rw [Int.toNat_natCast]) <;> first | omega | (show _ ∧ _; omega)) | (simp only [ByteArray.size_append, bsz, List.size_toArray, List.length_cons, List.length_nil]; omega) | (simp only [Int.toNat_natCast]; first | omega | (show _ ∧ _; omega)) | decide, ?_⟩; conv => whnf))
            refine loopA ?_
            refine preA tbl_ok false 7 rfl rfl rfl (by kernel_rfl) rfl (andL_mem (by repeat' (first | exact trivial | refine ⟨?_, ?_⟩ | (show _ ∧ _; omega) | omega))) ?_
            refine splitA [1, 8] (by kernel_rfl) ⟨?_, ?_, trivial⟩
            focus
              refine go tbl_ok false ?_
              conv => whnf
              refine loopA ?_
              refine splitA [8] (by kernel_rfl) ⟨?_, trivial⟩
              refine go tbl_ok false ?_
              conv => whnf
              refine focusW tbl_ok rfl rfl rfl rfl rfl rfl (c := sInt (r.2.2.nodes.getD r2.2.2.toNat default).outs) rfl (fun v => go tbl_ok false ?_)
              conv => whnf
              refine loopA ?_
              refine splitA [13] (by kernel_rfl) ⟨?_, trivial⟩
              refine go tbl_ok false ?_
              conv => whnf
              refine appW tbl_ok rfl rfl rfl rfl rfl rfl rfl rfl rfl rfl rfl (sInt ((r.2.2.nodes.getD r2.2.2.toNat default).outs ++ [r4.2.2 - 1])) (slC_snoc rfl) (by intro h; cases h) (by omega) (go tbl_ok false ?_)
              conv => whnf
              refine loopA ?_
              refine splitA [14] (by kernel_rfl) ⟨?_, trivial⟩
              refine go tbl_ok false ?_
              conv => whnf
              (repeat (refine ⟨by first | omega | (show _ ∧ _; omega) | ((repeat (first | rw [ByteArray.size_append] | rw [bsz] | rw [List.size_toArray] | rw [List.length_cons] | rw [List.length_nil])) <;> omega) | ((repeat rw [Int.toNat_natCast]) <;> first | omega | (show _ ∧ _; omega)) | (simp only [ByteArray.size_append, bsz, List.size_toArray, List.length_cons, List.length_nil]; omega) | (simp only [Int.toNat_natCast]; first | omega | (show _ ∧ _; omega)) | decide, ?_⟩; conv => whnf))
              refine loopA ?_
              refine preA tbl_ok false 15 rfl rfl rfl (by kernel_rfl) rfl (andL_mem (by repeat' (first | exact trivial | refine ⟨?_, ?_⟩ | (show _ ∧ _; omega) | omega))) ?_
              refine splitA [16] (by kernel_rfl) ⟨?_, trivial⟩
              refine go tbl_ok false ?_
              conv => whnf
              refine storeW (j := r2.2.2) tbl_ok rfl rfl rfl rfl rfl rfl rfl rfl _ (upd_hole (j := r2.2.2.toNat) (xs := r.2.2.nodes) (e := GNode.c) (x := ⟨(r.2.2.nodes.getD r2.2.2.toNat default).kind, (r.2.2.nodes.getD r2.2.2.toNat default).a, (r.2.2.nodes.getD r2.2.2.toNat default).b, (r.2.2.nodes.getD r2.2.2.toNat default).outs ++ [r4.2.2 - 1]⟩) (by omega) rfl) (go tbl_ok false ?_)
              conv => whnf
              refine loopA ?_
              refine doneA (by kernel_rfl) (go tbl_ok false ?_)
              conv => whnf
            rotate_left 1
            focus
              refine go tbl_ok false ?_
              conv => whnf
              refine focusW tbl_ok rfl rfl rfl rfl rfl rfl (c := sInt (r.2.2.nodes.getD r2.2.2.toNat default).outs) rfl (fun v => go tbl_ok false ?_)
              conv => whnf
              refine loopA ?_
              refine splitA [1, 13] (by kernel_rfl) ⟨?_, ?_, trivial⟩
              focus
                refine go tbl_ok false ?_
                conv => whnf
                refine loopA ?_
                refine splitA [13] (by kernel_rfl) ⟨?_, trivial⟩
                refine go tbl_ok false ?_
                conv => whnf
                refine appW tbl_ok rfl rfl rfl rfl rfl rfl rfl rfl rfl rfl rfl (sInt ((r.2.2.nodes.getD r2.2.2.toNat default).outs ++ [r4.2.2 - 1])) (slC_snoc rfl) (by intro h; cases h) (by omega) (go tbl_ok false ?_)
                conv => whnf
                refine loopA ?_
                refine splitA [14] (by kernel_rfl) ⟨?_, trivial⟩
                refine go tbl_ok false ?_
                conv => whnf
                (repeat (refine ⟨by first | omega | (show _ ∧ _; omega) | ((repeat (first | rw [ByteArray.size_append] | rw [bsz] | rw [List.size_toArray] | rw [List.length_cons] | rw [List.length_nil])) <;> omega) | ((repeat rw [Int.toNat_natCast]) <;> first | omega | (show _ ∧ _; omega)) | (simp only [ByteArray.size_append, bsz, List.size_toArray, List.length_cons, List.length_nil]; omega) | (simp only [Int.toNat_natCast]; first | omega | (show _ ∧ _; omega)) | decide, ?_⟩; conv => whnf))
                refine loopA ?_
                refine preA tbl_ok false 15 rfl rfl rfl (by kernel_rfl) rfl (andL_mem (by repeat' (first | exact trivial | refine ⟨?_, ?_⟩ | (show _ ∧ _; omega) | omega))) ?_
                refine splitA [16] (by kernel_rfl) ⟨?_, trivial⟩
                refine go tbl_ok false ?_
                conv => whnf
                refine storeW (j := r2.2.2) tbl_ok rfl rfl rfl rfl rfl rfl rfl rfl _ (upd_hole (j := r2.2.2.toNat) (xs := r.2.2.nodes) (e := GNode.c) (x := ⟨(r.2.2.nodes.getD r2.2.2.toNat default).kind, (r.2.2.nodes.getD r2.2.2.toNat default).a, (r.2.2.nodes.getD r2.2.2.toNat default).b, (r.2.2.nodes.getD r2.2.2.toNat default).outs ++ [r4.2.2 - 1]⟩) (by omega) rfl) (go tbl_ok false ?_)
                conv => whnf
                refine loopA ?_
                refine doneA (by kernel_rfl) (go tbl_ok false ?_)
                conv => whnf
              rotate_left 1
              focus
                refine go tbl_ok false ?_
                conv => whnf
                refine appW tbl_ok rfl rfl rfl rfl rfl rfl rfl rfl rfl rfl rfl (sInt ((r.2.2.nodes.getD r2.2.2.toNat default).outs ++ [r4.2.2 - 1])) (slC_snoc rfl) (by intro h; cases h) (by omega) (go tbl_ok false ?_)
                conv => whnf
                refine loopA ?_
                refine splitA [1] (by kernel_rfl) ⟨?_, trivial⟩
                refine go tbl_ok false ?_
                conv => whnf
                refine loopA ?_
                refine splitA [14] (by kernel_rfl) ⟨?_, trivial⟩
                refine go tbl_ok false ?_
                conv => whnf
                (repeat (refine ⟨by first | omega | (show _ ∧ _; omega) | ((repeat (first | rw [ByteArray.size_append] | rw [bsz] | rw [List.size_toArray] | rw [List.length_cons] | rw [List.length_nil])) <;> omega) | ((repeat rw [Int.toNat_natCast]) <;> first | omega | (show _ ∧ _; omega)) | (simp only [ByteArray.size_append, bsz, List.size_toArray, List.length_cons, List.length_nil]; omega) | (simp only [Int.toNat_natCast]; first | omega | (show _ ∧ _; omega)) | decide, ?_⟩; conv => whnf))
                refine loopA ?_
                refine preA tbl_ok false 15 rfl rfl rfl (by kernel_rfl) rfl (andL_mem (by repeat' (first | exact trivial | refine ⟨?_, ?_⟩ | (show _ ∧ _; omega) | omega))) ?_
                refine splitA [16] (by kernel_rfl) ⟨?_, trivial⟩
                refine go tbl_ok false ?_
                conv => whnf
                refine storeW (j := r2.2.2) tbl_ok rfl rfl rfl rfl rfl rfl rfl rfl _ (upd_hole (j := r2.2.2.toNat) (xs := r.2.2.nodes) (e := GNode.c) (x := ⟨(r.2.2.nodes.getD r2.2.2.toNat default).kind, (r.2.2.nodes.getD r2.2.2.toNat default).a, (r.2.2.nodes.getD r2.2.2.toNat default).b, (r.2.2.nodes.getD r2.2.2.toNat default).outs ++ [r4.2.2 - 1]⟩) (by omega) rfl) (go tbl_ok false ?_)
                conv => whnf
                refine loopA ?_
                refine doneA (by kernel_rfl) (go tbl_ok false ?_)
                conv => whnf
    rotate_left 36
    focus
      refine go tbl_ok false ?_
      conv => whnf
      refine callP (curBelow d r3.1 r3.2.1 9 hr3.1 (by decide)) hH hp rfl (by repeat' (first | exact trivial | exact outC_val _ _ | exact rfl | exact .inr ⟨rfl, rfl, _, _, rfl⟩ | refine ⟨?_, ?_⟩)) rfl rfl (fun r4 hr4 => go tbl_ok false ?_)
      conv => whnf
      refine loopA ?_
      refine preA tbl_ok false 11 rfl rfl rfl (by kernel_rfl) rfl (andL_mem (by repeat' (first | exact trivial | refine ⟨?_, ?_⟩ | (show _ ∧ _; omega) | omega))) ?_
      refine splitA [1, 4, 12] (by kernel_rfl) ⟨?_, ?_, ?_, trivial⟩
      focus
        refine go tbl_ok false ?_
        conv => whnf
        refine loopA ?_
        refine splitA [4, 12] (by kernel_rfl) ⟨?_, ?_, trivial⟩
        focus
          refine go tbl_ok false ?_
          conv => whnf
          refine loopA ?_
          refine splitA [6, 12] (by kernel_rfl) ⟨?_, ?_, trivial⟩
          focus
            refine go tbl_ok false ?_
            conv => whnf
            (repeat (refine ⟨by first | omega | (show _ ∧ _; omega) | ((repeat (first | rw [ByteArray.size_append] | rw [bsz] | rw [List.size_toArray] | rw [List.length_cons] | rw [List.length_nil])) <;> omega) | ((repeat rw [Int.toNat_natCast]) <;> first | omega | (show _ ∧ _; omega)) | (simp only [ByteArray.size_append, bsz, List.size_toArray, List.length_cons, List.length_nil]; omega) | (simp only [Int.toNat_natCast]; first | omega | (show _ ∧ _; omega)) | decide, ?_⟩; conv => whnf))
            refine loopA ?_
            refine preA tbl_ok false 7 rfl rfl rfl (by kernel_rfl) rfl (andL_mem (by repeat' (first | exact trivial | refine ⟨?_, ?_⟩ | (show _ ∧ _; omega) | omega))) ?_
            refine splitA [8, 12] (by kernel_rfl) ⟨?_, ?_, trivial⟩
            focus
              refine go tbl_ok false ?_
              conv => whnf
              refine focusW tbl_ok rfl rfl rfl rfl rfl rfl (c := sInt (r.2.2.nodes.getD r2.2.2.toNat default).outs) rfl (fun v => go tbl_ok false ?_)
              conv => whnf
              refine loopA ?_
              refine splitA [12] (by kernel_rfl) ⟨?_, trivial⟩
              refine go tbl_ok false ?_
              conv => whnf
              refine loopA ?_
              refine splitA [13] (by kernel_rfl) ⟨?_, trivial⟩
              refine go tbl_ok false ?_
              conv => whnf
              refine appW tbl_ok rfl rfl rfl rfl rfl rfl rfl rfl rfl rfl rfl (sInt ((r.2.2.nodes.getD r2.2.2.toNat default).outs ++ [r4.2.2 - 1])) (slC_snoc rfl) (by intro h; cases h) (by omega) (go tbl_ok false ?_)
              conv => whnf
              refine loopA ?_
              refine splitA [14] (by kernel_rfl) ⟨?_, trivial⟩
              refine go tbl_ok false ?_
              conv => whnf
              (repeat (refine ⟨by first | omega | (show _ ∧ _; omega) | ((repeat (first | rw [ByteArray.size_append] | rw [bsz] | rw [List.size_toArray] | rw [List.length_cons] | rw [List.length_nil])) <;> omega) | ((repeat rw [Int.toNat_natCast]) <;> first | omega | (show _ ∧ _; omega)) | (simp only [ByteArray.size_append, bsz, List.size_toArray, List.length_cons, List.length_nil]; omega) | (simp only [Int.toNat_natCast]; first | omega | (show _ ∧ _; omega)) | decide, ?_⟩; conv => whnf))
              refine loopA ?_
              refine preA tbl_ok false 15 rfl rfl rfl (by kernel_rfl) rfl (andL_mem (by repeat' (first | exact trivial | refine ⟨?_, ?_⟩ | (show _ ∧ _; omega) | omega))) ?_
              refine splitA [16] (by kernel_rfl) ⟨?_, trivial⟩
              refine go tbl_ok false ?_
              conv => whnf
              refine storeW (j := r2.2.2) tbl_ok rfl rfl rfl rfl rfl rfl rfl rfl _ (upd_hole (j := r2.2.2.toNat) (xs := r.2.2.nodes) (e := GNode.c) (x := ⟨(r.2.2.nodes.getD r2.2.2.toNat default).kind, (r.2.2.nodes.getD r2.2.2.toNat default).a, (r.2.2.nodes.getD r2.2.2.toNat default).b, (r.2.2.nodes.getD r2.2.2.toNat default).outs ++ [r4.2.2 - 1]⟩) (by omega) rfl) (go tbl_ok false ?_)
              conv => whnf
              refine loopA ?_
              refine doneA (by kernel_rfl) (go tbl_ok false ?_)
              conv => whnf
            rotate_left 1
            focus
              refine go tbl_ok false ?_
              conv => whnf
              refine loopA ?_
              refine splitA [8] (by kernel_rfl) ⟨?_, trivial⟩
              refine go tbl_ok false ?_
              conv => whnf
              refine focusW tbl_ok rfl rfl rfl rfl rfl rfl (c := sInt (r.2.2.nodes.getD r2.2.2.toNat default).outs) rfl (fun v => go tbl_ok false ?_)
              conv => whnf
              refine loopA ?_
              refine splitA [13] (by kernel_rfl) ⟨?_, trivial⟩
              refine go tbl_ok false ?_
              conv => whnf
              refine appW tbl_ok rfl rfl rfl rfl rfl rfl rfl rfl rfl rfl rfl (sInt ((r.2.2.nodes.getD r2.2.2.toNat default).outs ++ [r4.2.2 - 1])) (slC_snoc rfl) (by intro h; cases h) (by omega) (go tbl_ok false ?_)
              conv => whnf
              refine loopA ?_
              refine splitA [14] (by kernel_rfl) ⟨?_, trivial⟩
              refine go tbl_ok false ?_
              conv => whnf
              (repeat (refine ⟨by first | omega | (show _ ∧ _; omega) | ((repeat (first | rw [ByteArray.size_append] | rw [bsz] | rw [List.size_toArray] | rw [List.length_cons] | rw [List.length_nil])) <;> omega) | ((repeat rw [Int.toNat_natCast]) <;> first | omega | (show _ ∧ _; omega)) | (simp only [ByteArray.size_append, bsz, List.size_toArray, List.length_cons, List.length_nil]; omega) | (simp only [Int.toNat_natCast]; first | omega | (show _ ∧ _; omega)) | decide, ?_⟩; conv => whnf))
              refine loopA ?_
              refine preA tbl_ok false 15 rfl rfl rfl (by kernel_rfl) rfl (andL_mem (by repeat' (first | exact trivial | refine ⟨?_, ?_⟩ | (show _ ∧ _; omega) | omega))) ?_
              refine splitA [16] (by kernel_rfl) ⟨?_, trivial⟩
              refine go tbl_ok false ?_
              conv => whnf
              refine storeW (j := r2.2.2) tbl_ok rfl rfl rfl rfl rfl rfl rfl rfl _ (upd_hole (j := r2.2.2.toNat) (xs := r.2.2.nodes) (e := GNode.c) (x := ⟨(r.2.2.nodes.getD r2.2.2.toNat default).kind, (r.2.2.nodes.getD r2.2.2.toNat default).a, (r.2.2.nodes.getD r2.2.2.toNat default).b, (r.2.2.nodes.getD r2.2.2.toNat default).outs ++ [r4.2.2 - 1]⟩) (by omega) rfl) (go tbl_ok false ?_)
              conv => whnf
              refine loopA ?_
              refine doneA (by kernel_rfl) (go tbl_ok false ?_)
              conv => whnf
          rotate_left 2
          focus
            refine go tbl_ok false ?_
            conv => whnf
            refine loopA ?_
            refine splitA [6] (by kernel_rfl) ⟨?_, trivial⟩
            refine go tbl_ok false ?_
            conv => whnf
            (repeat (refine ⟨by first | omega | (show _ ∧ _; omega) | ((repeat (first | rw [ByteArray.size_append] | rw [bsz] | rw [List.size_toArray] | rw [List.length_cons] | rw [List.length_nil])) <;> omega) | ((repeat rw [Int.toNat_natCast]) <;> first | omega | (show _ ∧ _; omega)) | (simp only [ByteArray.size_append, bsz, List.size_toArray, List.length_cons, List.length_nil]; omega) | (simp only [Int.toNat_natCast]; first | omega | (show _ ∧ _; omega)) | decide, ?_⟩; conv => whnf))
            refine loopA ?_
            refine preA tbl_ok false 7 rfl rfl rfl (by kernel_rfl) rfl (andL_mem (by repeat' (first | exact trivial | refine ⟨?_, ?_⟩ | (show _ ∧ _; omega) | omega))) ?_
            refine splitA [8] (by kernel_rfl) ⟨?_, trivial⟩
            refine go tbl_ok false ?_
            conv => whnf
            refine focusW tbl_ok rfl rfl rfl rfl rfl rfl (c := sInt (r.2.2.nodes.getD r2.2.2.toNat default).outs) rfl (fun v => go tbl_ok false ?_)
            conv => whnf
            refine loopA ?_
            refine splitA [13] (by kernel_rfl) ⟨?_, trivial⟩
            refine go tbl_ok false ?_
            conv => whnf
            refine appW tbl_ok rfl rfl rfl rfl rfl rfl rfl rfl rfl rfl rfl (sInt ((r.2.2.nodes.getD r2.2.2.toNat default).outs ++ [r4.2.2 - 1])) (slC_snoc rfl) (by intro h; cases h) (by omega) (go tbl_ok false ?_)
            conv => whnf
            refine loopA ?_
            refine splitA [14] (by kernel_rfl) ⟨?_, trivial⟩
            refine go tbl_ok false ?_
            conv => whnf
            (repeat (refine ⟨by first | omega | (show _ ∧ _; omega) | ((repeat (first | rw [ByteArray.size_append] | rw [bsz] | rw [List.size_toArray] | rw [List.length_cons] | rw [List.length_nil])) <;> omega) | ((repeat rw [Int.toNat_natCast]) <;> first | omega | (show _ ∧ _; omega)) | (simp only [ByteArray.size_append, bsz, List.size_toArray, List.length_cons, List.length_nil]; omega) | (simp only [Int.toNat_natCast]; first | omega | (show _ ∧ _; omega)) | decide, ?_⟩; conv => whnf))
            refine loopA ?_
            refine preA tbl_ok false 15 rfl rfl rfl (by kernel_rfl) rfl (andL_mem (by repeat' (first | exact trivial | refine ⟨?_, ?_⟩ | (show _ ∧ _; omega) | omega))) ?_
            refine splitA [16] (by kernel_rfl) ⟨?_, trivial⟩
            refine go tbl_ok false ?_
            conv => whnf
            refine storeW (j := r2.2.2) tbl_ok rfl rfl rfl rfl rfl rfl rfl rfl _ (upd_hole (j := r2.2.2.toNat) (xs := r.2.2.nodes) (e := GNode.c) (x := ⟨(r.2.2.nodes.getD r2.2.2.toNat default).kind, (r.2.2.nodes.getD r2.2.2.toNat default).a, (r.2.2.nodes.getD r2.2.2.toNat default).b, (r.2.2.nodes.getD r2.2.2.toNat default).outs ++ [r4.2.2 - 1]⟩) (by omega) rfl) (go tbl_ok false ?_)
            conv => whnf
            refine loopA ?_
            refine doneA (by kernel_rfl) (go tbl_ok false ?_)
            conv => whnf
        rotate_left 3
        focus
          refine go tbl_ok false ?_
          conv => whnf
          refine loopA ?_
          refine splitA [4] (by kernel_rfl) ⟨?_, trivial⟩
          refine go tbl_ok false ?_
          conv => whnf
          refine loopA ?_
          refine splitA [6] (by kernel_rfl) ⟨?_, trivial⟩
          refine go tbl_ok false ?_
          conv => whnf
          (repeat (refine ⟨by first | omega | (show _ ∧ _; omega) | ((repeat (first | rw [ByteArray.size_append] | rw [bsz] | rw [List.size_toArray] | rw [List.length_cons] | rw [List.length_nil])) <;> omega) | ((repeat rw [Int.toNat_natCast]) <;> first | omega | (show _ ∧ _; omega)) | (simp only [ByteArray.size_append, bsz, List.size_toArray, List.length_cons, List.length_nil]; omega) | (simp only [Int.toNat_natCast]; first | omega | (show _ ∧ _; omega)) | decide, ?_⟩; conv => whnf))
          refine loopA ?_
          refine preA tbl_ok false 7 rfl rfl rfl (by kernel_rfl) rfl (andL_mem (by repeat' (first | exact trivial | refine ⟨?_, ?_⟩ | (show _ ∧ _; omega) | omega))) ?_
          refine splitA [8] (by kernel_rfl) ⟨?_, trivial⟩
          refine go tbl_ok false ?_
          conv => whnf
          refine focusW tbl_ok rfl rfl rfl rfl rfl rfl (c := sInt (r.2.2.nodes.getD r2.2.2.toNat default).outs) rfl (fun v => go tbl_ok false ?_)
          conv => whnf
          refine loopA ?_
          refine splitA [13] (by kernel_rfl) ⟨?_, trivial⟩
          refine go tbl_ok false ?_
          conv => whnf
          refine appW tbl_ok rfl rfl rfl rfl rfl rfl rfl rfl rfl rfl rfl (sInt ((r.2.2.nodes.getD r2.2.2.toNat default).outs ++ [r4.2.2 - 1])) (slC_snoc rfl) (by intro h; cases h) (by omega) (go tbl_ok false ?_)
          conv => whnf
          refine loopA ?_
          refine splitA [14] (by kernel_rfl) ⟨?_, trivial⟩
          refine go tbl_ok false ?_
          conv => whnf
          (repeat (refine ⟨by first | omega | (show _ ∧ _; omega) | ((repeat (first | rw [ByteArray.size_append] | rw [bsz] | rw [List.size_toArray] | rw [List.length_cons] | rw [List.length_nil])) <;> omega) | ((repeat rw [Int.toNat_natCast]) <;> first | omega | (show _ ∧ _; omega)) | (simp only [ByteArray.size_append, bsz, List.size_toArray, List.length_cons, List.length_nil]; omega) | (simp only [Int.toNat_natCast]; first | omega | (show _ ∧ _; omega)) | decide, ?_⟩; conv => whnf))
          refine loopA ?_
          refine preA tbl_ok false 15 rfl rfl rfl (by kernel_rfl) rfl (andL_mem (by repeat' (first | exact trivial | refine ⟨?_, ?_⟩ | (show _ ∧ _; omega) | omega))) ?_
          refine splitA [16] (by kernel_rfl) ⟨?_, trivial⟩
          refine go tbl_ok false ?_
          conv => whnf
          refine storeW (j := r2.2.2) tbl_ok rfl rfl rfl rfl rfl rfl rfl rfl _ (upd_hole (j := r2.2.2.toNat) (xs := r.2.2.nodes) (e := GNode.c) (x := ⟨(r.2.2.nodes.getD r2.2.2.toNat default).kind, (r.2.2.nodes.getD r2.2.2.toNat default).a, (r.2.2.nodes.getD r2.2.2.toNat default).b, (r.2.2.nodes.getD r2.2.2.toNat default).outs ++ [r4.2.2 - 1]⟩) (by omega) rfl) (go tbl_ok false ?_)
          conv => whnf
          refine loopA ?_
          refine doneA (by kernel_rfl) (go tbl_ok false ?_)
          conv => whnf
      rotate_left 4
      focus
        refine go tbl_ok false ?_
        conv => whnf
        refine loopA ?_
        refine splitA [1, 6, 12] (by kernel_rfl) ⟨?_, ?_, ?_, trivial⟩
        focus
          refine go tbl_ok false ?_
          conv => whnf
          refine loopA ?_
          refine splitA [6, 12] (by kernel_rfl) ⟨?_, ?_, trivial⟩
          focus
            refine go tbl_ok false ?_
            conv => whnf
            (repeat (refine ⟨by first | omega | (show _ ∧ _; omega) | ((repeat (first | rw [ByteArray.size_append] | rw [bsz] | rw [List.size_toArray] | rw [List.length_cons] | rw [List.length_nil])) <;> omega) | ((repeat rw [Int.toNat_natCast]) <;> first | omega | (show _ ∧ _; omega)) | (simp only [ByteArray.size_append, bsz, List.size_toArray, List.length_cons, List.length_nil]; omega) | (simp only [Int.toNat_natCast]; first | omega | (show _ ∧ _; omega)) | decide, ?_⟩; conv => whnf))
            refine loopA ?_
            refine preA tbl_ok false 7 rfl rfl rfl (by kernel_rfl) rfl (andL_mem (by repeat' (first | exact trivial | refine ⟨?_, ?_⟩ | (show _ ∧ _; omega) | omega))) ?_
            refine splitA [8, 12] (by kernel_rfl) ⟨?_, ?_, trivial⟩
            focus
              refine go tbl_ok false ?_
              conv => whnf
              refine focusW tbl_ok rfl rfl rfl rfl rfl rfl (c := sInt (r.2.2.nodes.getD r2.2.2.toNat default).outs) rfl (fun v => go tbl_ok false ?_)
              conv => whnf
              refine loopA ?_
              refine splitA [12] (by kernel_rfl) ⟨?_, trivial⟩
              refine go tbl_ok false ?_
              conv => whnf
              refine loopA ?_
              refine splitA [13] (by kernel_rfl) ⟨?_, trivial⟩
              refine go tbl_ok false ?_
              conv => whnf
              refine appW tbl_ok rfl rfl rfl rfl rfl rfl rfl rfl rfl rfl rfl (sInt ((r.2.2.nodes.getD r2.2.2.toNat default).outs ++ [r4.2.2 - 1])) (slC_snoc rfl) (by intro h; cases h) (by omega) (go tbl_ok false ?_)
              conv => whnf
              refine loopA ?_
              refine splitA [14] (by kernel_rfl) ⟨?_, trivial⟩
              refine go tbl_ok false ?_
              conv => whnf
              (repeat (refine ⟨by first | omega | (show _ ∧ _; omega) | ((repeat (first | rw [ByteArray.size_append] | rw [bsz] | rw [List.size_toArray] | rw [List.length_cons] | rw [List.length_nil])) <;> omega) | ((repeat rw [Int.toNat_natCast]) <;> first | omega | (show _ ∧ _; omega)) | (simp only [ByteArray.size_append, bsz, List.size_toArray, List.length_cons, List.length_nil]; omega) | (simp only [Int.toNat_natCast]; first | omega | (show _ ∧ _; omega)) | decide, ?_⟩; conv => whnf))
              refine loopA ?_
              refine preA tbl_ok false 15 rfl rfl rfl (by kernel_rfl) rfl (andL_mem (by repeat' (first | exact trivial | refine ⟨?_, ?_⟩ | (show _ ∧ _; omega) | omega))) ?_
              refine splitA [16] (by kernel_rfl) ⟨?_, trivial⟩
              refine go tbl_ok false ?_
              conv => whnf
              refine storeW (j := r2.2.2) tbl_ok rfl rfl rfl rfl rfl rfl rfl rfl _ (upd_hole (j := r2.2.2.toNat) (xs := r.2.2.nodes) (e := GNode.c) (x := ⟨(r.2.2.nodes.getD r2.2.2.toNat default).kind, (r.2.2.nodes.getD r2.2.2.toNat default).a, (r.2.2.nodes.getD r2.2.2.toNat default).b, (r.2.2.nodes.getD r2.2.2.toNat default).outs ++ [r4.2.2 - 1]⟩) (by omega) rfl) (go tbl_ok false ?_)
              conv => whnf
              refine loopA ?_
              refine doneA (by kernel_rfl) (go tbl_ok false ?_)
              conv => whnf
            rotate_left 1
            focus
              refine go tbl_ok false ?_
              conv => whnf
              refine loopA ?_
              refine splitA [8] (by kernel_rfl) ⟨?_, trivial⟩
              refine go tbl_ok false ?_
              conv => whnf
              refine focusW tbl_ok rfl rfl rfl rfl rfl rfl (c := sInt (r.2.2.nodes.getD r2.2.2.toNat default).outs) rfl (fun v => go tbl_ok false ?_)
              conv => whnf
              refine loopA ?_
              refine splitA [13] (by kernel_rfl) ⟨?_, trivial⟩
              refine go tbl_ok false ?_
              conv => whnf
              refine appW tbl_ok rfl rfl rfl rfl rfl rfl rfl rfl rfl rfl rfl (sInt ((r.2.2.nodes.getD r2.2.2.toNat default).outs ++ [r4.2.2 - 1])) (slC_snoc rfl) (by intro h; cases h) (by omega) (go tbl_ok false ?_)
              conv => whnf
              refine loopA ?_
              refine splitA [14] (by kernel_rfl) ⟨?_, trivial⟩
              refine go tbl_ok false ?_
              conv => whnf
              (repeat (refine ⟨by first | omega | (show _ ∧ _; omega) | ((repeat (first | rw [ByteArray.size_append] | rw [bsz] | rw [List.size_toArray] | rw [List.length_cons] | rw [List.length_nil])) <;> omega) | ((repeat rw [Int.toNat_natCast]) <;> first | omega | (show _ ∧ _; omega)) | (simp only [ByteArray.size_append, bsz, List.size_toArray, List.length_cons, List.length_nil]; omega) | (simp only [Int.toNat_natCast]; first | omega | (show _ ∧ _; omega)) | decide, ?_⟩; conv => whnf))
              refine loopA ?_
              refine preA tbl_ok false 15 rfl rfl rfl (by kernel_rfl) rfl (andL_mem (by repeat' (first | exact trivial | refine ⟨?_, ?_⟩ | (show _ ∧ _; omega) | omega))) ?_
              refine splitA [16] (by kernel_rfl) ⟨?_, trivial⟩
              refine go tbl_ok false ?_
              conv => whnf
              refine storeW (j := r2.2.2) tbl_ok rfl rfl rfl rfl rfl rfl rfl rfl _ (upd_hole (j := r2.2.2.toNat) (xs := r.2.2.nodes) (e := GNode.c) (x := ⟨(r.2.2.nodes.getD r2.2.2.toNat default).kind, (r.2.2.nodes.getD r2.2.2.toNat default).a, (r.2.2.nodes.getD r2.2.2.toNat default).b, (r.2.2.nodes.getD r2.2.2.toNat default).outs ++ [r4.2.2 - 1]⟩) (by omega) rfl) (go tbl_ok false ?_)
              conv => whnf
              refine loopA ?_
              refine doneA (by kernel_rfl) (go tbl_ok false ?_)
              conv => whnf
          rotate_left 2
          focus
            refine go tbl_ok false ?_
            conv => whnf
            refine loopA ?_
            refine splitA [6] (by kernel_rfl) ⟨?_, trivial⟩
            refine go tbl_ok false ?_
            conv => whnf
            (repeat (refine ⟨by first | omega | (show _ ∧ _; omega) | ((repeat (first | rw [ByteArray.size_append] | rw [bsz] | rw [List.size_toArray] | rw [List.length_cons] | rw [List.length_nil])) <;> omega) | ((repeat rw [Int.toNat_natCast]) <;> first | omega | (show _ ∧ _; omega)) | (simp only [ByteArray.size_append, bsz, List.size_toArray, List.length_cons, List.length_nil]; omega) | (simp only [Int.toNat_natCast]; first | omega | (show _ ∧ _; omega)) | decide, ?_⟩; conv => whnf))
            refine loopA ?_
            refine preA tbl_ok false 7 rfl rfl rfl (by kernel_rfl) rfl (andL_mem (by repeat' (first | exact trivial | refine ⟨?_, ?_⟩ | (show _ ∧ _; omega) | omega))) ?_
            refine splitA [8] (by kernel_rfl) ⟨?_, trivial⟩
            refine go tbl_ok false ?_
            conv => whnf
            refine focusW tbl_ok rfl rfl rfl rfl rfl rfl (c := sInt (r.2.2.nodes.getD r2.2.2.toNat default).outs) rfl (fun v => go tbl_ok false ?_)
            conv => whnf
            refine loopA ?_
            refine splitA [13] (by kernel_rfl) ⟨?_, trivial⟩
            refine go tbl_ok false ?_
            conv => whnf
            refine appW tbl_ok rfl rfl rfl rfl rfl rfl rfl rfl rfl rfl rfl (sInt ((r.2.2.nodes.getD r2.2.2.toNat default).outs ++ [r4.2.2 - 1])) (slC_snoc rfl) (by intro h; cases h) (by omega) (go tbl_ok false ?_)
            conv => whnf
            refine loopA ?_
            refine splitA [14] (by kernel_rfl) ⟨?_, trivial⟩
            refine go tbl_ok false ?_
            conv => whnf
            (repeat (refine ⟨by first | omega | (show _ ∧ _; omega) | ((repeat (first | rw [ByteArray.size_append] | rw [bsz] | rw [List.size_toArray] | rw [List.length_cons] | rw [List.length_nil])) <;> omega) | ((repeat rw [Int.toNat_natCast]) <;> first | omega | (show _ ∧ _; omega)) | (simp only [ByteArray.size_append, bsz, List.size_toArray, List.length_cons, List.length_nil]; omega) | (simp only [Int.toNat_natCast]; first | omega | (show _ ∧ _; omega)) | decide, ?_⟩; conv => whnf))
            refine loopA ?_
            refine preA tbl_ok false 15 rfl rfl rfl (by kernel_rfl) rfl (andL_mem (by repeat' (first | exact trivial | refine ⟨?_, ?_⟩ | (show _ ∧ _; omega) | omega))) ?_
            refine splitA [16] (by kernel_rfl) ⟨?_, trivial⟩
            refine go tbl_ok false ?_
            conv => whnf
            refine storeW (j := r2.2.2) tbl_ok rfl rfl rfl rfl rfl rfl rfl rfl _ (upd_hole (j := r2.2.2.toNat) (xs := r.2.2.nodes) (e := GNode.c) (x := ⟨(r.2.2.nodes.getD r2.2.2.toNat default).kind, (r.2.2.nodes.getD r2.2.2.toNat default).a, (r.2.2.nodes.getD r2.2.2.toNat default).b, (r.2.2.nodes.getD r2.2.2.toNat default).outs ++ [r4.2.2 - 1]⟩) (by omega) rfl) (go tbl_ok false ?_)
            conv => whnf
            refine loopA ?_
            refine doneA (by kernel_rfl) (go tbl_ok false ?_)
            conv => whnf
        rotate_left 3
        focus
          refine go tbl_ok false ?_
          conv => whnf
          (repeat (refine ⟨by first | omega | (show _ ∧ _; omega) | ((repeat (first | rw [ByteArray.size_append] | rw [bsz] | rw [List.size_toArray] | rw [List.length_cons] | rw [List.length_nil])) <;> omega) | ((repeat rw [Int.toNat_natCast]) <;> first | omega | (show _ ∧ _; omega)) | (simp only [ByteArray.size_append, bsz, List.size_toArray, List.length_cons, List.length_nil]; omega) | (simp only [Int.toNat_natCast]; first | omega | (show _ ∧ _; omega)) | decide, ?_⟩; conv => whnf))
          refine loopA ?_
          refine preA tbl_ok false 7 rfl rfl rfl (by kernel_rfl) rfl (andL_mem (by repeat' (first | exact trivial | refine ⟨?_, ?_⟩ | (show _ ∧ _; omega) | omega))) ?_
          refine splitA [1, 8, 12] (by kernel_rfl) ⟨?_, ?_, ?_, trivial⟩
          focus
            refine go tbl_ok false ?_
            conv => whnf
            refine loopA ?_
            refine splitA [8, 12] (by kernel_rfl) ⟨?_, ?_, trivial⟩
            focus
              refine go tbl_ok false ?_
              conv => whnf
              refine focusW tbl_ok rfl rfl rfl rfl rfl rfl (c := sInt (r.2.2.nodes.getD r2.2.2.toNat default).outs) rfl (fun v => go tbl_ok false ?_)
              conv => whnf
              refine loopA ?_
              refine splitA [12] (by kernel_rfl) ⟨?_, trivial⟩
              refine go tbl_ok false ?_
              conv => whnf
              refine loopA ?_
              refine splitA [13] (by kernel_rfl) ⟨?_, trivial⟩
              refine go tbl_ok false ?_
              conv => whnf
              refine appW tbl_ok rfl rfl rfl rfl rfl rfl rfl rfl rfl rfl rfl (sInt ((r.2.2.nodes.getD r2.2.2.toNat default).outs ++ [r4.2.2 - 1])) (slC_snoc rfl) (by intro h; cases h) (by omega) (go tbl_ok false ?_)
              conv => whnf
              refine loopA ?_
              refine splitA [14] (by kernel_rfl) ⟨?_, trivial⟩
              refine go tbl_ok false ?_
              conv => whnf
              (repeat (refine ⟨by first | omega | (show _ ∧ _; omega) | ((repeat (first | rw [ByteArray.size_append] | rw [bsz] | rw [List.size_toArray] | rw [List.length_cons] | rw [List.length_nil])) <;> omega) | ((repeat rw [Int.toNat_natCast]) <;> first | omega | (show _ ∧ _; omega)) | (simp only [ByteArray.size_append, bsz, List.size_toArray, List.length_cons, List.length_nil]; omega) | (simp only [Int.toNat_natCast]; first | omega | (show _ ∧ _; omega)) | decide, ?_⟩; conv => whnf))
              refine loopA ?_
              refine preA tbl_ok false 15 rfl rfl rfl (by kernel_rfl) rfl (andL_mem (by repeat' (first | exact trivial | refine ⟨?_, ?_⟩ | (show _ ∧ _; omega) | omega))) ?_
              refine splitA [16] (by kernel_rfl) ⟨?_, trivial⟩
              refine go tbl_ok false ?_
              conv => whnf
              refine storeW (j := r2.2.2) tbl_ok rfl rfl rfl rfl rfl rfl rfl rfl _ (upd_hole (j := r2.2.2.toNat) (xs := r.2.2.nodes) (e := GNode.c) (x := ⟨(r.2.2.nodes.getD r2.2.2.toNat default).kind, (r.2.2.nodes.getD r2.2.2.toNat default).a, (r.2.2.nodes.getD r2.2.2.toNat default).b, (r.2.2.nodes.getD r2.2.2.toNat default).outs ++ [r4.2.2 - 1]⟩) (by omega) rfl) (go tbl_ok false ?_)
              conv => whnf
              refine loopA ?_
              refine doneA (by kernel_rfl) (go tbl_ok false ?_)
              conv => whnf
            rotate_left 1
            focus
              refine go tbl_ok false ?_
              conv => whnf
              refine loopA ?_
              refine splitA [8] (by kernel_rfl) ⟨?_, trivial⟩
              refine go tbl_ok false ?_
              conv => whnf
              refine focusW tbl_ok rfl rfl rfl rfl rfl rfl (c := sInt (r.2.2.nodes.getD r2.2.2.toNat default).outs) rfl (fun v => go tbl_ok false ?_)
              conv => whnf
              refine loopA ?_
              refine splitA [13] (by kernel_rfl) ⟨?_, trivial⟩
              refine go tbl_ok false ?_
              conv => whnf
              refine appW tbl_ok rfl rfl rfl rfl rfl rfl rfl rfl rfl rfl rfl (sInt ((r.2.2.nodes.getD r2.2.2.toNat default).outs ++ [r4.2.2 - 1])) (slC_snoc rfl) (by intro h; cases h) (by omega) (go tbl_ok false ?_)
              conv => whnf
              refine loopA ?_
              refine splitA [14] (by kernel_rfl) ⟨?_, trivial⟩
              refine go tbl_ok false ?_
              conv => whnf
              (repeat (refine ⟨by first | omega | (show _ ∧ _; omega) | ((repeat (first | rw [ByteArray.size_append] | rw [bsz] | rw [List.size_toArray] | rw [List.length_cons] | rw [List.length_nil])) <;> omega) | ((repeat rw [Int.toNat_natCast]) <;> first | omega | (show _ ∧ _; omega)) | (simp only [ByteArray.size_append, bsz, List.size_toArray, List.length_cons, List.length_nil]; omega) | (simp only [Int.toNat_natCast]; first | omega | (show _ ∧ _; omega)) | decide, ?_⟩; conv => whnf))
              refine loopA ?_
              refine preA tbl_ok false 15 rfl rfl rfl (by kernel_rfl) rfl (andL_mem (by repeat' (first | exact trivial | refine ⟨?_, ?_⟩ | (show _ ∧ _; omega) | omega))) ?_
              refine splitA [16] (by kernel_rfl) ⟨?_, trivial⟩
              refine go tbl_ok false ?_
              conv => whnf
              refine storeW (j := r2.2.2) tbl_ok rfl rfl rfl rfl rfl rfl rfl rfl _ (upd_hole (j := r2.2.2.toNat) (xs := r.2.2.nodes) (e := GNode.c) (x := ⟨(r.2.2.nodes.getD r2.2.2.toNat default).kind, (r.2.2.nodes.getD r2.2.2.toNat default).a, (r.2.2.nodes.getD r2.2.2.toNat default).b, (r.2.2.nodes.getD r2.2.2.toNat default).outs ++ [r4.2.2 - 1]⟩) (by omega) rfl) (go tbl_ok false ?_)
              conv => whnf
              refine loopA ?_
              refine doneA (by kernel_rfl) (go tbl_ok false ?_)
              conv => whnf
          rotate_left 2
          focus
            refine go tbl_ok false ?_
            conv => whnf
            refine focusW tbl_ok rfl rfl rfl rfl rfl rfl (c := sInt (r.2.2.nodes.getD r2.2.2.toNat default).outs) rfl (fun v => go tbl_ok false ?_)
            conv => whnf
            refine loopA ?_
            refine splitA [1, 12] (by kernel_rfl) ⟨?_, ?_, trivial⟩
            focus
              refine go tbl_ok false ?_
              conv => whnf
              refine loopA ?_
              refine splitA [12] (by kernel_rfl) ⟨?_, trivial⟩
              refine go tbl_ok false ?_
              conv => whnf
              refine loopA ?_
              refine splitA [13] (by kernel_rfl) ⟨?_, trivial⟩
              refine go tbl_ok false ?_
              conv => whnf
              refine appW tbl_ok rfl rfl rfl rfl rfl rfl rfl rfl rfl rfl rfl (sInt ((r.2.2.nodes.getD r2.2.2.toNat default).outs ++ [r4.2.2 - 1])) (slC_snoc rfl) (by intro h; cases h) (by omega) (go tbl_ok false ?_)
              conv => whnf
              refine loopA ?_
              refine splitA [14] (by kernel_rfl) ⟨?_, trivial⟩
              refine go tbl_ok false ?_
              conv => whnf
              (repeat (refine ⟨by first | omega | (show _ ∧ _; omega) | ((repeat (first | rw [ByteArray.size_append] | rw [bsz] | rw [List.size_toArray] | rw [List.length_cons] | rw [List.length_nil])) <;> omega) | ((repeat rw [Int.toNat_natCast]) <;> first | omega | (show _ ∧ _; omega)) | (simp only [ByteArray.size_append, bsz, List.size_toArray, List.length_cons, List.length_nil]; omega) | (simp only [Int.toNat_natCast]; first | omega | (show _ ∧ _; omega)) | decide, ?_⟩; conv => whnf))
              refine loopA ?_
              refine preA tbl_ok false 15 rfl rfl rfl (by kernel_rfl) rfl (andL_mem (by repeat' (first | exact trivial | refine ⟨?_, ?_⟩ | (show _ ∧ _; omega) | omega))) ?_
              refine splitA [16] (by kernel_rfl) ⟨?_, trivial⟩
              refine go tbl_ok false ?_
              conv => whnf
              refine storeW (j := r2.2.2) tbl_ok rfl rfl rfl rfl rfl rfl rfl rfl _ (upd_hole (j := r2.2.2.toNat) (xs := r.2.2.nodes) (e := GNode.c) (x := ⟨(r.2.2.nodes.getD r2.2.2.toNat default).kind, (r.2.2.nodes.getD r2.2.2.toNat default).a, (r.2.2.nodes.getD r2.2.2.toNat default).b, (r.2.2.nodes.getD r2.2.2.toNat default).outs ++ [r4.2.2 - 1]⟩) (by omega) rfl) (go tbl_ok false ?_)
              conv => whnf
              refine loopA ?_
              refine doneA (by kernel_rfl) (go tbl_ok false ?_)
              conv => whnf
            rotate_left 1
            focus
              refine go tbl_ok false ?_
              conv => whnf
              refine loopA ?_
              refine splitA [1, 13] (by kernel_rfl) ⟨?_, ?_, trivial⟩
              focus
                refine go tbl_ok false ?_
                conv => whnf
                refine loopA ?_
                refine splitA [13] (by kernel_rfl) ⟨?_, trivial⟩
                refine go tbl_ok false ?_
                conv => whnf
                refine appW tbl_ok rfl rfl rfl rfl rfl rfl rfl rfl rfl rfl rfl (sInt ((r.2.2.nodes.getD r2.2.2.toNat default).outs ++ [r4.2.2 - 1])) (slC_snoc rfl) (by intro h; cases h) (by omega) (go tbl_ok false ?_)
                conv => whnf
                refine loopA ?_
                refine splitA [14] (by kernel_rfl) ⟨?_, trivial⟩
                refine go tbl_ok false ?_
                conv => whnf
                (repeat (refine ⟨by first | omega | (show _ ∧ _; omega) | ((repeat (first | rw [ByteArray.size_append] | rw [bsz] | rw [List.size_toArray] | rw [List.length_cons] | rw [List.length_nil])) <;> omega) | ((repeat rw [Int.toNat_natCast]) <;> first | omega | (show _ ∧ _; omega)) | (simp only [ByteArray.size_append, bsz, List.size_toArray, List.length_cons, List.length_nil]; omega) | (simp only [Int.toNat_natCast]; first | omega | (show _ ∧ _; omega)) | decide, ?_⟩; conv => whnf))
                refine loopA ?_
                refine preA tbl_ok false 15 rfl rfl rfl (by kernel_rfl) rfl (andL_mem (by repeat' (first | exact trivial | refine ⟨?_, ?_⟩ | (show _ ∧ _; omega) | omega))) ?_
                refine splitA [16] (by kernel_rfl) ⟨?_, trivial⟩
                refine go tbl_ok false ?_
                conv => whnf
                refine storeW (j := r2.2.2) tbl_ok rfl rfl rfl rfl rfl rfl rfl rfl _ (upd_hole (j := r2.2.2.toNat) (xs := r.2.2.nodes) (e := GNode.c) (x := ⟨(r.2.2.nodes.getD r2.2.2.toNat default).kind, (r.2.2.nodes.getD r2.2.2.toNat default).a, (r.2.2.nodes.getD r2.2.2.toNat default).b, (r.2.2.nodes.getD r2.2.2.toNat default).outs ++ [r4.2.2 - 1]⟩) (by omega) rfl) (go tbl_ok false ?_)
                conv => whnf
                refine loopA ?_
                refine doneA (by kernel_rfl) (go tbl_ok false ?_)
                conv => whnf
              rotate_left 1
              focus
                refine go tbl_ok false ?_
                conv => whnf
                refine appW tbl_ok rfl rfl rfl rfl rfl rfl rfl rfl rfl rfl rfl (sInt ((r.2.2.nodes.getD r2.2.2.toNat default).outs ++ [r4.2.2 - 1])) (slC_snoc rfl) (by intro h; cases h) (by omega) (go tbl_ok false ?_)
                conv => whnf
                refine loopA ?_
                refine splitA [1] (by kernel_rfl) ⟨?_, trivial⟩
                refine go tbl_ok false ?_
                conv => whnf
                refine loopA ?_
                refine splitA [14] (by kernel_rfl) ⟨?_, trivial⟩
                refine go tbl_ok false ?_
                conv => whnf
                (repeat (refine ⟨by first | omega | (show _ ∧ _; omega) | ((repeat (first | rw [ByteArray.size_append] | rw [bsz] | rw [List.size_toArray] | rw [List.length_cons] | rw [List.length_nil])) <;> omega) | ((repeat rw [Int.toNat_natCast]) <;> first | omega | (show _ ∧ _; omega)) | (simp only [ByteArray.size_append, bsz, List.size_toArray, List.length_cons, List.length_nil]; omega) | (simp only [Int.toNat_natCast]; first | omega | (show _ ∧ _; omega)) | decide, ?_⟩; conv => whnf))
                refine loopA ?_
                refine preA tbl_ok false 15 rfl rfl rfl (by kernel_rfl) rfl (andL_mem (by repeat' (first | exact trivial | refine ⟨?_, ?_⟩ | (show _ ∧ _; omega) | omega))) ?_
                refine splitA [16] (by kernel_rfl) ⟨?_, trivial⟩
                refine go tbl_ok false ?_
                conv => whnf
                refine storeW (j := r2.2.2) tbl_ok rfl rfl rfl rfl rfl rfl rfl rfl _ (upd_hole (j := r2.2.2.toNat) (xs := r.2.2.nodes) (e := GNode.c) (x := ⟨(r.2.2.nodes.getD r2.2.2.toNat default).kind, (r.2.2.nodes.getD r2.2.2.toNat default).a, (r.2.2.nodes.getD r2.2.2.toNat default).b, (r.2.2.nodes.getD r2.2.2.toNat default).outs ++ [r4.2.2 - 1]⟩) (by omega) rfl) (go tbl_ok false ?_)
                conv => whnf
                refine loopA ?_
                refine doneA (by kernel_rfl) (go tbl_ok false ?_)
                conv => whnf
          rotate_left 3
          focus
            refine go tbl_ok false ?_
            conv => whnf
            refine loopA ?_
            refine splitA [1, 8] (by kernel_rfl) ⟨?_, ?_, trivial⟩
            focus
              refine go tbl_ok false ?_
              conv => whnf
              refine loopA ?_
              refine splitA [8] (by kernel_rfl) ⟨?_, trivial⟩
              refine go tbl_ok false ?_
              conv => whnf
              refine focusW tbl_ok rfl rfl rfl rfl rfl rfl (c := sInt (r.2.2.nodes.getD r2.2.2.toNat default).outs) rfl (fun v => go tbl_ok false ?_)
              conv => whnf
              refine loopA ?_
              refine splitA [13] (by kernel_rfl) ⟨?_, trivial⟩
              refine go tbl_ok false ?_
              conv => whnf
              refine appW tbl_ok rfl rfl rfl rfl rfl rfl rfl rfl rfl rfl rfl (sInt ((r.2.2.nodes.getD r2.2.2.toNat default).outs ++ [r4.2.2 - 1])) (slC_snoc rfl) (by intro h; cases h) (by omega) (go tbl_ok false ?_)
              conv => whnf
              refine loopA ?_
              refine splitA [14] (by kernel_rfl) ⟨?_, trivial⟩
              refine go tbl_ok false ?_
              conv => whnf
              (repeat (refine ⟨by first | omega | (show _ ∧ _; omega) | ((repeat (first | rw [ByteArray.size_append] | rw [bsz] | rw [List.size_toArray] | rw [List.length_cons] | rw [List.length_nil])) <;> omega) | ((repeat rw [Int.toNat_natCast]) <;> first | omega | (show _ ∧ _; omega)) | (simp only [ByteArray.size_append, bsz, List.size_toArray, List.length_cons, List.length_nil]; omega) | (simp only [Int.toNat_natCast]; first | omega | (show _ ∧ _; omega)) | decide, ?_⟩; conv => whnf))
              refine loopA ?_
              refine preA tbl_ok false 15 rfl rfl rfl (by kernel_rfl) rfl (andL_mem (by repeat' (first | exact trivial | refine ⟨?_, ?_⟩ | (show _ ∧ _; omega) | omega))) ?_
              refine splitA [16] (by kernel_rfl) ⟨?_, trivial⟩
              refine go tbl_ok false ?_
              conv => whnf
              refine storeW (j := r2.2.2) tbl_ok rfl rfl rfl rfl rfl rfl rfl rfl _ (upd_hole (j := r2.2.2.toNat) (xs := r.2.2.nodes) (e := GNode.c) (x := ⟨(r.2.2.nodes.getD r2.2.2.toNat default).kind, (r.2.2.nodes.getD r2.2.2.toNat default).a, (r.2.2.nodes.getD r2.2.2.toNat default).b, (r.2.2.nodes.getD r2.2.2.toNat default).outs ++ [r4.2.2 - 1]⟩) (by omega) rfl) (go tbl_ok false ?_)
              conv => whnf
              refine loopA ?_
              refine doneA (by kernel_rfl) (go tbl_ok false ?_)
              conv => whnf
            rotate_left 1
            focus
              refine go tbl_ok false ?_
              conv => whnf
              refine focusW tbl_ok rfl rfl rfl rfl rfl rfl (c := sInt (r.2.2.nodes.getD r2.2.2.toNat default).outs) rfl (fun v => go tbl_ok false ?_)
              conv => whnf
              refine loopA ?_
              refine splitA [1, 13] (by kernel_rfl) ⟨?_, ?_, trivial⟩
              focus
                refine go tbl_ok false ?_
                conv => whnf
                refine loopA ?_
                refine splitA [13] (by kernel_rfl) ⟨?_, trivial⟩
                refine go tbl_ok false ?_
                conv => whnf
                refine appW tbl_ok rfl rfl rfl rfl rfl rfl rfl rfl rfl rfl rfl (sInt ((r.2.2.nodes.getD r2.2.2.toNat default).outs ++ [r4.2.2 - 1])) (slC_snoc rfl) (by intro h; cases h) (by omega) (go tbl_ok false ?_)
                conv => whnf
                refine loopA ?_
                refine splitA [14] (by kernel_rfl) ⟨?_, trivial⟩
                refine go tbl_ok false ?_
                conv => whnf
                (repeat (refine ⟨by first | omega | (show _ ∧ _; omega) | ((repeat (first | rw [ByteArray.size_append] | rw [bsz] | rw [List.size_toArray] | rw [List.length_cons] | rw [List.length_nil])) <;> omega) | ((repeat rw [Int.toNat_natCast]) <;> first | omega | (show _ ∧ _; omega)) | (simp only [ByteArray.size_append, bsz, List.size_toArray, List.length_cons, List.length_nil]; omega) | (simp only [Int.toNat_natCast]; first | omega | (show _ ∧ _; omega)) | decide, ?_⟩; conv => whnf))
                refine loopA ?_
                refine preA tbl_ok false 15 rfl rfl rfl (by kernel_rfl) rfl (andL_mem (by repeat' (first | exact trivial | refine ⟨?_, ?_⟩ | (show _ ∧ _; omega) | omega))) ?_
                refine splitA [16] (by kernel_rfl) ⟨?_, trivial⟩
                refine go tbl_ok false ?_
                conv => whnf
                refine storeW (j := r2.2.2) tbl_ok rfl rfl rfl rfl rfl rfl rfl rfl _ (upd_hole (j := r2.2.2.toNat) (xs := r.2.2.nodes) (e := GNode.c) (x := ⟨(r.2.2.nodes.getD r2.2.2.toNat default).kind, (r.2.2.nodes.getD r2.2.2.toNat default).a, (r.2.2.nodes.getD r2.2.2.toNat default).b, (r.2.2.nodes.getD r2.2.2.toNat default).outs ++ [r4.2.2 - 1]⟩) (by omega) rfl) (go tbl_ok false ?_)
                conv => whnf
                refine loopA ?_
                refine doneA (by kernel_rfl) (go tbl_ok false ?_)
                conv => whnf
              rotate_left 1
              focus
                refine go tbl_ok false ?_
                conv => whnf
                refine appW tbl_ok rfl rfl rfl rfl rfl rfl rfl rfl rfl rfl rfl (sInt ((r.2.2.nodes.getD r2.2.2.toNat default).outs ++ [r4.2.2 - 1])) (slC_snoc rfl) (by intro h; cases h) (by omega) (go tbl_ok false ?_)
                conv => whnf
                refine loopA ?_
                refine splitA [1] (by kernel_rfl) ⟨?_, trivial⟩
                refine go tbl_ok false ?_
                conv => whnf
                refine loopA ?_
                refine splitA [14] (by kernel_rfl) ⟨?_, trivial⟩
                refine go tbl_ok false ?_
                conv => whnf
                (repeat (refine ⟨by first | omega | (show _ ∧ _; omega) | ((repeat (first | rw [ByteArray.size_append] | rw [bsz] | rw [List.size_toArray] | rw [List.length_cons] | rw [List.length_nil])) <;> omega) | ((repeat rw [Int.toNat_natCast]) <;> first | omega | (show _ ∧ _; omega)) | (simp only [ByteArray.size_append, bsz, List.size_toArray, List.length_cons, List.length_nil]; omega) | (simp only [Int.toNat_natCast]; first | omega | (show _ ∧ _; omega)) | decide, ?_⟩; conv => whnf))
                refine loopA ?_
                refine preA tbl_ok false 15 rfl rfl rfl (by kernel_rfl) rfl (andL_mem (by repeat' (first | exact trivial | refine ⟨?_, ?_⟩ | (show _ ∧ _; omega) | omega))) ?_
                refine splitA [16] (by kernel_rfl) ⟨?_, trivial⟩
                refine go tbl_ok false ?_
                conv => whnf
                refine storeW (j := r2.2.2) tbl_ok rfl rfl rfl rfl rfl rfl rfl rfl _ (upd_hole (j := r2.2.2.toNat) (xs := r.2.2.nodes) (e := GNode.c) (x := ⟨(r.2.2.nodes.getD r2.2.2.toNat default).kind, (r.2.2.nodes.getD r2.2.2.toNat default).a, (r.2.2.nodes.getD r2.2.2.toNat default).b, (r.2.2.nodes.getD r2.2.2.toNat default).outs ++ [r4.2.2 - 1]⟩) (by omega) rfl) (go tbl_ok false ?_)
                conv => whnf
                refine loopA ?_
                refine doneA (by kernel_rfl) (go tbl_ok false ?_)
                conv => whnf
        rotate_left 8
        focus
          refine go tbl_ok false ?_
          conv => whnf
          refine loopA ?_
          refine splitA [1, 6] (by kernel_rfl) ⟨?_, ?_, trivial⟩
          focus
            refine go tbl_ok false ?_
            conv => whnf
            refine loopA ?_
            refine splitA [6] (by kernel_rfl) ⟨?_, trivial⟩
            refine go tbl_ok false ?_
            conv => whnf
            (repeat (refine ⟨by first | omega | (show _ ∧ _; omega) | ((repeat (first | rw [ByteArray.size_append] | rw [bsz] | rw [List.size_toArray] | rw [List.length_cons] | rw [List.length_nil])) <;> omega) | ((repeat rw [Int.toNat_natCast]) <;> first | omega | (show _ ∧ _; omega)) | (simp only [ByteArray.size_append, bsz, List.size_toArray, List.length_cons, List.length_nil]; omega) | (simp only [Int.toNat_natCast]; first | omega | (show _ ∧ _; omega)) | decide, ?_⟩; conv => whnf))
            refine loopA ?_
            refine preA tbl_ok false 7 rfl rfl rfl (by kernel_rfl) rfl (andL_mem (by repeat' (first | exact trivial | refine ⟨?_, ?_⟩ | (show _ ∧ _; omega) | omega))) ?_
            refine splitA [8] (by kernel_rfl) ⟨?_, trivial⟩
            refine go tbl_ok false ?_
            conv => whnf
            refine focusW tbl_ok rfl rfl rfl rfl rfl rfl (c := sInt (r.2.2.nodes.getD r2.2.2.toNat default).outs) rfl (fun v => go tbl_ok false ?_)
            conv => whnf
            refine loopA ?_
            refine splitA [13] (by kernel_rfl) ⟨?_, trivial⟩
            refine go tbl_ok false ?_
            conv => whnf
            refine appW tbl_ok rfl rfl rfl rfl rfl rfl rfl rfl rfl rfl rfl (sInt ((r.2.2.nodes.getD r2.2.2.toNat default).outs ++ [r4.2.2 - 1])) (slC_snoc rfl) (by intro h; cases h) (by omega) (go tbl_ok false ?_)
            conv => whnf
            refine loopA ?_
            refine splitA [14] (by kernel_rfl) ⟨?_, trivial⟩
            refine go tbl_ok false ?_
            conv => whnf
            (repeat (refine ⟨by first | omega | (show _ ∧ _; omega) | ((repeat (first | rw [ByteArray.size_append] | rw [bsz] | rw [List.size_toArray] | rw [List.length_cons] | rw [List.length_nil])) <;> omega) | ((repeat rw [Int.toNat_natCast]) <;> first | omega | (show _ ∧ _; omega)) | (simp only [ByteArray.size_append, bsz, List.size_toArray, List.length_cons, List.length_nil]; omega) | (simp only [Int.toNat_natCast]; first | omega | (show _ ∧ _; omega)) | decide, ?_⟩; conv => whnf))
            refine loopA ?_
            refine preA tbl_ok false 15 rfl rfl rfl (by kernel_rfl) rfl (andL_mem (by repeat' (first | exact trivial | refine ⟨?_, ?_⟩ | (show _ ∧ _; omega) | omega))) ?_
            refine splitA [16] (by kernel_rfl) ⟨?_, trivial⟩
            refine go tbl_ok false ?_
            conv => whnf
            refine storeW (j := r2.2.2) tbl_ok rfl rfl rfl rfl rfl rfl rfl rfl _ (upd_hole (j := r2.2.2.toNat) (xs := r.2.2.nodes) (e := GNode.c) (x := ⟨(r.2.2.nodes.getD r2.2.2.toNat default).kind, (r.2.2.nodes.getD r2.2.2.toNat default).a, (r.2.2.nodes.getD r2.2.2.toNat default).b, (r.2.2.nodes.getD r2.2.2.toNat default).outs ++ [r4.2.2 - 1]⟩) (by omega) rfl) (go tbl_ok false ?_)
            conv => whnf
            refine loopA ?_
            refine doneA (by kernel_rfl) (go tbl_ok false ?_)
            conv => whnf
          rotate_left 1
          focus
            refine go tbl_ok false ?_
            conv => whnf
            (repeat (refine ⟨by first | omega | (show _ ∧ _; omega) | ((repeat (first | rw [ByteArray.size_append] | rw [bsz] | rw [List.size_toArray] | rw [List.length_cons] | rw [List.length_nil])) <;> omega) | ((repeat rw [Int.toNat_natCast]) <;> first | omega | (show _ ∧ _; omega)) | (simp only [ByteArray.size_append, bsz, List.size_toArray, List.length_cons, List.length_nil]; omega) | (simp only [Int.toNat_natCast]; first | omega | (show _ ∧ _; omega)) | decide, ?_⟩; conv => whnf))
            refine loopA ?_
            refine preA tbl_ok false 7 rfl rfl rfl (by kernel_rfl) rfl (andL_mem (by repeat' (first | exact trivial | refine ⟨?_, ?_⟩ | (show _ ∧ _; omega) | omega))) ?_
            refine splitA [1, 8] (by kernel_rfl) ⟨?_, ?_, trivial⟩
            focus
              refine go tbl_ok false ?_
              conv => whnf
              refine loopA ?_
              refine splitA [8] (by kernel_rfl) ⟨?_, trivial⟩
              refine go tbl_ok false ?_
              conv => whnf
              refine focusW tbl_ok rfl rfl rfl rfl rfl rfl (c := sInt (r.2.2.nodes.getD r2.2.2.toNat default).outs) rfl (fun v => go tbl_ok false ?_)
              conv => whnf
              refine loopA ?_
              refine splitA [13] (by kernel_rfl) ⟨?_, trivial⟩
              refine go tbl_ok false ?_
              conv => whnf
              refine appW tbl_ok rfl rfl rfl rfl rfl rfl rfl rfl rfl rfl rfl (sInt ((r.2.2.nodes.getD r2.2.2.toNat default).outs ++ [r4.2.2 - 1])) (slC_snoc rfl) (by intro h; cases h) (by omega) (go tbl_ok false ?_)
              conv => whnf
              refine loopA ?_
              refine splitA [14] (by kernel_rfl) ⟨?_, trivial⟩
              refine go tbl_ok false ?_
              conv => whnf
              (repeat (refine ⟨by first | omega | (show _ ∧ _; omega) | ((repeat (first | rw [ByteArray.size_append] | rw [bsz] | rw [List.size_toArray] | rw [List.length_cons] | rw [List.length_nil])) <;> omega) | ((repeat rw [Int.toNat_natCast]) <;> first | omega | (show _ ∧ _; omega)) | (simp only [ByteArray.size_append, bsz, List.size_toArray, List.length_cons, List.length_nil]; omega) | (simp only [Int.toNat_natCast]; first | omega | (show _ ∧ _; omega)) | decide, ?_⟩; conv => whnf))
              refine loopA ?_
              refine preA tbl_ok false 15 rfl rfl rfl (by kernel_rfl) rfl (andL_mem (by repeat' (first | exact trivial | refine ⟨?_, ?_⟩ | (show _ ∧ _; omega) | omega))) ?_
              refine splitA [16] (by kernel_rfl) ⟨?_, trivial⟩
              refine go tbl_ok false ?_
              conv => whnf
              refine storeW (j := r2.2.2) tbl_ok rfl rfl rfl rfl rfl rfl rfl rfl _ (upd_hole (j := r2.2.2.toNat) (xs := r.2.2.nodes) (e := GNode.c) (x := ⟨(r.2.2.nodes.getD r2.2.2.toNat default).kind, (r.2.2.nodes.getD r2.2.2.toNat default).a, (r.2.2.nodes.getD r2.2.2.toNat default).b, (r.2.2.nodes.getD r2.2.2.toNat default).outs ++ [r4.2.2 - 1]⟩) (by omega) rfl) (go tbl_ok false ?_)
              conv => whnf
              refine loopA ?_
              refine doneA (by kernel_rfl) (go tbl_ok false ?_)
              conv => whnf
            rotate_left 1
            focus
              refine go tbl_ok false ?_
              conv => whnf
              refine focusW tbl_ok rfl rfl rfl rfl rfl rfl (c := sInt (r.2.2.nodes.getD r2.2.2.toNat default).outs) rfl (fun v => go tbl_ok false ?_)
              conv => whnf
              refine loopA ?_
              refine splitA [1, 13] (by kernel_rfl) ⟨?_, ?_, trivial⟩
              focus
                refine go tbl_ok false ?_
                conv => whnf
                refine loopA ?_
                refine splitA [13] (by kernel_rfl) ⟨?_, trivial⟩
                refine go tbl_ok false ?_
                conv => whnf
                refine appW tbl_ok rfl rfl rfl rfl rfl rfl rfl rfl rfl rfl rfl (sInt ((r.2.2.nodes.getD r2.2.2.toNat default).outs ++ [r4.2.2 - 1])) (slC_snoc rfl) (by intro h; cases h) (by omega) (go tbl_ok false ?_)
                conv => whnf
                refine loopA ?_
                refine splitA [14] (by kernel_rfl) ⟨?_, trivial⟩
                refine go tbl_ok false ?_
                conv => whnf
                (repeat (refine ⟨by first | omega | (show _ ∧ _; omega) | ((repeat (first | rw [ByteArray.size_append] | rw [bsz] | rw [List.size_toArray] | rw [List.length_cons] | rw [List.length_nil])) <;> omega) | ((repeat rw [Int.toNat_natCast]) <;> first | omega | (show _ ∧ _; omega)) | (simp only [ByteArray.size_append, bsz, List.size_toArray, List.length_cons, List.length_nil]; omega) | (simp only [Int.toNat_natCast]; first | omega | (show _ ∧ _; omega)) | decide, ?_⟩; conv => whnf))
                refine loopA ?_
                refine preA tbl_ok false 15 rfl rfl rfl (by kernel_rfl) rfl (andL_mem (by repeat' (first | exact trivial | refine ⟨?_, ?_⟩ | (show _ ∧ _; omega) | omega))) ?_
                refine splitA [16] (by kernel_rfl) ⟨?_, trivial⟩
                refine go tbl_ok false ?_
                conv => whnf
                refine storeW (j := r2.2.2) tbl_ok rfl rfl rfl rfl rfl rfl rfl rfl _ (upd_hole (j := r2.2.2.toNat) (xs := r.2.2.nodes) (e := GNode.c) (x := ⟨(r.2.2.nodes.getD r2.2.2.toNat default).kind, (r.2.2.nodes.getD r2.2.2.toNat default).a, (r.2.2.nodes.getD r2.2.2.toNat default).b, (r.2.2.nodes.getD r2.2.2.toNat default).outs ++ [r4.2.2 - 1]⟩) (by omega) rfl) (go tbl_ok false ?_)
                conv => whnf
                refine loopA ?_
                refine doneA (by kernel_rfl) (go tbl_ok false ?_)
                conv => whnf
              rotate_left 1
              focus
                refine go tbl_ok false ?_
                conv => whnf
                refine appW tbl_ok rfl rfl rfl rfl rfl rfl rfl rfl rfl rfl rfl (sInt ((r.2.2.nodes.getD r2.2.2.toNat default).outs ++ [r4.2.2 - 1])) (slC_snoc rfl) (by intro h; cases h) (by omega) (go tbl_ok false ?_)
                conv => whnf
                refine loopA ?_
                refine splitA [1] (by kernel_rfl) ⟨?_, trivial⟩
                refine go tbl_ok false ?_
                conv => whnf
                refine loopA ?_
                refine splitA [14] (by kernel_rfl) ⟨?_, trivial⟩
                refine go tbl_ok false ?_
                conv => whnf
                (repeat (refine ⟨by first | omega | (show _ ∧ _; omega) | ((repeat (first | rw [ByteArray.size_append] | rw [bsz] | rw [List.size_toArray] | rw [List.length_cons] | rw [List.length_nil])) <;> omega) | ((repeat rw [Int.toNat_natCast]) <;> first | omega | (show _ ∧ _; omega)) | (simp only [ByteArray.size_append, bsz, List.size_toArray, List.length_cons, List.length_nil]; omega) | (simp only [Int.toNat_natCast]; first | omega | (show _ ∧ _; omega)) | decide, ?_⟩; conv => whnf))
                refine loopA ?_
                refine preA tbl_ok false 15 rfl rfl rfl (by kernel_rfl) rfl (andL_mem (by repeat' (first | exact trivial | refine ⟨?_, ?_⟩ | (show _ ∧ _; omega) | omega))) ?_
                refine splitA [16] (by kernel_rfl) ⟨?_, trivial⟩
                refine go tbl_ok false ?_
                conv => whnf
                refine storeW (j := r2.2.2) tbl_ok rfl rfl rfl rfl rfl rfl rfl rfl _ (upd_hole (j := r2.2.2.toNat) (xs := r.2.2.nodes) (e := GNode.c) (x := ⟨(r.2.2.nodes.getD r2.2.2.toNat default).kind, (r.2.2.nodes.getD r2.2.2.toNat default).a, (r.2.2.nodes.getD r2.2.2.toNat default).b, (r.2.2.nodes.getD r2.2.2.toNat default).outs ++ [r4.2.2 - 1]⟩) (by omega) rfl) (go tbl_ok false ?_)
                conv => whnf
                refine loopA ?_
                refine doneA (by kernel_rfl) (go tbl_ok false ?_)
                conv => whnf
      rotate_left 15
      focus
        refine go tbl_ok false ?_
        conv => whnf
        refine loopA ?_
        refine splitA [1, 4] (by kernel_rfl) ⟨?_, ?_, trivial⟩
        focus
          refine go tbl_ok false ?_
          conv => whnf
          refine loopA ?_
          refine splitA [4] (by kernel_rfl) ⟨?_, trivial⟩
          refine go tbl_ok false ?_
          conv => whnf
          refine loopA ?_
          refine splitA [6] (by kernel_rfl) ⟨?_, trivial⟩
          refine go tbl_ok false ?_
          conv => whnf
          (repeat (refine ⟨by first | omega | (show _ ∧ _; omega) | ((repeat (first | rw [ByteArray.size_append] | rw [bsz] | rw [List.size_toArray] | rw [List.length_cons] | rw [List.length_nil])) <;> omega) | ((repeat rw [Int.toNat_natCast]) <;> first | omega | (show _ ∧ _; omega)) | (simp only [ByteArray.size_append, bsz, List.size_toArray, List.length_cons, List.length_nil]; omega) | (simp only [Int.toNat_natCast]; first | omega | (show _ ∧ _; omega)) | decide, ?_⟩; conv => whnf))
          refine loopA ?_
          refine preA tbl_ok false 7 rfl rfl rfl (by kernel_rfl) rfl (andL_mem (by repeat' (first | exact trivial | refine ⟨?_, ?_⟩ | (show _ ∧ _; omega) | omega))) ?_
          refine splitA [8] (by kernel_rfl) ⟨?_, trivial⟩
          refine go tbl_ok false ?_
          conv => whnf
          refine focusW tbl_ok rfl rfl rfl rfl rfl rfl (c := sInt (r.2.2.nodes.getD r2.2.2.toNat default).outs) rfl (fun v => go tbl_ok false ?_)
          conv => whnf
          refine loopA ?_
          refine splitA [13] (by kernel_rfl) ⟨?_, trivial⟩
          refine go tbl_ok false ?_
          conv => whnf
          refine appW tbl_ok rfl rfl rfl rfl rfl rfl rfl rfl rfl rfl rfl (sInt ((r.2.2.nodes.getD r2.2.2.toNat default).outs ++ [r4.2.2 - 1])) (slC_snoc rfl) (by intro h; cases h) (by omega) (go tbl_ok false ?_)
          conv => whnf
          refine loopA ?_
          refine splitA [14] (by kernel_rfl) ⟨?_, trivial⟩
          refine go tbl_ok false ?_
          conv => whnf
          (repeat (refine ⟨by first | omega | (show _ ∧ _; omega) | ((repeat (first | rw [ByteArray.size_append] | rw [bsz] | rw [List.size_toArray] | rw [List.length_cons] | rw [List.length_nil])) <;> omega) | ((repeat rw [Int.toNat_natCast]) <;> first | omega | (show _ ∧ _; omega)) | (simp only [ByteArray.size_append, bsz, List.size_toArray, List.length_cons, List.length_nil]; omega) | (simp only [Int.toNat_natCast]; first | omega | (show _ ∧ _; omega)) | decide, ?_⟩; conv => whnf))
          refine loopA ?_
          refine preA tbl_ok false 15 rfl rfl rfl (by kernel_rfl) rfl (andL_mem (by repeat' (first | exact trivial | refine ⟨?_, ?_⟩ | (show _ ∧ _; omega) | omega))) ?_
          refine splitA [16] (by kernel_rfl) ⟨?_, trivial⟩
          refine go tbl_ok false ?_
          conv => whnf
          refine storeW (j := r2.2.2) tbl_ok rfl rfl rfl rfl rfl rfl rfl rfl _ (upd_hole (j := r2.2.2.toNat) (xs := r.2.2.nodes) (e := GNode.c) (x := ⟨(r.2.2.nodes.getD r2.2.2.toNat default).kind, (r.2.2.nodes.getD r2.2.2.toNat default).a, (r.2.2.nodes.getD r2.2.2.toNat default).b, (r.2.2.nodes.getD r2.2.2.toNat default).outs ++ [r4.2.2 - 1]⟩) (by omega) rfl) (go tbl_ok false ?_)
          conv => whnf
          refine loopA ?_
          refine doneA (by kernel_rfl) (go tbl_ok false ?_)
          conv => whnf
        rotate_left 1
        focus
          refine go tbl_ok false ?_
          conv => whnf
          refine loopA ?_
          refine splitA [1, 6] (by kernel_rfl) ⟨?_, ?_, trivial⟩
          focus
            refine go tbl_ok false ?_
            conv => whnf
            refine loopA ?_
            refine splitA [6] (by kernel_rfl) ⟨?_, trivial⟩
            refine go tbl_ok false ?_
            conv => whnf
            (repeat (refine ⟨by first | omega | (show _ ∧ _; omega) | ((repeat (first | rw [ByteArray.size_append] | rw [bsz] | rw [List.size_toArray] | rw [List.length_cons] | rw [List.length_nil])) <;> omega) | ((repeat rw [Int.toNat_natCast]) <;> first | omega | (show _ ∧ _; omega)) | (simp only [ByteArray.size_append, bsz, List.size_toArray, List.length_cons, List.length_nil]; omega) | (simp only [Int.toNat_natCast]; first | omega | (show _ ∧ _; omega)) | decide, ?_⟩; conv => whnf))
            refine loopA ?_
            refine preA tbl_ok false 7 rfl rfl rfl (by kernel_rfl) rfl (andL_mem (by repeat' (first | exact trivial | refine ⟨?_, ?_⟩ | (show _ ∧ _; omega) | omega))) ?_
            refine splitA [8] (by kernel_rfl) ⟨?_, trivial⟩
            refine go tbl_ok false ?_
            conv => whnf
            refine focusW tbl_ok rfl rfl rfl rfl rfl rfl (c := sInt (r.2.2.nodes.getD r2.2.2.toNat default).outs) rfl (fun v => go tbl_ok false ?_)
            conv => whnf
            refine loopA ?_
            refine splitA [13] (by kernel_rfl) ⟨?_, trivial⟩
            refine go tbl_ok false ?_
            conv => whnf
            refine appW tbl_ok rfl rfl rfl rfl rfl rfl rfl rfl rfl rfl rfl (sInt ((r.2.2.nodes.getD r2.2.2.toNat default).outs ++ [r4.2.2 - 1])) (slC_snoc rfl) (by intro h; cases h) (by omega) (go tbl_ok false ?_)
            conv => whnf
            refine loopA ?_
            refine splitA [14] (by kernel_rfl) ⟨?_, trivial⟩
            refine go tbl_ok false ?_
            conv => whnf
            (repeat (refine ⟨by first | omega | (show _ ∧ _; omega) | ((repeat (first | rw [ByteArray.size_append] | rw [bsz] | rw [List.size_toArray] | rw [List.length_cons] | rw [List.length_nil])) <;> omega) | ((repeat rw [Int.toNat_natCast]) <;> first | omega | (show _ ∧ _; omega)) | (simp only [ByteArray.size_append, bsz, List.size_toArray, List.length_cons, List.length_nil]; omega) | (simp only [Int.toNat_natCast]; first | omega | (show _ ∧ _; omega)) | decide, ?_⟩; conv => whnf))
            refine loopA ?_
            refine preA tbl_ok false 15 rfl rfl rfl (by kernel_rfl) rfl (andL_mem (by repeat' (first | exact trivial | refine ⟨?_, ?_⟩ | (show _ ∧ _; omega) | omega))) ?_
            refine splitA [16] (by kernel_rfl) ⟨?_, trivial⟩
            refine go tbl_ok false ?_
            conv => whnf
            refine storeW (j := r2.2.2) tbl_ok rfl rfl rfl rfl rfl rfl rfl rfl _ (upd_hole (j := r2.2.2.toNat) (xs := r.2.2.nodes) (e := GNode.c) (x := ⟨(r.2.2.nodes.getD r2.2.2.toNat default).kind, (r.2.2.nodes.getD r2.2.2.toNat default).a, (r.2.2.nodes.getD r2.2.2.toNat default).b, (r.2.2.nodes.getD r2.2.2.toNat default).outs ++ [r4.2.2 - 1]⟩) (by omega) rfl) (go tbl_ok false ?_)
            conv => whnf
            refine loopA ?_
            refine doneA (by kernel_rfl) (go tbl_ok false ?_)
            conv => whnf
          rotate_left 1
          focus
            refine go tbl_ok false ?_
            conv => whnf
            (repeat (refine ⟨by first | omega | (show _ ∧ _; omega) | ((repeat (first | rw [ByteArray.size_append] | rw [bsz] | rw [List.size_toArray] | rw [List.length_cons] | rw [List.length_nil])) <;> omega) | ((repeat rw [Int.toNat_natCast]) <;> first | omega | (show _ ∧ _; omega)) | (simp only [ByteArray.size_append, bsz, List.size_toArray, List.length_cons, List.length_nil]; omega) | (simp only [Int.toNat_natCast]; first | omega | (show _ ∧ _; omega)) | decide, ?_⟩; conv => whnf))
            refine loopA ?_
            refine preA tbl_ok false 7 rfl rfl rfl (by kernel_rfl) rfl (andL_mem (by repeat' (first | exact trivial | refine ⟨?_, ?_⟩ | (show _ ∧ _; omega) | omega))) ?_
            refine splitA [1, 8] (by kernel_rfl) ⟨?_, ?_, trivial⟩
            focus
              refine go tbl_ok false ?_
              conv => whnf
              refine loopA ?_
              refine splitA [8] (by kernel_rfl) ⟨?_, trivial⟩
              refine go tbl_ok false ?_
              conv => whnf
              refine focusW tbl_ok rfl rfl rfl rfl rfl rfl (c := sInt (r.2.2.nodes.getD r2.2.2.toNat default).outs) rfl (fun v => go tbl_ok false ?_)
              conv => whnf
              refine loopA ?_
              refine splitA [13] (by kernel_rfl) ⟨?_, trivial⟩
              refine go tbl_ok false ?_
              conv => whnf
              refine appW tbl_ok rfl rfl rfl rfl rfl rfl rfl rfl rfl rfl rfl (sInt ((r.2.2.nodes.getD r2.2.2.toNat default).outs ++ [r4.2.2 - 1])) (slC_snoc rfl) (by intro h; cases h) (by omega) (go tbl_ok false ?_)
              conv => whnf
              refine loopA ?_
              refine splitA [14] (by kernel_rfl) ⟨?_, trivial⟩
              refine go tbl_ok false ?_
              conv => whnf
              (repeat (refine ⟨by first | omega | (show _ ∧ _; omega) | ((repeat (first | rw [ByteArray.size_append] | rw [bsz] | rw [List.size_toArray] | rw [List.length_cons] | rw [List.length_nil])) <;> omega) | ((repeat rw [Int.toNat_natCast]) <;> first | omega | (show _ ∧ _; omega)) | (simp only [ByteArray.size_append, bsz, List.size_toArray, List.length_cons, List.length_nil]; omega) | (simp only [Int.toNat_natCast]; first | omega | (show _ ∧ _; omega)) | decide, ?_⟩; conv => whnf))
              refine loopA ?_
              refine preA tbl_ok false 15 rfl rfl rfl (by kernel_rfl) rfl (andL_mem (by repeat' (first | exact trivial | refine ⟨?_, ?_⟩ | (show _ ∧ _; omega) | omega))) ?_
              refine splitA [16] (by kernel_rfl) ⟨?_, trivial⟩
              refine go tbl_ok false ?_
              conv => whnf
              refine storeW (j := r2.2.2) tbl_ok rfl rfl rfl rfl rfl rfl rfl rfl _ (upd_hole (j := r2.2.2.toNat) (xs := r.2.2.nodes) (e := GNode.c) (x := ⟨(r.2.2.nodes.getD r2.2.2.toNat default).kind, (r.2.2.nodes.getD r2.2.2.toNat default).a, (r.2.2.nodes.getD r2.2.2.toNat default).b, (r.2.2.nodes.getD r2.2.2.toNat default).outs ++ [r4.2.2 - 1]⟩) (by omega) rfl) (go tbl_ok false ?_)
              conv => whnf
              refine loopA ?_
              refine doneA (by kernel_rfl) (go tbl_ok false ?_)
              conv => whnf
            rotate_left 1
            focus
              refine go tbl_ok false ?_
              conv => whnf
              refine focusW tbl_ok rfl rfl rfl rfl rfl rfl (c := sInt (r.2.2.nodes.getD r2.2.2.toNat default).outs) rfl (fun v => go tbl_ok false ?_)
              conv => whnf
              refine loopA ?_
              refine splitA [1, 13] (by kernel_rfl) ⟨?_, ?_, trivial⟩
              focus
                refine go tbl_ok false ?_
                conv => whnf
                refine loopA ?_
                refine splitA [13] (by kernel_rfl) ⟨?_, trivial⟩
                refine go tbl_ok false ?_
                conv => whnf
                refine appW tbl_ok rfl rfl rfl rfl rfl rfl rfl rfl rfl rfl rfl (sInt ((r.2.2.nodes.getD r2.2.2.toNat default).outs ++ [r4.2.2 - 1])) (slC_snoc rfl) (by intro h; cases h) (by omega) (go tbl_ok false ?_)
                conv => whnf
                refine loopA ?_
                refine splitA [14] (by kernel_rfl) ⟨?_, trivial⟩
                refine go tbl_ok false ?_
                conv => whnf
                (repeat (refine ⟨by first | omega | (show _ ∧ _; omega) | ((repeat (first | rw [ByteArray.size_append] | rw [bsz] | rw [List.size_toArray] | rw [List.length_cons] | rw [List.length_nil])) <;> omega) | ((repeat rw [Int.toNat_natCast]) <;> first | omega | (show _ ∧ _; omega)) | (simp only [ByteArray.size_append, bsz, List.size_toArray, List.length_cons, List.length_nil]; omega) | (simp only [Int.toNat_natCast]; first | omega | (show _ ∧ _; omega)) | decide, ?_⟩; conv => whnf))
                refine loopA ?_
                refine preA tbl_ok false 15 rfl rfl rfl (by kernel_rfl) rfl (andL_mem (by repeat' (first | exact trivial | refine ⟨?_, ?_⟩ | (show _ ∧ _; omega) | omega))) ?_
                refine splitA [16] (by kernel_rfl) ⟨?_, trivial⟩
                refine go tbl_ok false ?_
                conv => whnf
                refine storeW (j := r2.2.2) tbl_ok rfl rfl rfl rfl rfl rfl rfl rfl _ (upd_hole (j := r2.2.2.toNat) (xs := r.2.2.nodes) (e := GNode.c) (x := ⟨(r.2.2.nodes.getD r2.2.2.toNat default).kind, (r.2.2.nodes.getD r2.2.2.toNat default).a, (r.2.2.nodes.getD r2.2.2.toNat default).b, (r.2.2.nodes.getD r2.2.2.toNat default).outs ++ [r4.2.2 - 1]⟩) (by omega) rfl) (go tbl_ok false ?_)
                conv => whnf
                refine loopA ?_
                refine doneA (by kernel_rfl) (go tbl_ok false ?_)
                conv => whnf
              rotate_left 1
              focus
                refine go tbl_ok false ?_
                conv => whnf
                refine appW tbl_ok rfl rfl rfl rfl rfl rfl rfl rfl rfl rfl rfl (sInt ((r.2.2.nodes.getD r2.2.2.toNat default).outs ++ [r4.2.2 - 1])) (slC_snoc rfl) (by intro h; cases h) (by omega) (go tbl_ok false ?_)
                conv => whnf
                refine loopA ?_
                refine splitA [1] (by kernel_rfl) ⟨?_, trivial⟩
                refine go tbl_ok false ?_
                conv => whnf
                refine loopA ?_
                refine splitA [14] (by kernel_rfl) ⟨?_, trivial⟩
                refine go tbl_ok false ?_
                conv => whnf
                (repeat (refine ⟨by first | omega | (show _ ∧ _; omega) | ((repeat (first | rw [ByteArray.size_append] | rw [bsz] | rw [List.size_toArray] | rw [List.length_cons] | rw [List.length_nil])) <;> omega) | ((repeat rw [Int.toNat_natCast]) <;> first | omega | (show _ ∧ _; omega)) | (simp only [ByteArray.size_append, bsz, List.size_toArray, List.length_cons, List.length_nil]; omega) | (simp only [Int.toNat_natCast]; first | omega | (show _ ∧ _; omega)) | decide, ?_⟩; conv => whnf))
                refine loopA ?_
                refine preA tbl_ok false 15 rfl rfl rfl (by kernel_rfl) rfl (andL_mem (by repeat' (first | exact trivial | refine ⟨?_, ?_⟩ | (show _ ∧ _; omega) | omega))) ?_
                refine splitA [16] (by kernel_rfl) ⟨?_, trivial⟩
                refine go tbl_ok false ?_
                conv => whnf
                refine storeW (j := r2.2.2) tbl_ok rfl rfl rfl rfl rfl rfl rfl rfl _ (upd_hole (j := r2.2.2.toNat) (xs := r.2.2.nodes) (e := GNode.c) (x := ⟨(r.2.2.nodes.getD r2.2.2.toNat default).kind, (r.2.2.nodes.getD r2.2.2.toNat default).a, (r.2.2.nodes.getD r2.2.2.toNat default).b, (r.2.2.nodes.getD r2.2.2.toNat default).outs ++ [r4.2.2 - 1]⟩) (by omega) rfl) (go tbl_ok false ?_)
                conv => whnf
                refine loopA ?_
                refine doneA (by kernel_rfl) (go tbl_ok false ?_)
                conv => whnf
    all_goals
      have h4 := hr4.2.2.2 (by decide)
      have h5 := hr4.2.1
      exact retP tbl_ok (r4.1, r4.2.1, ⟨r.2.2.nodes.set r2.2.2.toNat ⟨(r.2.2.nodes.getD r2.2.2.toNat default).kind, (r.2.2.nodes.getD r2.2.2.toNat default).a, (r.2.2.nodes.getD r2.2.2.toNat default).b, (r.2.2.nodes.getD r2.2.2.toNat default).outs ++ [r4.2.2 - 1]⟩, r.2.2.workers, r.2.2.cap⟩) ⟨hr4.1, graphA_mk (allM_set hm ((nodeD_o (m := 10) ⟨hx.1, hx2⟩ (by decide) (in_mk (by omega) (by omega))).m (by decide))) (by rw [List.length_set]; omega) (in_mk (by omega) (by omega)) (in_mk (by omega) (by omega))⟩ rfl rfl rfl rfl (by repeat' (first | exact trivial | exact outC_val _ _ | exact rfl | exact .inr ⟨rfl, rfl, _, _, rfl⟩ | refine ⟨?_, ?_⟩))
  repeat (first | (refine ite_f (by first | with_reducible rfl | assumption | (simp; done) | fail) ?_; conv => whnf) | (refine ite_t (by first | with_reducible rfl | assumption | (simp; done) | fail) ?_; conv => whnf) | (refine ⟨by first | omega | (show _ ∧ _; omega) | ((repeat (first | rw [ByteArray.size_append] | rw [bsz] | rw [List.size_toArray] | rw [List.length_cons] | rw [List.length_nil])) <;> omega) | ((repeat rw [Int.toNat_natCast]) <;> first | omega | (show _ ∧ _; omega)) | (simp only [ByteArray.size_append, bsz, List.size_toArray, List.length_cons, List.length_nil]; omega) | (simp only [Int.toNat_natCast]; first | omega | (show _ ∧ _; omega)) | decide, ?_⟩; conv => whnf))
  refine ⟨fun c4 => ?_, fun c4 => ?_⟩ <;> conv => whnf
  · repeat (first | (refine ite_f (by first | with_reducible rfl | assumption | (simp; done) | fail) ?_; conv => whnf) | (refine ite_t (by first | with_reducible rfl | assumption | (simp; done) | fail) ?_; conv => whnf) | (refine ⟨by first | omega | (show _ ∧ _; omega) | ((repeat (first | rw [ByteArray.size_append] | rw [bsz] | rw [List.size_toArray] | rw [List.length_cons] | rw [List.length_nil])) <;> omega) | ((repeat rw [Int.toNat_natCast]) <;> first | omega | (show _ ∧ _; omega)) | (simp only [ByteArray.size_append, bsz, List.size_toArray, List.length_cons, List.length_nil]; omega) | (simp only [Int.toNat_natCast]; first | omega | (show _ ∧ _; omega)) | decide, ?_⟩; conv => whnf))
    refine loopW tbl_ok false [6, 9] (fun j : JGr => []) (fun j => [⟨0, [.c (.val d.v), .c (vi j.i), .c (vi j.h)]⟩, ⟨3, [.own 2, .c (vi r.2.2.workers), .c (vi r.2.2.cap)]⟩, ⟨1, [.c (.val (.slice none 0 0)), .c (vi 0), .c (vi 0)]⟩]) (fun j => [⟨2, sGNode j.xs⟩]) (fun j => (0 ≤ j.i ∧ j.i ≤ d.n) ∧ AllM j.xs ∧ j.xs.length ≤ 9) (fun j => 9 - j.xs.length) (⟨r3.1, r3.2.1, r.2.2.nodes⟩) (⟨hr3.1, hm, Nat.le_trans hl.2 (by decide)⟩) trivial (by repeat' (first | exact trivial | exact rfl | refine ⟨?_, ?_⟩)) ⟨by first | rfl | exact (congrArg (fun l => slC _ _ l) (List.append_nil _)).symm | (show (_ : Cell) = _; simp) | simp, trivial⟩ (by first | exact trivial | exact ⟨rfl, trivial⟩) (by kernel_rfl) (fun j hj => ?_)
    conv => whnf
    obtain ⟨hi2, hm2, hl2⟩ := hj
    refine drawA rfl ?_
    refine preA tbl_ok false 0 rfl rfl rfl (by kernel_rfl) rfl (andL_mem (by repeat' (first | exact trivial | refine ⟨?_, ?_⟩ | (show _ ∧ _; omega) | omega))) ?_
    refine preA tbl_ok false 3 rfl rfl rfl (by kernel_rfl) rfl (andL_mem (by repeat' (first | exact trivial | refine ⟨?_, ?_⟩ | (show _ ∧ _; omega) | omega))) ?_
    refine splitA [1, 4] (by kernel_rfl) ⟨?_, ?_, trivial⟩
    focus
      refine go tbl_ok false ?_
      conv => whnf
      refine loopA ?_
      refine splitA [2, 4] (by kernel_rfl) ⟨?_, ?_, trivial⟩
      focus
        refine go tbl_ok false ?_
        conv => whnf
        refine loopA ?_
        refine splitA [4] (by kernel_rfl) ⟨?_, trivial⟩
        refine go tbl_ok false ?_
        conv => whnf
        refine callP (curBelow d j.i j.h 2 hi2 (by decide)) hH hp rfl (by repeat' (first | exact trivial | exact outC_val _ _ | exact rfl | exact .inr ⟨rfl, rfl, _, _, rfl⟩ | refine ⟨?_, ?_⟩)) rfl rfl (fun r9 hr9 => go tbl_ok false ?_)
        conv => whnf
        refine loopA ?_
        refine preA tbl_ok false 5 rfl rfl rfl (by kernel_rfl) rfl (andL_mem (by repeat' (first | exact trivial | refine ⟨?_, ?_⟩ | (show _ ∧ _; omega) | omega))) ?_
        refine preA tbl_ok false 6 rfl rfl rfl (by kernel_rfl) rfl (andL_mem (by repeat' (first | exact trivial | refine ⟨?_, ?_⟩ | (show _ ∧ _; omega) | omega))) ?_
        refine doneA (by kernel_rfl) (go tbl_ok false ?_)
        conv => whnf
      rotate_left 1
      focus
        refine go tbl_ok false ?_
        conv => whnf
        refine callP (curBelow d j.i j.h 2 hi2 (by decide)) hH hp rfl (by repeat' (first | exact trivial | exact outC_val _ _ | exact rfl | exact .inr ⟨rfl, rfl, _, _, rfl⟩ | refine ⟨?_, ?_⟩)) rfl rfl (fun r9 hr9 => go tbl_ok false ?_)
        conv => whnf
        refine loopA ?_
        refine preA tbl_ok false 5 rfl rfl rfl (by kernel_rfl) rfl (andL_mem (by repeat' (first | exact trivial | refine ⟨?_, ?_⟩ | (show _ ∧ _; omega) | omega))) ?_
        refine splitA [2] (by kernel_rfl) ⟨?_, trivial⟩
        refine go tbl_ok false ?_
        conv => whnf
        refine loopA ?_
        refine preA tbl_ok false 6 rfl rfl rfl (by kernel_rfl) rfl (andL_mem (by repeat' (first | exact trivial | refine ⟨?_, ?_⟩ | (show _ ∧ _; omega) | omega))) ?_
        refine doneA (by kernel_rfl) (go tbl_ok false ?_)
        conv => whnf
    rotate_left 2
    focus
      refine go tbl_ok false ?_
      conv => whnf
      refine callP (curBelow d j.i j.h 2 hi2 (by decide)) hH hp rfl (by repeat' (first | exact trivial | exact outC_val _ _ | exact rfl | exact .inr ⟨rfl, rfl, _, _, rfl⟩ | refine ⟨?_, ?_⟩)) rfl rfl (fun r9 hr9 => go tbl_ok false ?_)
      conv => whnf
      refine loopA ?_
      refine preA tbl_ok false 5 rfl rfl rfl (by kernel_rfl) rfl (andL_mem (by repeat' (first | exact trivial | refine ⟨?_, ?_⟩ | (show _ ∧ _; omega) | omega))) ?_
      refine splitA [1] (by kernel_rfl) ⟨?_, trivial⟩
      refine go tbl_ok false ?_
      conv => whnf
      refine loopA ?_
      refine splitA [2] (by kernel_rfl) ⟨?_, trivial⟩
      refine go tbl_ok false ?_
      conv => whnf
      refine loopA ?_
      refine preA tbl_ok false 6 rfl rfl rfl (by kernel_rfl) rfl (andL_mem (by repeat' (first | exact trivial | refine ⟨?_, ?_⟩ | (show _ ∧ _; omega) | omega))) ?_
      refine doneA (by kernel_rfl) (go tbl_ok false ?_)
      conv => whnf
    all_goals
      have hn9 := hr9.2.2.2 (by decide)
      have hn8 := hr9.2.1
      (repeat (refine ⟨by first | omega | (show _ ∧ _; omega) | ((repeat (first | rw [ByteArray.size_append] | rw [bsz] | rw [List.size_toArray] | rw [List.length_cons] | rw [List.length_nil])) <;> omega) | ((repeat rw [Int.toNat_natCast]) <;> first | omega | (show _ ∧ _; omega)) | (simp only [ByteArray.size_append, bsz, List.size_toArray, List.length_cons, List.length_nil]; omega) | (simp only [Int.toNat_natCast]; first | omega | (show _ ∧ _; omega)) | decide, ?_⟩; conv => whnf))
      refine ⟨fun hlt => have hlt := of_decide_eq_true hlt; ?_, fun hlt => have hlt := of_decide_eq_false hlt; ?_⟩ <;> conv => whnf
      · refine castW 4 (sGNode [⟨8, 0, 0, []⟩]) rfl (cast_rowsC rfl (by repeat' (first | exact trivial | exact .inl rfl | exact .inr ⟨rfl, _, _, rfl⟩ | refine ⟨?_, ?_⟩))) ?_
        refine appW tbl_ok rfl rfl rfl rfl rfl rfl rfl rfl rfl rfl rfl (sGNode (j.xs ++ [⟨8, 0, 0, []⟩])) (slC_snoc (xs := j.xs) (x := ⟨8, 0, 0, []⟩) (e := GNode.c) rfl) (by intro h; cases h) (by simp only [List.length_cons, List.length_nil]; omega) (go tbl_ok false ?_)
        conv => whnf
        refine loopE [(2, 5)] (⟨r9.1, r9.2.1, j.xs ++ [⟨8, 0, 0, []⟩]⟩) (⟨hr9.1, allM_snoc hm2 node8, by rw [List.length_append]; show _ + 1 ≤ 9; omega⟩) (by show 9 - (j.xs ++ [(⟨8, 0, 0, []⟩ : GNode)]).length < _; rw [List.length_append]; show 9 - (_ + 1) < _; omega) trivial ⟨rfl, trivial⟩ (by repeat' (first | exact trivial | exact rfl | refine ⟨?_, ?_⟩)) (by kernel_rfl) (by first | exact trivial | exact ⟨rfl, trivial⟩) (by kernel_rfl)
      · exact retP tbl_ok (r9.1, r9.2.1, ⟨j.xs, r.2.2.workers, r.2.2.cap⟩) ⟨hr9.1, graphA_mk hm2 (by omega) (in_mk (by omega) (by omega)) (in_mk (by omega) (by omega))⟩ rfl rfl rfl rfl (by repeat' (first | exact trivial | exact outC_val _ _ | exact rfl | exact .inr ⟨rfl, rfl, _, _, rfl⟩ | refine ⟨?_, ?_⟩))
  repeat (first | (refine ite_f (by first | with_reducible rfl | assumption | (simp; done) | fail) ?_; conv => whnf) | (refine ite_t (by first | with_reducible rfl | assumption | (simp; done) | fail) ?_; conv => whnf) | (refine ⟨by first | omega | (show _ ∧ _; omega) | ((repeat (first | rw [ByteArray.size_append] | rw [bsz] | rw [List.size_toArray] | rw [List.length_cons] | rw [List.length_nil])) <;> omega) | ((repeat rw [Int.toNat_natCast]) <;> first | omega | (show _ ∧ _; omega)) | (simp only [ByteArray.size_append, bsz, List.size_toArray, List.length_cons, List.length_nil]; omega) | (simp only [Int.toNat_natCast]; first | omega | (show _ ∧ _; omega)) | decide, ?_⟩; conv => whnf))
  refine ⟨fun c5 => ?_, fun c5 => ?_⟩ <;> conv => whnf
  · repeat (first | (refine ite_f (by first | with_reducible rfl | assumption | (simp; done) | fail) ?_; conv => whnf) | (refine ite_t (by first | with_reducible rfl | assumption | (simp; done) | fail) ?_; conv => whnf) | (refine ⟨by first | omega | (show _ ∧ _; omega) | ((repeat (first | rw [ByteArray.size_append] | rw [bsz] | rw [List.size_toArray] | rw [List.length_cons] | rw [List.length_nil])) <;> omega) | ((repeat rw [Int.toNat_natCast]) <;> first | omega | (show _ ∧ _; omega)) | (simp only [ByteArray.size_append, bsz, List.size_toArray, List.length_cons, List.length_nil]; omega) | (simp only [Int.toNat_natCast]; first | omega | (show _ ∧ _; omega)) | decide, ?_⟩; conv => whnf))
    refine prefW tbl_ok rfl rfl rfl rfl rfl rfl rfl rfl rfl ⟨hk0, by omega⟩ (by omega) _ rfl (go tbl_ok false ?_)
    conv => whnf
    refine castR 4 (sGNode (r.2.2.nodes.take r2.2.2.toNat)) rfl (cast_take (by omega)) ?_
    exact retP tbl_ok (r3.1, r3.2.1, ⟨r.2.2.nodes.take r2.2.2.toNat, r.2.2.workers, r.2.2.cap⟩) ⟨hr3.1, graphA_mk (allM_take _ hm) (by rw [List.length_take]; omega) (in_mk (by omega) (by omega)) (in_mk (by omega) (by omega))⟩ rfl rfl rfl rfl (by repeat' (first | exact trivial | exact outC_val _ _ | exact rfl | exact .inr ⟨rfl, rfl, _, _, rfl⟩ | refine ⟨?_, ?_⟩))
  · repeat (first | (refine ite_f (by first | with_reducible rfl | assumption | (simp; done) | fail) ?_; conv => whnf) | (refine ite_t (by first | with_reducible rfl | assumption | (simp; done) | fail) ?_; conv => whnf) | (refine ⟨by first | omega | (show _ ∧ _; omega) | ((repeat (first | rw [ByteArray.size_append] | rw [bsz] | rw [List.size_toArray] | rw [List.length_cons] | rw [List.length_nil])) <;> omega) | ((repeat rw [Int.toNat_natCast]) <;> first | omega | (show _ ∧ _; omega)) | (simp only [ByteArray.size_append, bsz, List.size_toArray, List.length_cons, List.length_nil]; omega) | (simp only [Int.toNat_natCast]; first | omega | (show _ ∧ _; omega)) | decide, ?_⟩; conv => whnf))
    exact retP tbl_ok (r3.1, r3.2.1, r.2.2) ⟨hr3.1, graphA_mk (ns := r.2.2.nodes) (a := r.2.2.workers) (b := r.2.2.cap) hm (by omega) (in_mk (by omega) (by omega)) (in_mk (by omega) (by omega))⟩ rfl rfl rfl rfl (by repeat' (first | exact trivial | exact outC_val _ _ | exact rfl | exact .inr ⟨rfl, rfl, _, _, rfl⟩ | refine ⟨?_, ?_⟩))
theorem drawGL (d : DCode) : MeetsC Tryz.prog HT 26 d.pins [] [.one (.val d.v)] (fun g : GGraph => GraphA g) (fun g => [.agg g.c]) := by
  refine enterC tbl_ok false Tryz.func26 rfl (by decide) fun B hH hp => ?_
  conv => whnf
  refine callN (curNew d) hp rfl (fun h0 _ => go tbl_ok false ?_)
  conv => whnf
  refine callP (curAnyGraph d 0 h0 ⟨Int.le_refl _, Int.natCast_nonneg _⟩) hH hp rfl (by repeat' (first | exact trivial | exact outC_val _ _ | exact rfl | exact .inr ⟨rfl, rfl, _, _, rfl⟩ | refine ⟨?_, ?_⟩)) rfl rfl (fun r hr => go tbl_ok false ?_)
  conv => whnf
  exact retC tbl_ok r.2.2 hr.2 rfl rfl (by repeat' (first | exact trivial | exact outC_val _ _ | exact rfl | exact .inr ⟨rfl, rfl, _, _, rfl⟩ | refine ⟨?_, ?_⟩))

end Go.Proofs.YtcpjpkcahnldfaaGreatDoor
