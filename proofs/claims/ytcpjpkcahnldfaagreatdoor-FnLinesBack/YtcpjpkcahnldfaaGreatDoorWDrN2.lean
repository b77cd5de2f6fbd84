/- Texts for the law FnLinesBack: WDrN2. No conditions. -/
import Derived.Test.YtcpjpkcahnldfaaGreatDoorWDrN
import Derived.Test.YtcpjpkcahnldfaaGreatDoorWCurP

set_option maxRecDepth 100000
namespace Go.Proofs.YtcpjpkcahnldfaaGreatDoor
open Go.Sx
theorem NodeD.to {m m' : Nat} {x : GNode} (h : NodeD m x) (hm : m ≤ m') : NodeD m' x := ⟨h.1, Nat.le_trans h.2 hm⟩
theorem nodeD_k {m m' : Nat} {x : GNode} {k : Int} (h : NodeD m x) (hm : m ≤ m') (hk : inR .i64 k) : NodeD m' ⟨k, x.a, x.b, x.outs⟩ := ⟨⟨hk, h.1.2⟩, Nat.le_trans h.2 hm⟩
theorem nodeD_a {m m' : Nat} {x : GNode} {k : Int} (h : NodeD m x) (hm : m ≤ m') (hk : inR .i64 k) : NodeD m' ⟨x.kind, k, x.b, x.outs⟩ := ⟨⟨h.1.1, hk, h.1.2.2⟩, Nat.le_trans h.2 hm⟩
theorem nodeD_b {m m' : Nat} {x : GNode} {k : Int} (h : NodeD m x) (hm : m ≤ m') (hk : inR .i64 k) : NodeD m' ⟨x.kind, x.a, k, x.outs⟩ := ⟨⟨h.1.1, h.1.2.1, hk, h.1.2.2.2⟩, Nat.le_trans h.2 hm⟩
theorem nodeD_o {m : Nat} {x : GNode} {k : Int} (h : NodeD m x) (hm : m ≤ 1000) (hk : inR .i64 k) : NodeD (m + 1) ⟨x.kind, x.a, x.b, x.outs ++ [k]⟩ := by
  have hl := h.2
  refine ⟨⟨h.1.1, h.1.2.1, h.1.2.2.1, ?_, fun n hn => ?_⟩, ?_⟩
  · show (x.outs ++ [k]).length ≤ maxLen
    rw [List.length_append, List.length_singleton, maxLen]; omega
  · rcases List.mem_append.1 hn with hn | hn
    · exact h.1.2.2.2.2 n hn
    · rw [List.mem_singleton.1 hn]; exact hk
  · show (x.outs ++ [k]).length ≤ m + 1
    rw [List.length_append, List.length_singleton]; omega
set_option maxHeartbeats 2000000 in
theorem curAnyNode (d : DCode) (i h : Int) (hi : 0 ≤ i ∧ i ≤ d.n) : MeetsP Tryz.prog HT 51 d.pins (d.cur i h) [] (fun r : Int × Int × GNode => (0 ≤ r.1 ∧ r.1 ≤ d.n) ∧ NodeD 3 r.2.2) (fun r => d.cur r.1 r.2.1) (fun r => [.agg r.2.2.c]) := by
  refine enterP tbl_ok false Tryz.func51 rfl (by decide) fun B b hH hp => ?_
  conv => whnf
  refine callP (curNode d i h hi) hH hp rfl (by repeat' (first | exact trivial | exact outC_val _ _ | exact rfl | exact .inr ⟨rfl, rfl, _, _, rfl⟩ | refine ⟨?_, ?_⟩)) rfl rfl (fun r hr => go tbl_ok false ?_)
  conv => whnf
  have hl := hr.2.2
  refine callP (curBelow d r.1 r.2.1 12 hr.1 (by decide)) hH hp rfl (by repeat' (first | exact trivial | exact outC_val _ _ | exact rfl | exact .inr ⟨rfl, rfl, _, _, rfl⟩ | refine ⟨?_, ?_⟩)) rfl rfl (fun r2 hr2 => go tbl_ok false ?_)
  conv => whnf
  refine ⟨fun c0 => ?_, fun c0 => ?_⟩ <;> conv => whnf
  · repeat (first | (refine ite_f (by first | with_reducible rfl | assumption | (simp; done) | fail) ?_; conv => whnf) | (refine ite_t (by first | with_reducible rfl | assumption | (simp; done) | fail) ?_; conv => whnf) | (refine ⟨by first | omega | (show _ ∧ _; omega) | ((repeat (first | rw [ByteArray.size_append] | rw [bsz] | rw [List.size_toArray] | rw [List.length_cons] | rw [List.length_nil])) <;> omega) | ((repeat rw [Int.toNat_natCast]) <;> first | omega | (show _ ∧ _; omega)) | (simp only [ByteArray.size_append, bsz, List.size_toArray, List.length_cons, List.length_nil]; omega) | (simp only [Int.toNat_natCast]; first | omega | (show _ ∧ _; omega)) | decide, ?_⟩; conv => whnf))
    refine callP (curBelow d r2.1 r2.2.1 11 hr2.1 (by decide)) hH hp rfl (by repeat' (first | exact trivial | exact outC_val _ _ | exact rfl | exact .inr ⟨rfl, rfl, _, _, rfl⟩ | refine ⟨?_, ?_⟩)) rfl rfl (fun r3 hr3 => go tbl_ok false ?_)
    conv => whnf
    have h3 := hr3.2.2.2 (by decide)
    have h4 := hr3.2.1
    (repeat (refine ⟨by first | omega | (show _ ∧ _; omega) | ((repeat (first | rw [ByteArray.size_append] | rw [bsz] | rw [List.size_toArray] | rw [List.length_cons] | rw [List.length_nil])) <;> omega) | ((repeat rw [Int.toNat_natCast]) <;> first | omega | (show _ ∧ _; omega)) | (simp only [ByteArray.size_append, bsz, List.size_toArray, List.length_cons, List.length_nil]; omega) | (simp only [Int.toNat_natCast]; first | omega | (show _ ∧ _; omega)) | decide, ?_⟩; conv => whnf))
    exact retP tbl_ok (r3.1, r3.2.1, ⟨r3.2.2 - 1, r.2.2.a, r.2.2.b, r.2.2.outs⟩) ⟨hr3.1, nodeD_k hr.2 (by decide) (in_mk (by omega) (by omega))⟩ rfl rfl rfl rfl (by repeat' (first | exact trivial | exact outC_val _ _ | exact rfl | exact .inr ⟨rfl, rfl, _, _, rfl⟩ | refine ⟨?_, ?_⟩))
  repeat (first | (refine ite_f (by first | with_reducible rfl | assumption | (simp; done) | fail) ?_; conv => whnf) | (refine ite_t (by first | with_reducible rfl | assumption | (simp; done) | fail) ?_; conv => whnf) | (refine ⟨by first | omega | (show _ ∧ _; omega) | ((repeat (first | rw [ByteArray.size_append] | rw [bsz] | rw [List.size_toArray] | rw [List.length_cons] | rw [List.length_nil])) <;> omega) | ((repeat rw [Int.toNat_natCast]) <;> first | omega | (show _ ∧ _; omega)) | (simp only [ByteArray.size_append, bsz, List.size_toArray, List.length_cons, List.length_nil]; omega) | (simp only [Int.toNat_natCast]; first | omega | (show _ ∧ _; omega)) | decide, ?_⟩; conv => whnf))
  refine ⟨fun c1 => ?_, fun c1 => ?_⟩ <;> conv => whnf
  · repeat (first | (refine ite_f (by first | with_reducible rfl | assumption | (simp; done) | fail) ?_; conv => whnf) | (refine ite_t (by first | with_reducible rfl | assumption | (simp; done) | fail) ?_; conv => whnf) | (refine ⟨by first | omega | (show _ ∧ _; omega) | ((repeat (first | rw [ByteArray.size_append] | rw [bsz] | rw [List.size_toArray] | rw [List.length_cons] | rw [List.length_nil])) <;> omega) | ((repeat rw [Int.toNat_natCast]) <;> first | omega | (show _ ∧ _; omega)) | (simp only [ByteArray.size_append, bsz, List.size_toArray, List.length_cons, List.length_nil]; omega) | (simp only [Int.toNat_natCast]; first | omega | (show _ ∧ _; omega)) | decide, ?_⟩; conv => whnf))
    refine castC 4 (sInt [-1, 0, 1000, 100, 11]) rfl (cast_rows rfl (by repeat' (first | exact trivial | exact rfl | refine ⟨?_, ?_⟩))) ?_
    refine callP (curPickInt d r2.1 r2.2.1 [-1, 0, 1000, 100, 11] hr2.1 (by decide)) hH hp rfl (by repeat' (first | exact trivial | exact outC_val _ _ | exact rfl | exact .inr ⟨rfl, rfl, _, _, rfl⟩ | refine ⟨?_, ?_⟩)) rfl rfl (fun r3 hr3 => go tbl_ok false ?_)
    conv => whnf
    exact retP tbl_ok (r3.1, r3.2.1, ⟨r.2.2.kind, [-1, 0, 1000, 100, 11].getD r3.2.2 0, r.2.2.b, r.2.2.outs⟩) ⟨hr3.1, nodeD_a hr.2 (by decide) (ints_in _ _ (by intro x hx; simp only [List.mem_cons, List.not_mem_nil, or_false] at hx; show _ ∧ _; omega))⟩ rfl rfl rfl rfl (by repeat' (first | exact trivial | exact outC_val _ _ | exact rfl | exact .inr ⟨rfl, rfl, _, _, rfl⟩ | refine ⟨?_, ?_⟩))
  repeat (first | (refine ite_f (by first | with_reducible rfl | assumption | (simp; done) | fail) ?_; conv => whnf) | (refine ite_t (by first | with_reducible rfl | assumption | (simp; done) | fail) ?_; conv => whnf) | (refine ⟨by first | omega | (show _ ∧ _; omega) | ((repeat (first | rw [ByteArray.size_append] | rw [bsz] | rw [List.size_toArray] | rw [List.length_cons] | rw [List.length_nil])) <;> omega) | ((repeat rw [Int.toNat_natCast]) <;> first | omega | (show _ ∧ _; omega)) | (simp only [ByteArray.size_append, bsz, List.size_toArray, List.length_cons, List.length_nil]; omega) | (simp only [Int.toNat_natCast]; first | omega | (show _ ∧ _; omega)) | decide, ?_⟩; conv => whnf))
  refine ⟨fun c2 => ?_, fun c2 => ?_⟩ <;> conv => whnf
  · repeat (first | (refine ite_f (by first | with_reducible rfl | assumption | (simp; done) | fail) ?_; conv => whnf) | (refine ite_t (by first | with_reducible rfl | assumption | (simp; done) | fail) ?_; conv => whnf) | (refine ⟨by first | omega | (show _ ∧ _; omega) | ((repeat (first | rw [ByteArray.size_append] | rw [bsz] | rw [List.size_toArray] | rw [List.length_cons] | rw [List.length_nil])) <;> omega) | ((repeat rw [Int.toNat_natCast]) <;> first | omega | (show _ ∧ _; omega)) | (simp only [ByteArray.size_append, bsz, List.size_toArray, List.length_cons, List.length_nil]; omega) | (simp only [Int.toNat_natCast]; first | omega | (show _ ∧ _; omega)) | decide, ?_⟩; conv => whnf))
    refine castC 4 (sInt [-1, 1, 3]) rfl (cast_rows rfl (by repeat' (first | exact trivial | exact rfl | refine ⟨?_, ?_⟩))) ?_
    refine callP (curPickInt d r2.1 r2.2.1 [-1, 1, 3] hr2.1 (by decide)) hH hp rfl (by repeat' (first | exact trivial | exact outC_val _ _ | exact rfl | exact .inr ⟨rfl, rfl, _, _, rfl⟩ | refine ⟨?_, ?_⟩)) rfl rfl (fun r3 hr3 => go tbl_ok false ?_)
    conv => whnf
    exact retP tbl_ok (r3.1, r3.2.1, ⟨r.2.2.kind, r.2.2.a, [-1, 1, 3].getD r3.2.2 0, r.2.2.outs⟩) ⟨hr3.1, nodeD_b hr.2 (by decide) (ints_in _ _ (by intro x hx; simp only [List.mem_cons, List.not_mem_nil, or_false] at hx; show _ ∧ _; omega))⟩ rfl rfl rfl rfl (by repeat' (first | exact trivial | exact outC_val _ _ | exact rfl | exact .inr ⟨rfl, rfl, _, _, rfl⟩ | refine ⟨?_, ?_⟩))
  repeat (first | (refine ite_f (by first | with_reducible rfl | assumption | (simp; done) | fail) ?_; conv => whnf) | (refine ite_t (by first | with_reducible rfl | assumption | (simp; done) | fail) ?_; conv => whnf) | (refine ⟨by first | omega | (show _ ∧ _; omega) | ((repeat (first | rw [ByteArray.size_append] | rw [bsz] | rw [List.size_toArray] | rw [List.length_cons] | rw [List.length_nil])) <;> omega) | ((repeat rw [Int.toNat_natCast]) <;> first | omega | (show _ ∧ _; omega)) | (simp only [ByteArray.size_append, bsz, List.size_toArray, List.length_cons, List.length_nil]; omega) | (simp only [Int.toNat_natCast]; first | omega | (show _ ∧ _; omega)) | decide, ?_⟩; conv => whnf))
  refine ⟨fun c3 => ?_, fun c3 => ?_⟩ <;> conv => whnf
  · repeat (first | (refine ite_f (by first | with_reducible rfl | assumption | (simp; done) | fail) ?_; conv => whnf) | (refine ite_t (by first | with_reducible rfl | assumption | (simp; done) | fail) ?_; conv => whnf) | (refine ⟨by first | omega | (show _ ∧ _; omega) | ((repeat (first | rw [ByteArray.size_append] | rw [bsz] | rw [List.size_toArray] | rw [List.length_cons] | rw [List.length_nil])) <;> omega) | ((repeat rw [Int.toNat_natCast]) <;> first | omega | (show _ ∧ _; omega)) | (simp only [ByteArray.size_append, bsz, List.size_toArray, List.length_cons, List.length_nil]; omega) | (simp only [Int.toNat_natCast]; first | omega | (show _ ∧ _; omega)) | decide, ?_⟩; conv => whnf))
    refine drawA rfl ?_
    refine preA tbl_ok false 0 rfl rfl rfl (by kernel_rfl) rfl (andL_mem (by repeat' (first | exact trivial | refine ⟨?_, ?_⟩ | (show _ ∧ _; omega) | omega))) ?_
    refine preA tbl_ok false 2 rfl rfl rfl (by kernel_rfl) rfl (andL_mem (by repeat' (first | exact trivial | refine ⟨?_, ?_⟩ | (show _ ∧ _; omega) | omega))) ?_
    refine splitA [1, 3] (by kernel_rfl) ⟨?_, ?_, trivial⟩
    focus
      refine go tbl_ok false ?_
      conv => whnf
      refine loopA ?_
      refine splitA [3] (by kernel_rfl) ⟨?_, trivial⟩
      refine go tbl_ok false ?_
      conv => whnf
      refine loopA ?_
      refine splitA [4] (by kernel_rfl) ⟨?_, trivial⟩
      refine go tbl_ok false ?_
      conv => whnf
      refine castC 4 (sInt [1, 7, 8, -1]) rfl (cast_rows rfl (by repeat' (first | exact trivial | exact rfl | refine ⟨?_, ?_⟩))) ?_
      refine callP (curPickInt d r2.1 r2.2.1 [1, 7, 8, -1] hr2.1 (by decide)) hH hp rfl (by repeat' (first | exact trivial | exact outC_val _ _ | exact rfl | exact .inr ⟨rfl, rfl, _, _, rfl⟩ | refine ⟨?_, ?_⟩)) rfl rfl (fun r3 hr3 => go tbl_ok false ?_)
      conv => whnf
      refine loopA ?_
      refine splitA [5] (by kernel_rfl) ⟨?_, trivial⟩
      refine go tbl_ok false ?_
      conv => whnf
      refine loopA ?_
      refine splitA [6] (by kernel_rfl) ⟨?_, trivial⟩
      refine go tbl_ok false ?_
      conv => whnf
      refine appW tbl_ok rfl rfl rfl rfl rfl rfl rfl rfl rfl rfl rfl (sInt (r.2.2.outs ++ [[1, 7, 8, -1].getD r3.2.2 0])) (slC_snoc rfl) (by intro h; cases h) (by omega) (go tbl_ok false ?_)
      conv => whnf
      refine loopA ?_
      refine preA tbl_ok false 7 rfl rfl rfl (by kernel_rfl) rfl (andL_mem (by repeat' (first | exact trivial | refine ⟨?_, ?_⟩ | (show _ ∧ _; omega) | omega))) ?_
      refine splitA [8] (by kernel_rfl) ⟨?_, trivial⟩
      refine go tbl_ok false ?_
      conv => whnf
      refine loopA ?_
      refine doneA (by kernel_rfl) (go tbl_ok false ?_)
      conv => whnf
    rotate_left 1
    focus
      refine go tbl_ok false ?_
      conv => whnf
      refine loopA ?_
      refine splitA [1, 4] (by kernel_rfl) ⟨?_, ?_, trivial⟩
      focus
        refine go tbl_ok false ?_
        conv => whnf
        refine loopA ?_
        refine splitA [4] (by kernel_rfl) ⟨?_, trivial⟩
        refine go tbl_ok false ?_
        conv => whnf
        refine castC 4 (sInt [1, 7, 8, -1]) rfl (cast_rows rfl (by repeat' (first | exact trivial | exact rfl | refine ⟨?_, ?_⟩))) ?_
        refine callP (curPickInt d r2.1 r2.2.1 [1, 7, 8, -1] hr2.1 (by decide)) hH hp rfl (by repeat' (first | exact trivial | exact outC_val _ _ | exact rfl | exact .inr ⟨rfl, rfl, _, _, rfl⟩ | refine ⟨?_, ?_⟩)) rfl rfl (fun r3 hr3 => go tbl_ok false ?_)
        conv => whnf
        refine loopA ?_
        refine splitA [5] (by kernel_rfl) ⟨?_, trivial⟩
        refine go tbl_ok false ?_
        conv => whnf
        refine loopA ?_
        refine splitA [6] (by kernel_rfl) ⟨?_, trivial⟩
        refine go tbl_ok false ?_
        conv => whnf
        refine appW tbl_ok rfl rfl rfl rfl rfl rfl rfl rfl rfl rfl rfl (sInt (r.2.2.outs ++ [[1, 7, 8, -1].getD r3.2.2 0])) (slC_snoc rfl) (by intro h; cases h) (by omega) (go tbl_ok false ?_)
        conv => whnf
        refine loopA ?_
        refine preA tbl_ok false 7 rfl rfl rfl (by kernel_rfl) rfl (andL_mem (by repeat' (first | exact trivial | refine ⟨?_, ?_⟩ | (show _ ∧ _; omega) | omega))) ?_
        refine splitA [8] (by kernel_rfl) ⟨?_, trivial⟩
        refine go tbl_ok false ?_
        conv => whnf
        refine loopA ?_
        refine doneA (by kernel_rfl) (go tbl_ok false ?_)
        conv => whnf
      rotate_left 1
      focus
        refine go tbl_ok false ?_
        conv => whnf
        refine castC 4 (sInt [1, 7, 8, -1]) rfl (cast_rows rfl (by repeat' (first | exact trivial | exact rfl | refine ⟨?_, ?_⟩))) ?_
        refine callP (curPickInt d r2.1 r2.2.1 [1, 7, 8, -1] hr2.1 (by decide)) hH hp rfl (by repeat' (first | exact trivial | exact outC_val _ _ | exact rfl | exact .inr ⟨rfl, rfl, _, _, rfl⟩ | refine ⟨?_, ?_⟩)) rfl rfl (fun r3 hr3 => go tbl_ok false ?_)
        conv => whnf
        refine loopA ?_
        refine splitA [1, 5] (by kernel_rfl) ⟨?_, ?_, trivial⟩
        focus
          refine go tbl_ok false ?_
          conv => whnf
          refine loopA ?_
          refine splitA [5] (by kernel_rfl) ⟨?_, trivial⟩
          refine go tbl_ok false ?_
          conv => whnf
          refine loopA ?_
          refine splitA [6] (by kernel_rfl) ⟨?_, trivial⟩
          refine go tbl_ok false ?_
          conv => whnf
          refine appW tbl_ok rfl rfl rfl rfl rfl rfl rfl rfl rfl rfl rfl (sInt (r.2.2.outs ++ [[1, 7, 8, -1].getD r3.2.2 0])) (slC_snoc rfl) (by intro h; cases h) (by omega) (go tbl_ok false ?_)
          conv => whnf
          refine loopA ?_
          refine preA tbl_ok false 7 rfl rfl rfl (by kernel_rfl) rfl (andL_mem (by repeat' (first | exact trivial | refine ⟨?_, ?_⟩ | (show _ ∧ _; omega) | omega))) ?_
          refine splitA [8] (by kernel_rfl) ⟨?_, trivial⟩
          refine go tbl_ok false ?_
          conv => whnf
          refine loopA ?_
          refine doneA (by kernel_rfl) (go tbl_ok false ?_)
          conv => whnf
        rotate_left 1
        focus
          refine go tbl_ok false ?_
          conv => whnf
          refine loopA ?_
          refine splitA [1] (by kernel_rfl) ⟨?_, trivial⟩
          refine go tbl_ok false ?_
          conv => whnf
          refine loopA ?_
          refine splitA [6] (by kernel_rfl) ⟨?_, trivial⟩
          refine go tbl_ok false ?_
          conv => whnf
          refine appW tbl_ok rfl rfl rfl rfl rfl rfl rfl rfl rfl rfl rfl (sInt (r.2.2.outs ++ [[1, 7, 8, -1].getD r3.2.2 0])) (slC_snoc rfl) (by intro h; cases h) (by omega) (go tbl_ok false ?_)
          conv => whnf
          refine loopA ?_
          refine preA tbl_ok false 7 rfl rfl rfl (by kernel_rfl) rfl (andL_mem (by repeat' (first | exact trivial | refine ⟨?_, ?_⟩ | (show _ ∧ _; omega) | omega))) ?_
          refine splitA [8] (by kernel_rfl) ⟨?_, trivial⟩
          refine go tbl_ok false ?_
          conv => whnf
          refine loopA ?_
          refine doneA (by kernel_rfl) (go tbl_ok false ?_)
          conv => whnf
    all_goals exact retP tbl_ok (r3.1, r3.2.1, ⟨r.2.2.kind, r.2.2.a, r.2.2.b, r.2.2.outs ++ [[1, 7, 8, -1].getD r3.2.2 0]⟩) ⟨hr3.1, nodeD_o hr.2 (by decide) (ints_in _ _ (by intro x hx; simp only [List.mem_cons, List.not_mem_nil, or_false] at hx; show _ ∧ _; omega))⟩ rfl rfl rfl rfl (by repeat' (first | exact trivial | exact outC_val _ _ | exact rfl | exact .inr ⟨rfl, rfl, _, _, rfl⟩ | refine ⟨?_, ?_⟩))
  · repeat (first | (refine ite_f (by first | with_reducible rfl | assumption | (simp; done) | fail) ?_; conv => whnf) | (refine ite_t (by first | with_reducible rfl | assumption | (simp; done) | fail) ?_; conv => whnf) | (refine ⟨by first | omega | (show _ ∧ _; omega) | ((repeat (first | rw [ByteArray.size_append] | rw [bsz] | rw [List.size_toArray] | rw [List.length_cons] | rw [List.length_nil])) <;> omega) | ((repeat rw [Int.toNat_natCast]) <;> first | omega | (show _ ∧ _; omega)) | (simp only [ByteArray.size_append, bsz, List.size_toArray, List.length_cons, List.length_nil]; omega) | (simp only [Int.toNat_natCast]; first | omega | (show _ ∧ _; omega)) | decide, ?_⟩; conv => whnf))
    exact retP tbl_ok (r2.1, r2.2.1, r.2.2) ⟨hr2.1, hr.2.to (by decide)⟩ rfl rfl rfl rfl (by repeat' (first | exact trivial | exact outC_val _ _ | exact rfl | exact .inr ⟨rfl, rfl, _, _, rfl⟩ | refine ⟨?_, ?_⟩))
set_option maxHeartbeats 2000000 in
theorem curAnyPick (d : DCode) (i h : Int) (hi : 0 ≤ i ∧ i ≤ d.n) : MeetsP Tryz.prog HT 60 d.pins (d.cur i h) [] (fun r : Int × Int × GPick => (0 ≤ r.1 ∧ r.1 ≤ d.n) ∧ r.2.2.ok) (fun r => d.cur r.1 r.2.1) (fun r => [.agg r.2.2.c]) := by
  refine enterP tbl_ok false Tryz.func60 rfl (by decide) fun B b hH hp => ?_
  conv => whnf
  refine callP (curPickO d i h hi) hH hp rfl (by repeat' (first | exact trivial | exact outC_val _ _ | exact rfl | exact .inr ⟨rfl, rfl, _, _, rfl⟩ | refine ⟨?_, ?_⟩)) rfl rfl (fun r hr => go tbl_ok false ?_)
  conv => whnf
  refine callP (curBelow d r.1 r.2.1 10 hr.1 (by decide)) hH hp rfl (by repeat' (first | exact trivial | exact outC_val _ _ | exact rfl | exact .inr ⟨rfl, rfl, _, _, rfl⟩ | refine ⟨?_, ?_⟩)) rfl rfl (fun r2 hr2 => go tbl_ok false ?_)
  conv => whnf
  refine ⟨fun c0 => ?_, fun c0 => ?_⟩ <;> conv => whnf
  · repeat (first | (refine ite_f (by first | with_reducible rfl | assumption | (simp; done) | fail) ?_; conv => whnf) | (refine ite_t (by first | with_reducible rfl | assumption | (simp; done) | fail) ?_; conv => whnf) | (refine ⟨by first | omega | (show _ ∧ _; omega) | ((repeat (first | rw [ByteArray.size_append] | rw [bsz] | rw [List.size_toArray] | rw [List.length_cons] | rw [List.length_nil])) <;> omega) | ((repeat rw [Int.toNat_natCast]) <;> first | omega | (show _ ∧ _; omega)) | (simp only [ByteArray.size_append, bsz, List.size_toArray, List.length_cons, List.length_nil]; omega) | (simp only [Int.toNat_natCast]; first | omega | (show _ ∧ _; omega)) | decide, ?_⟩; conv => whnf))
    refine callP (curBelow d r2.1 r2.2.1 10 hr2.1 (by decide)) hH hp rfl (by repeat' (first | exact trivial | exact outC_val _ _ | exact rfl | exact .inr ⟨rfl, rfl, _, _, rfl⟩ | refine ⟨?_, ?_⟩)) rfl rfl (fun r3 hr3 => go tbl_ok false ?_)
    conv => whnf
    have h3 := hr3.2.2.2 (by decide)
    have h4 := hr3.2.1
    (repeat (refine ⟨by first | omega | (show _ ∧ _; omega) | ((repeat (first | rw [ByteArray.size_append] | rw [bsz] | rw [List.size_toArray] | rw [List.length_cons] | rw [List.length_nil])) <;> omega) | ((repeat rw [Int.toNat_natCast]) <;> first | omega | (show _ ∧ _; omega)) | (simp only [ByteArray.size_append, bsz, List.size_toArray, List.length_cons, List.length_nil]; omega) | (simp only [Int.toNat_natCast]; first | omega | (show _ ∧ _; omega)) | decide, ?_⟩; conv => whnf))
    exact retP tbl_ok (r3.1, r3.2.1, ⟨r3.2.2 - 1, r.2.2.a, r.2.2.b⟩) ⟨hr3.1, in_mk (by show _ ≤ r3.2.2 - 1; omega) (by show r3.2.2 - 1 ≤ _; omega), hr.2.2⟩ rfl rfl rfl rfl (by repeat' (first | exact trivial | exact outC_val _ _ | exact rfl | exact .inr ⟨rfl, rfl, _, _, rfl⟩ | refine ⟨?_, ?_⟩))
  repeat (first | (refine ite_f (by first | with_reducible rfl | assumption | (simp; done) | fail) ?_; conv => whnf) | (refine ite_t (by first | with_reducible rfl | assumption | (simp; done) | fail) ?_; conv => whnf) | (refine ⟨by first | omega | (show _ ∧ _; omega) | ((repeat (first | rw [ByteArray.size_append] | rw [bsz] | rw [List.size_toArray] | rw [List.length_cons] | rw [List.length_nil])) <;> omega) | ((repeat rw [Int.toNat_natCast]) <;> first | omega | (show _ ∧ _; omega)) | (simp only [ByteArray.size_append, bsz, List.size_toArray, List.length_cons, List.length_nil]; omega) | (simp only [Int.toNat_natCast]; first | omega | (show _ ∧ _; omega)) | decide, ?_⟩; conv => whnf))
  refine ⟨fun c1 => ?_, fun c1 => ?_⟩ <;> conv => whnf
  · repeat (first | (refine ite_f (by first | with_reducible rfl | assumption | (simp; done) | fail) ?_; conv => whnf) | (refine ite_t (by first | with_reducible rfl | assumption | (simp; done) | fail) ?_; conv => whnf) | (refine ⟨by first | omega | (show _ ∧ _; omega) | ((repeat (first | rw [ByteArray.size_append] | rw [bsz] | rw [List.size_toArray] | rw [List.length_cons] | rw [List.length_nil])) <;> omega) | ((repeat rw [Int.toNat_natCast]) <;> first | omega | (show _ ∧ _; omega)) | (simp only [ByteArray.size_append, bsz, List.size_toArray, List.length_cons, List.length_nil]; omega) | (simp only [Int.toNat_natCast]; first | omega | (show _ ∧ _; omega)) | decide, ?_⟩; conv => whnf))
    refine castC 3 (sInt [-1, 3, 4, 9223372036854775807]) rfl (cast_rows rfl (by repeat' (first | exact trivial | exact rfl | refine ⟨?_, ?_⟩))) ?_
    refine callP (curPickInt d r2.1 r2.2.1 [-1, 3, 4, 9223372036854775807] hr2.1 (by decide)) hH hp rfl (by repeat' (first | exact trivial | exact outC_val _ _ | exact rfl | exact .inr ⟨rfl, rfl, _, _, rfl⟩ | refine ⟨?_, ?_⟩)) rfl rfl (fun r3 hr3 => go tbl_ok false ?_)
    conv => whnf
    exact retP tbl_ok (r3.1, r3.2.1, ⟨r.2.2.kind, [-1, 3, 4, 9223372036854775807].getD r3.2.2 0, r.2.2.b⟩) ⟨hr3.1, hr.2.1, ints_in _ _ (by intro x hx; simp only [List.mem_cons, List.not_mem_nil, or_false] at hx; show _ ∧ _; omega), hr.2.2.2⟩ rfl rfl rfl rfl (by repeat' (first | exact trivial | exact outC_val _ _ | exact rfl | exact .inr ⟨rfl, rfl, _, _, rfl⟩ | refine ⟨?_, ?_⟩))
  repeat (first | (refine ite_f (by first | with_reducible rfl | assumption | (simp; done) | fail) ?_; conv => whnf) | (refine ite_t (by first | with_reducible rfl | assumption | (simp; done) | fail) ?_; conv => whnf) | (refine ⟨by first | omega | (show _ ∧ _; omega) | ((repeat (first | rw [ByteArray.size_append] | rw [bsz] | rw [List.size_toArray] | rw [List.length_cons] | rw [List.length_nil])) <;> omega) | ((repeat rw [Int.toNat_natCast]) <;> first | omega | (show _ ∧ _; omega)) | (simp only [ByteArray.size_append, bsz, List.size_toArray, List.length_cons, List.length_nil]; omega) | (simp only [Int.toNat_natCast]; first | omega | (show _ ∧ _; omega)) | decide, ?_⟩; conv => whnf))
  refine ⟨fun c2 => ?_, fun c2 => ?_⟩ <;> conv => whnf
  · repeat (first | (refine ite_f (by first | with_reducible rfl | assumption | (simp; done) | fail) ?_; conv => whnf) | (refine ite_t (by first | with_reducible rfl | assumption | (simp; done) | fail) ?_; conv => whnf) | (refine ⟨by first | omega | (show _ ∧ _; omega) | ((repeat (first | rw [ByteArray.size_append] | rw [bsz] | rw [List.size_toArray] | rw [List.length_cons] | rw [List.length_nil])) <;> omega) | ((repeat rw [Int.toNat_natCast]) <;> first | omega | (show _ ∧ _; omega)) | (simp only [ByteArray.size_append, bsz, List.size_toArray, List.length_cons, List.length_nil]; omega) | (simp only [Int.toNat_natCast]; first | omega | (show _ ∧ _; omega)) | decide, ?_⟩; conv => whnf))
    refine castC 3 (sInt [-1, 0, 3, -9223372036854775808]) rfl (cast_rows rfl (by repeat' (first | exact trivial | exact rfl | refine ⟨?_, ?_⟩))) ?_
    refine callP (curPickInt d r2.1 r2.2.1 [-1, 0, 3, -9223372036854775808] hr2.1 (by decide)) hH hp rfl (by repeat' (first | exact trivial | exact outC_val _ _ | exact rfl | exact .inr ⟨rfl, rfl, _, _, rfl⟩ | refine ⟨?_, ?_⟩)) rfl rfl (fun r3 hr3 => go tbl_ok false ?_)
    conv => whnf
    exact retP tbl_ok (r3.1, r3.2.1, ⟨r.2.2.kind, r.2.2.a, [-1, 0, 3, -9223372036854775808].getD r3.2.2 0⟩) ⟨hr3.1, hr.2.1, hr.2.2.1, ints_in _ _ (by intro x hx; simp only [List.mem_cons, List.not_mem_nil, or_false] at hx; show _ ∧ _; omega)⟩ rfl rfl rfl rfl (by repeat' (first | exact trivial | exact outC_val _ _ | exact rfl | exact .inr ⟨rfl, rfl, _, _, rfl⟩ | refine ⟨?_, ?_⟩))
  · repeat (first | (refine ite_f (by first | with_reducible rfl | assumption | (simp; done) | fail) ?_; conv => whnf) | (refine ite_t (by first | with_reducible rfl | assumption | (simp; done) | fail) ?_; conv => whnf) | (refine ⟨by first | omega | (show _ ∧ _; omega) | ((repeat (first | rw [ByteArray.size_append] | rw [bsz] | rw [List.size_toArray] | rw [List.length_cons] | rw [List.length_nil])) <;> omega) | ((repeat rw [Int.toNat_natCast]) <;> first | omega | (show _ ∧ _; omega)) | (simp only [ByteArray.size_append, bsz, List.size_toArray, List.length_cons, List.length_nil]; omega) | (simp only [Int.toNat_natCast]; first | omega | (show _ ∧ _; omega)) | decide, ?_⟩; conv => whnf))
    exact retP tbl_ok (r2.1, r2.2.1, r.2.2) ⟨hr2.1, hr.2⟩ rfl rfl rfl rfl (by repeat' (first | exact trivial | exact outC_val _ _ | exact rfl | exact .inr ⟨rfl, rfl, _, _, rfl⟩ | refine ⟨?_, ?_⟩))
theorem curPickStr (d : DCode) (i h : Int) (xs : List ByteArray) (hi : 0 ≤ i ∧ i ≤ d.n) (hx : 0 < xs.length ∧ xs.length ≤ 1048576) : MeetsP Tryz.prog HT 65 d.pins (d.cur i h) [.one (sStr xs)] (fun r : Int × Int × Nat => (0 ≤ r.1 ∧ r.1 ≤ d.n) ∧ r.2.2 < xs.length) (fun r => d.cur r.1 r.2.1) (fun r => [.one (vs (xs.getD r.2.2 default))]) := by
  refine enterP tbl_ok false Tryz.func65 rfl (by decide) fun B b hH hp => ?_
  conv => whnf
  refine callP (curBelow d i h xs.length hi (by omega)) hH hp rfl (by repeat' (first | exact trivial | exact outC_val _ _ | exact rfl | exact .inr ⟨rfl, rfl, _, _, rfl⟩ | refine ⟨?_, ?_⟩)) rfl rfl (fun r hr => go tbl_ok false ?_)
  conv => whnf
  (repeat (refine ⟨by first | omega | (show _ ∧ _; omega) | ((repeat (first | rw [ByteArray.size_append] | rw [bsz] | rw [List.size_toArray] | rw [List.length_cons] | rw [List.length_nil])) <;> omega) | ((repeat rw [Int.toNat_natCast]) <;> first | omega | (show _ ∧ _; omega)) | (simp only [ByteArray.size_append, bsz, List.size_toArray, List.length_cons, List.length_nil]; omega) | (simp only [Int.toNat_natCast]; first | omega | (show _ ∧ _; omega)) | decide, ?_⟩; conv => whnf))
  exact retP tbl_ok (r.1, r.2.1, r.2.2.toNat) ⟨hr.1, by have := hr.2.2.2 (by omega); show r.2.2.toNat < _; omega⟩ rfl rfl rfl rfl (by repeat' (first | exact trivial | exact outC_val _ _ | exact rfl | exact .inr ⟨rfl, rfl, _, _, rfl⟩ | refine ⟨?_, ?_⟩))
theorem strs_le (xs : List ByteArray) (k n : Nat) (h : ∀ x ∈ xs, x.size ≤ n) : (xs.getD k default).size ≤ n := getD_all (p := fun w : ByteArray => w.size ≤ n) xs k default h (Nat.zero_le _)
theorem curBent (d : DCode) (i h : Int) (s : ByteArray) (hi : 0 ≤ i ∧ i ≤ d.n) (hs : s.size ≤ 1048576) : MeetsP Tryz.prog HT 66 d.pins (d.cur i h) [.one (vs s)] (fun r : Int × Int × ByteArray => (0 ≤ r.1 ∧ r.1 ≤ d.n) ∧ r.2.2.size ≤ s.size + 3) (fun r => d.cur r.1 r.2.1) (fun r => [.one (vs r.2.2)]) := by
  refine enterP tbl_ok false Tryz.func66 rfl (by decide) fun B b hH hp => ?_
  conv => whnf
  refine callP (curBelow d i h 6 hi (by decide)) hH hp rfl (by repeat' (first | exact trivial | exact outC_val _ _ | exact rfl | exact .inr ⟨rfl, rfl, _, _, rfl⟩ | refine ⟨?_, ?_⟩)) rfl rfl (fun r hr => go tbl_ok false ?_)
  conv => whnf
  refine ⟨fun c0 => ?_, fun c0 => ?_⟩ <;> conv => whnf
  · repeat (first | (refine ite_f (by first | with_reducible rfl | assumption | (simp; done) | fail) ?_; conv => whnf) | (refine ite_t (by first | with_reducible rfl | assumption | (simp; done) | fail) ?_; conv => whnf) | (refine ⟨by first | omega | (show _ ∧ _; omega) | ((repeat (first | rw [ByteArray.size_append] | rw [bsz] | rw [List.size_toArray] | rw [List.length_cons] | rw [List.length_nil])) <;> omega) | ((repeat rw [Int.toNat_natCast]) <;> first | omega | (show _ ∧ _; omega)) | (simp only [ByteArray.size_append, bsz, List.size_toArray, List.length_cons, List.length_nil]; omega) | (simp only [Int.toNat_natCast]; first | omega | (show _ ∧ _; omega)) | decide, ?_⟩; conv => whnf))
    (repeat (refine ⟨by first | omega | (show _ ∧ _; omega) | ((repeat (first | rw [ByteArray.size_append] | rw [bsz] | rw [List.size_toArray] | rw [List.length_cons] | rw [List.length_nil])) <;> omega) | ((repeat rw [Int.toNat_natCast]) <;> first | omega | (show _ ∧ _; omega)) | (simp only [ByteArray.size_append, bsz, List.size_toArray, List.length_cons, List.length_nil]; omega) | (simp only [Int.toNat_natCast]; first | omega | (show _ ∧ _; omega)) | decide, ?_⟩; conv => whnf))
    exact retP tbl_ok (r.1, r.2.1, (⟨#[32, 32]⟩ : ByteArray) ++ s ++ (⟨#[32]⟩ : ByteArray)) ⟨hr.1, by show ((⟨#[32, 32]⟩ : ByteArray) ++ s ++ (⟨#[32]⟩ : ByteArray)).size ≤ _; simp only [ByteArray.size_append, bsz, List.size_toArray, List.length_cons, List.length_nil]; omega⟩ rfl rfl rfl rfl (by repeat' (first | exact trivial | exact outC_val _ _ | exact rfl | exact .inr ⟨rfl, rfl, _, _, rfl⟩ | refine ⟨?_, ?_⟩))
  repeat (first | (refine ite_f (by first | with_reducible rfl | assumption | (simp; done) | fail) ?_; conv => whnf) | (refine ite_t (by first | with_reducible rfl | assumption | (simp; done) | fail) ?_; conv => whnf) | (refine ⟨by first | omega | (show _ ∧ _; omega) | ((repeat (first | rw [ByteArray.size_append] | rw [bsz] | rw [List.size_toArray] | rw [List.length_cons] | rw [List.length_nil])) <;> omega) | ((repeat rw [Int.toNat_natCast]) <;> first | omega | (show _ ∧ _; omega)) | (simp only [ByteArray.size_append, bsz, List.size_toArray, List.length_cons, List.length_nil]; omega) | (simp only [Int.toNat_natCast]; first | omega | (show _ ∧ _; omega)) | decide, ?_⟩; conv => whnf))
  refine ⟨fun c1 => ?_, fun c1 => ?_⟩ <;> conv => whnf
  · repeat (first | (refine ite_f (by first | with_reducible rfl | assumption | (simp; done) | fail) ?_; conv => whnf) | (refine ite_t (by first | with_reducible rfl | assumption | (simp; done) | fail) ?_; conv => whnf) | (refine ⟨by first | omega | (show _ ∧ _; omega) | ((repeat (first | rw [ByteArray.size_append] | rw [bsz] | rw [List.size_toArray] | rw [List.length_cons] | rw [List.length_nil])) <;> omega) | ((repeat rw [Int.toNat_natCast]) <;> first | omega | (show _ ∧ _; omega)) | (simp only [ByteArray.size_append, bsz, List.size_toArray, List.length_cons, List.length_nil]; omega) | (simp only [Int.toNat_natCast]; first | omega | (show _ ∧ _; omega)) | decide, ?_⟩; conv => whnf))
    refine castC 1 (sStr [(⟨#[32, 49]⟩ : ByteArray), (⟨#[120]⟩ : ByteArray), (⟨#[32, 45, 49]⟩ : ByteArray)]) rfl (cast_rows rfl (by repeat' (first | exact trivial | exact rfl | refine ⟨?_, ?_⟩))) ?_
    refine callP (curPickStr d r.1 r.2.1 [(⟨#[32, 49]⟩ : ByteArray), (⟨#[120]⟩ : ByteArray), (⟨#[32, 45, 49]⟩ : ByteArray)] hr.1 (by decide)) hH hp rfl (by repeat' (first | exact trivial | exact outC_val _ _ | exact rfl | exact .inr ⟨rfl, rfl, _, _, rfl⟩ | refine ⟨?_, ?_⟩)) rfl rfl (fun r3 hr3 => go tbl_ok false ?_)
    conv => whnf
    have hz := strs_le [(⟨#[32, 49]⟩ : ByteArray), (⟨#[120]⟩ : ByteArray), (⟨#[32, 45, 49]⟩ : ByteArray)] r3.2.2 3 (by decide)
    (repeat (refine ⟨by first | omega | (show _ ∧ _; omega) | ((repeat (first | rw [ByteArray.size_append] | rw [bsz] | rw [List.size_toArray] | rw [List.length_cons] | rw [List.length_nil])) <;> omega) | ((repeat rw [Int.toNat_natCast]) <;> first | omega | (show _ ∧ _; omega)) | (simp only [ByteArray.size_append, bsz, List.size_toArray, List.length_cons, List.length_nil]; omega) | (simp only [Int.toNat_natCast]; first | omega | (show _ ∧ _; omega)) | decide, ?_⟩; conv => whnf))
    exact retP tbl_ok (r3.1, r3.2.1, s ++ ([(⟨#[32, 49]⟩ : ByteArray), (⟨#[120]⟩ : ByteArray), (⟨#[32, 45, 49]⟩ : ByteArray)] : List ByteArray).getD r3.2.2 default) ⟨hr3.1, by show (s ++ _).size ≤ _; rw [ByteArray.size_append]; omega⟩ rfl rfl rfl rfl (by repeat' (first | exact trivial | exact outC_val _ _ | exact rfl | exact .inr ⟨rfl, rfl, _, _, rfl⟩ | refine ⟨?_, ?_⟩))
  · repeat (first | (refine ite_f (by first | with_reducible rfl | assumption | (simp; done) | fail) ?_; conv => whnf) | (refine ite_t (by first | with_reducible rfl | assumption | (simp; done) | fail) ?_; conv => whnf) | (refine ⟨by first | omega | (show _ ∧ _; omega) | ((repeat (first | rw [ByteArray.size_append] | rw [bsz] | rw [List.size_toArray] | rw [List.length_cons] | rw [List.length_nil])) <;> omega) | ((repeat rw [Int.toNat_natCast]) <;> first | omega | (show _ ∧ _; omega)) | (simp only [ByteArray.size_append, bsz, List.size_toArray, List.length_cons, List.length_nil]; omega) | (simp only [Int.toNat_natCast]; first | omega | (show _ ∧ _; omega)) | decide, ?_⟩; conv => whnf))
    exact retP tbl_ok (r.1, r.2.1, s) ⟨hr.1, Nat.le_add_right _ _⟩ rfl rfl rfl rfl (by repeat' (first | exact trivial | exact outC_val _ _ | exact rfl | exact .inr ⟨rfl, rfl, _, _, rfl⟩ | refine ⟨?_, ?_⟩))

end Go.Proofs.YtcpjpkcahnldfaaGreatDoor
