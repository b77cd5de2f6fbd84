/- Texts for the law FnLinesBack: WDrN. No conditions. -/
import Derived.Test.YtcpjpkcahnldfaaGreatDoorWCurR

set_option maxRecDepth 100000
namespace Go.Proofs.YtcpjpkcahnldfaaGreatDoor
open Go.Sx
/-- A drawn operator. -/
def NodeD (m : Nat) (x : GNode) : Prop := x.ok ∧ x.outs.length ≤ m
def SmallL (xs : List Int) : Prop := ∀ n ∈ xs, -1 ≤ n ∧ n ≤ 100
theorem nodeD_mk {k a b : Int} {xs : List Int} {m : Nat} (hk : inR .i64 k) (ha : inR .i64 a) (hb : inR .i64 b) (hs : SmallL xs) (hl : xs.length ≤ m) (hm : m ≤ 100) : NodeD m ⟨k, a, b, xs⟩ :=
  ⟨⟨hk, ha, hb, by show xs.length ≤ maxLen; unfold maxLen; omega, fun n hn => by have := hs n hn; exact in_mk (by omega) (by omega)⟩, hl⟩
theorem small_snoc {xs : List Int} {n : Int} (h : SmallL xs) (h0 : -1 ≤ n) (h1 : n ≤ 100) : SmallL (xs ++ [n]) := fun x hx => by
  rcases List.mem_append.1 hx with hx | hx
  · exact h x hx
  · rw [List.mem_singleton.1 hx]; exact ⟨h0, h1⟩
/-- Where a loop over drawn edges stands. -/
structure JNd where
  k : Nat
  i : Int
  h : Int
  xs : List Int
set_option maxHeartbeats 2000000 in
theorem curNode (d : DCode) (i h : Int) (hi : 0 ≤ i ∧ i ≤ d.n) : MeetsP Tryz.prog HT 85 d.pins (d.cur i h) [] (fun r : Int × Int × GNode => (0 ≤ r.1 ∧ r.1 ≤ d.n) ∧ NodeD 2 r.2.2) (fun r => d.cur r.1 r.2.1) (fun r => [.agg r.2.2.c]) := by
  refine enterP tbl_ok false Tryz.func85 rfl (by decide) fun B b hH hp => ?_
  conv => whnf
  refine callP (curBelow d i h 8 hi (by decide)) hH hp rfl (by repeat' (first | exact trivial | exact outC_val _ _ | exact rfl | exact .inr ⟨rfl, rfl, _, _, rfl⟩ | refine ⟨?_, ?_⟩)) rfl rfl (fun r hr => go tbl_ok false ?_)
  conv => whnf
  have hk := hr.2.2.2 (by decide)
  have hk0 := hr.2.1
  (repeat (refine ⟨by first | omega | (show _ ∧ _; omega) | ((repeat (first | rw [ByteArray.size_append] | rw [bsz] | rw [List.size_toArray] | rw [List.length_cons] | rw [List.length_nil])) <;> omega) | ((repeat rw [Int.toNat_natCast]) <;> first | omega | (show _ ∧ _; omega)) | (simp only [ByteArray.size_append, bsz, List.size_toArray, List.length_cons, List.length_nil]; omega) | (simp only [Int.toNat_natCast]; first | omega | (show _ ∧ _; omega)) | decide, ?_⟩; conv => whnf))
  refine ⟨fun c2 => have c2 := eq_of_beq c2; ?_, fun c2 => have c2 := beq_eq_false_iff_ne.1 c2; ?_⟩ <;> conv => whnf
  · refine castC 3 (sInt [0, 1, 3, 10, 999]) rfl (cast_rows rfl (by repeat' (first | exact trivial | exact rfl | refine ⟨?_, ?_⟩))) ?_
    refine callP (curPickInt d r.1 r.2.1 [0, 1, 3, 10, 999] hr.1 (by decide)) hH hp rfl (by repeat' (first | exact trivial | exact outC_val _ _ | exact rfl | exact .inr ⟨rfl, rfl, _, _, rfl⟩ | refine ⟨?_, ?_⟩)) rfl rfl (fun r2 hr2 => go tbl_ok false ?_)
    conv => whnf
    refine ⟨fun c8 => have c8 := bne_iff_ne.1 c8; ?_, fun c8 => have c8 := bne_eq_false_iff_eq.1 c8; ?_⟩ <;> conv => whnf
    · refine nilB 2 3 1 (fun i => (fun n => [vi n]) (([] : List Int).getD i default)) rfl rfl ?_
      refine loopW tbl_ok false [] (fun j : JNd => [(4, .c (vi j.k))]) (fun j => [⟨2, [.c (vi (1 + r.2.2)), .c (vi ([0, 1, 3, 10, 999].getD r2.2.2 0)), .c (vi 0), .own 4]⟩, ⟨1, [.c (vi 0), .c (vi 0), .c (vi 0), .c (.val (.slice none 0 0))]⟩, ⟨0, [.c (.val d.v), .c (vi j.i), .c (vi j.h)]⟩]) (fun j => [⟨4, sInt j.xs⟩]) (fun j => (0 ≤ j.i ∧ j.i ≤ d.n) ∧ j.k ≤ 2 ∧ j.xs.length = j.k ∧ SmallL j.xs) (fun j => 3 - j.k) (⟨0, r2.1, r2.2.1, []⟩) (⟨hr2.1, Nat.zero_le _, rfl, fun _ h => by cases h⟩) ⟨by first | rfl | simp [nth, ren2, ren1, ren0], trivial⟩ (by repeat' (first | exact trivial | exact rfl | refine ⟨?_, ?_⟩)) ⟨by first | rfl | exact (congrArg (fun l => slC _ _ l) (List.append_nil _)).symm | (show (_ : Cell) = _; simp) | simp, trivial⟩ (by first | exact trivial | exact ⟨rfl, trivial⟩) (by kernel_rfl) (fun j hj => ?_)
      conv => whnf
      obtain ⟨hi2, hk2, hx, hsm⟩ := hj
      refine callP (curBelow d j.i j.h 3 hi2 (by decide)) hH hp rfl (by repeat' (first | exact trivial | exact outC_val _ _ | exact rfl | exact .inr ⟨rfl, rfl, _, _, rfl⟩ | refine ⟨?_, ?_⟩)) rfl rfl (fun s hs => go tbl_ok false ?_)
      conv => whnf
      refine ⟨fun hlt => have hlt := of_decide_eq_true hlt; ?_, fun hlt => have hlt := of_decide_eq_false hlt; ?_⟩ <;> conv => whnf
      · have hlt2 : s.2.2 < 3 := hs.2.2.2 (by decide)
        refine drawA rfl ?_
        refine preA tbl_ok false 0 rfl rfl rfl (by kernel_rfl) rfl (andL_mem (by repeat' (first | exact trivial | refine ⟨?_, ?_⟩ | (show _ ∧ _; omega) | omega))) ?_
        refine preA tbl_ok false 2 rfl rfl rfl (by kernel_rfl) rfl (andL_mem (by repeat' (first | exact trivial | refine ⟨?_, ?_⟩ | (show _ ∧ _; omega) | omega))) ?_
        refine preA tbl_ok false 3 rfl rfl rfl (by kernel_rfl) rfl (andL_mem (by repeat' (first | exact trivial | refine ⟨?_, ?_⟩ | (show _ ∧ _; omega) | omega))) ?_
        refine preA tbl_ok false 4 rfl rfl rfl (by kernel_rfl) rfl (andL_mem (by repeat' (first | exact trivial | refine ⟨?_, ?_⟩ | (show _ ∧ _; omega) | omega))) ?_
        refine preA tbl_ok false 5 rfl rfl rfl (by kernel_rfl) rfl (andL_mem (by repeat' (first | exact trivial | refine ⟨?_, ?_⟩ | (show _ ∧ _; omega) | omega))) ?_
        refine splitA [1, 6] (by kernel_rfl) ⟨?_, ?_, trivial⟩
        focus
          refine go tbl_ok false ?_
          conv => whnf
          refine loopA ?_
          refine splitA [6] (by kernel_rfl) ⟨?_, trivial⟩
          refine go tbl_ok false ?_
          conv => whnf
          refine callP (curBelow d s.1 s.2.1 2 hs.1 (by decide)) hH hp rfl (by repeat' (first | exact trivial | exact outC_val _ _ | exact rfl | exact .inr ⟨rfl, rfl, _, _, rfl⟩ | refine ⟨?_, ?_⟩)) rfl rfl (fun r9 hr9 => go tbl_ok false ?_)
          conv => whnf
          refine loopA ?_
          refine preA tbl_ok false 7 rfl rfl rfl (by kernel_rfl) rfl (andL_mem (by repeat' (first | exact trivial | refine ⟨?_, ?_⟩ | (show _ ∧ _; omega) | omega))) ?_
          refine splitA [8] (by kernel_rfl) ⟨?_, trivial⟩
          refine go tbl_ok false ?_
          conv => whnf
          refine loopA ?_
          refine splitA [9] (by kernel_rfl) ⟨?_, trivial⟩
          refine go tbl_ok false ?_
          conv => whnf
          refine appW tbl_ok rfl rfl rfl rfl rfl rfl rfl rfl rfl rfl rfl (sInt (j.xs ++ [1 + (j.k : Int) * 2 + r9.2.2])) (slC_snoc rfl) (by intro h; cases h) (by omega) (go tbl_ok false ?_)
          conv => whnf
          refine loopA ?_
          refine preA tbl_ok false 10 rfl rfl rfl (by kernel_rfl) rfl (andL_mem (by repeat' (first | exact trivial | refine ⟨?_, ?_⟩ | (show _ ∧ _; omega) | omega))) ?_
          refine splitA [11] (by kernel_rfl) ⟨?_, trivial⟩
          refine go tbl_ok false ?_
          conv => whnf
          refine loopA ?_
          refine doneA (by kernel_rfl) (go tbl_ok false ?_)
          conv => whnf
        rotate_left 1
        focus
          refine go tbl_ok false ?_
          conv => whnf
          refine callP (curBelow d s.1 s.2.1 2 hs.1 (by decide)) hH hp rfl (by repeat' (first | exact trivial | exact outC_val _ _ | exact rfl | exact .inr ⟨rfl, rfl, _, _, rfl⟩ | refine ⟨?_, ?_⟩)) rfl rfl (fun r9 hr9 => go tbl_ok false ?_)
          conv => whnf
          refine loopA ?_
          refine preA tbl_ok false 7 rfl rfl rfl (by kernel_rfl) rfl (andL_mem (by repeat' (first | exact trivial | refine ⟨?_, ?_⟩ | (show _ ∧ _; omega) | omega))) ?_
          refine splitA [1, 8] (by kernel_rfl) ⟨?_, ?_, trivial⟩
          focus
            refine go tbl_ok false ?_
            conv => whnf
            refine loopA ?_
            refine splitA [8] (by kernel_rfl) ⟨?_, trivial⟩
            refine go tbl_ok false ?_
            conv => whnf
            refine loopA ?_
            refine splitA [9] (by kernel_rfl) ⟨?_, trivial⟩
            refine go tbl_ok false ?_
            conv => whnf
            refine appW tbl_ok rfl rfl rfl rfl rfl rfl rfl rfl rfl rfl rfl (sInt (j.xs ++ [1 + (j.k : Int) * 2 + r9.2.2])) (slC_snoc rfl) (by intro h; cases h) (by omega) (go tbl_ok false ?_)
            conv => whnf
            refine loopA ?_
            refine preA tbl_ok false 10 rfl rfl rfl (by kernel_rfl) rfl (andL_mem (by repeat' (first | exact trivial | refine ⟨?_, ?_⟩ | (show _ ∧ _; omega) | omega))) ?_
            refine splitA [11] (by kernel_rfl) ⟨?_, trivial⟩
            refine go tbl_ok false ?_
            conv => whnf
            refine loopA ?_
            refine doneA (by kernel_rfl) (go tbl_ok false ?_)
            conv => whnf
          rotate_left 1
          focus
            refine go tbl_ok false ?_
            conv => whnf
            refine loopA ?_
            refine splitA [1] (by kernel_rfl) ⟨?_, trivial⟩
            refine go tbl_ok false ?_
            conv => whnf
            refine loopA ?_
            refine splitA [9] (by kernel_rfl) ⟨?_, trivial⟩
            refine go tbl_ok false ?_
            conv => whnf
            refine appW tbl_ok rfl rfl rfl rfl rfl rfl rfl rfl rfl rfl rfl (sInt (j.xs ++ [1 + (j.k : Int) * 2 + r9.2.2])) (slC_snoc rfl) (by intro h; cases h) (by omega) (go tbl_ok false ?_)
            conv => whnf
            refine loopA ?_
            refine preA tbl_ok false 10 rfl rfl rfl (by kernel_rfl) rfl (andL_mem (by repeat' (first | exact trivial | refine ⟨?_, ?_⟩ | (show _ ∧ _; omega) | omega))) ?_
            refine splitA [11] (by kernel_rfl) ⟨?_, trivial⟩
            refine go tbl_ok false ?_
            conv => whnf
            refine loopA ?_
            refine doneA (by kernel_rfl) (go tbl_ok false ?_)
            conv => whnf
        all_goals
          have hn9 := hr9.2.2.2 (by decide)
          have hn8 := hr9.2.1
          (repeat (refine ⟨by first | omega | (show _ ∧ _; omega) | ((repeat (first | rw [ByteArray.size_append] | rw [bsz] | rw [List.size_toArray] | rw [List.length_cons] | rw [List.length_nil])) <;> omega) | ((repeat rw [Int.toNat_natCast]) <;> first | omega | (show _ ∧ _; omega)) | (simp only [ByteArray.size_append, bsz, List.size_toArray, List.length_cons, List.length_nil]; omega) | (simp only [Int.toNat_natCast]; first | omega | (show _ ∧ _; omega)) | decide, ?_⟩; conv => whnf))
          refine loopE [(4, 6)] (⟨j.k + 1, r9.1, r9.2.1, j.xs ++ [1 + (j.k : Int) * 2 + r9.2.2]⟩) (⟨hr9.1, by show j.k + 1 ≤ 2; omega, by simp [hx], small_snoc hsm (by omega) (by omega)⟩) (by show 3 - (j.k + 1) < _; omega) ⟨rfl, trivial⟩ ⟨rfl, trivial⟩ (by repeat' (first | exact trivial | exact rfl | refine ⟨?_, ?_⟩)) (by kernel_rfl) (by first | exact trivial | exact ⟨rfl, trivial⟩) (by kernel_rfl)
      · exact retP tbl_ok (s.1, s.2.1, ⟨1 + r.2.2, ([0, 1, 3, 10, 999].getD r2.2.2 0), 0, j.xs⟩) ⟨hs.1, nodeD_mk (in_mk (by omega) (by omega)) (ints_in _ _ (by intro x hx; simp only [List.mem_cons, List.not_mem_nil, or_false] at hx; show _ ∧ _; omega)) (in_mk (by decide) (by decide)) hsm (by omega) (by decide)⟩ rfl rfl rfl rfl (by repeat' (first | exact trivial | exact outC_val _ _ | exact rfl | exact .inr ⟨rfl, rfl, _, _, rfl⟩ | refine ⟨?_, ?_⟩))
    · repeat (first | (refine ite_f (by first | with_reducible rfl | assumption | (simp; done) | fail) ?_; conv => whnf) | (refine ite_t (by first | with_reducible rfl | assumption | (simp; done) | fail) ?_; conv => whnf) | (refine ⟨by first | omega | (show _ ∧ _; omega) | ((repeat (first | rw [ByteArray.size_append] | rw [bsz] | rw [List.size_toArray] | rw [List.length_cons] | rw [List.length_nil])) <;> omega) | ((repeat rw [Int.toNat_natCast]) <;> first | omega | (show _ ∧ _; omega)) | (simp only [ByteArray.size_append, bsz, List.size_toArray, List.length_cons, List.length_nil]; omega) | (simp only [Int.toNat_natCast]; first | omega | (show _ ∧ _; omega)) | decide, ?_⟩; conv => whnf))
      exact retP tbl_ok (r2.1, r2.2.1, ⟨1 + r.2.2, ([0, 1, 3, 10, 999].getD r2.2.2 0), 0, []⟩) ⟨hr2.1, nodeD_mk (in_mk (by omega) (by omega)) (ints_in _ _ (by intro x hx; simp only [List.mem_cons, List.not_mem_nil, or_false] at hx; show _ ∧ _; omega)) (in_mk (by decide) (by decide)) (fun _ h => by cases h) (by decide) (by decide)⟩ rfl rfl rfl rfl (by repeat' (first | exact trivial | exact outC_val _ _ | exact rfl | exact .inr ⟨rfl, rfl, _, _, rfl⟩ | refine ⟨?_, ?_⟩))
  · repeat (first | (refine ite_f (by first | with_reducible rfl | assumption | (simp; done) | fail) ?_; conv => whnf) | (refine ite_t (by first | with_reducible rfl | assumption | (simp; done) | fail) ?_; conv => whnf) | (refine ⟨by first | omega | (show _ ∧ _; omega) | ((repeat (first | rw [ByteArray.size_append] | rw [bsz] | rw [List.size_toArray] | rw [List.length_cons] | rw [List.length_nil])) <;> omega) | ((repeat rw [Int.toNat_natCast]) <;> first | omega | (show _ ∧ _; omega)) | (simp only [ByteArray.size_append, bsz, List.size_toArray, List.length_cons, List.length_nil]; omega) | (simp only [Int.toNat_natCast]; first | omega | (show _ ∧ _; omega)) | decide, ?_⟩; conv => whnf))
    refine ⟨fun c3 => have c3 := eq_of_beq c3; ?_, fun c3 => have c3 := beq_eq_false_iff_ne.1 c3; ?_⟩ <;> conv => whnf
    · repeat (first | (refine ite_f (by first | with_reducible rfl | assumption | (simp; done) | fail) ?_; conv => whnf) | (refine ite_t (by first | with_reducible rfl | assumption | (simp; done) | fail) ?_; conv => whnf) | (refine ⟨by first | omega | (show _ ∧ _; omega) | ((repeat (first | rw [ByteArray.size_append] | rw [bsz] | rw [List.size_toArray] | rw [List.length_cons] | rw [List.length_nil])) <;> omega) | ((repeat rw [Int.toNat_natCast]) <;> first | omega | (show _ ∧ _; omega)) | (simp only [ByteArray.size_append, bsz, List.size_toArray, List.length_cons, List.length_nil]; omega) | (simp only [Int.toNat_natCast]; first | omega | (show _ ∧ _; omega)) | decide, ?_⟩; conv => whnf))
      refine callP (curBelow d r.1 r.2.1 4 hr.1 (by decide)) hH hp rfl (by repeat' (first | exact trivial | exact outC_val _ _ | exact rfl | exact .inr ⟨rfl, rfl, _, _, rfl⟩ | refine ⟨?_, ?_⟩)) rfl rfl (fun r2 hr2 => go tbl_ok false ?_)
      conv => whnf
      have hk2 := hr2.2.2.2 (by decide)
      have hk3 := hr2.2.1
      (repeat (refine ⟨by first | omega | (show _ ∧ _; omega) | ((repeat (first | rw [ByteArray.size_append] | rw [bsz] | rw [List.size_toArray] | rw [List.length_cons] | rw [List.length_nil])) <;> omega) | ((repeat rw [Int.toNat_natCast]) <;> first | omega | (show _ ∧ _; omega)) | (simp only [ByteArray.size_append, bsz, List.size_toArray, List.length_cons, List.length_nil]; omega) | (simp only [Int.toNat_natCast]; first | omega | (show _ ∧ _; omega)) | decide, ?_⟩; conv => whnf))
      refine callP (curBelow d r2.1 r2.2.1 (1 + r2.2.2) hr2.1 (by omega)) hH hp rfl (by repeat' (first | exact trivial | exact outC_val _ _ | exact rfl | exact .inr ⟨rfl, rfl, _, _, rfl⟩ | refine ⟨?_, ?_⟩)) rfl rfl (fun r3 hr3 => go tbl_ok false ?_)
      conv => whnf
      have hk4 := hr3.2.2.2 (by omega)
      have hk5 := hr3.2.1
      refine ⟨fun c8 => have c8 := bne_iff_ne.1 c8; ?_, fun c8 => have c8 := bne_eq_false_iff_eq.1 c8; ?_⟩ <;> conv => whnf
      · refine nilB 2 3 1 (fun i => (fun n => [vi n]) (([] : List Int).getD i default)) rfl rfl ?_
        refine loopW tbl_ok false [] (fun j : JNd => [(4, .c (vi j.k))]) (fun j => [⟨2, [.c (vi (1 + r.2.2)), .c (vi (1 + r2.2.2)), .c (vi r3.2.2), .own 3]⟩, ⟨1, [.c (vi 0), .c (vi 0), .c (vi 0), .c (.val (.slice none 0 0))]⟩, ⟨0, [.c (.val d.v), .c (vi j.i), .c (vi j.h)]⟩]) (fun j => [⟨3, sInt j.xs⟩]) (fun j => (0 ≤ j.i ∧ j.i ≤ d.n) ∧ j.k ≤ 2 ∧ j.xs.length = j.k ∧ SmallL j.xs) (fun j => 3 - j.k) (⟨0, r3.1, r3.2.1, []⟩) (⟨hr3.1, Nat.zero_le _, rfl, fun _ h => by cases h⟩) ⟨by first | rfl | simp [nth, ren2, ren1, ren0], trivial⟩ (by repeat' (first | exact trivial | exact rfl | refine ⟨?_, ?_⟩)) ⟨by first | rfl | exact (congrArg (fun l => slC _ _ l) (List.append_nil _)).symm | (show (_ : Cell) = _; simp) | simp, trivial⟩ (by first | exact trivial | exact ⟨rfl, trivial⟩) (by kernel_rfl) (fun j hj => ?_)
        conv => whnf
        obtain ⟨hi2, hk2, hx, hsm⟩ := hj
        refine callP (curBelow d j.i j.h 3 hi2 (by decide)) hH hp rfl (by repeat' (first | exact trivial | exact outC_val _ _ | exact rfl | exact .inr ⟨rfl, rfl, _, _, rfl⟩ | refine ⟨?_, ?_⟩)) rfl rfl (fun s hs => go tbl_ok false ?_)
        conv => whnf
        refine ⟨fun hlt => have hlt := of_decide_eq_true hlt; ?_, fun hlt => have hlt := of_decide_eq_false hlt; ?_⟩ <;> conv => whnf
        · have hlt2 : s.2.2 < 3 := hs.2.2.2 (by decide)
          refine drawA rfl ?_
          refine preA tbl_ok false 0 rfl rfl rfl (by kernel_rfl) rfl (andL_mem (by repeat' (first | exact trivial | refine ⟨?_, ?_⟩ | (show _ ∧ _; omega) | omega))) ?_
          refine preA tbl_ok false 2 rfl rfl rfl (by kernel_rfl) rfl (andL_mem (by repeat' (first | exact trivial | refine ⟨?_, ?_⟩ | (show _ ∧ _; omega) | omega))) ?_
          refine preA tbl_ok false 3 rfl rfl rfl (by kernel_rfl) rfl (andL_mem (by repeat' (first | exact trivial | refine ⟨?_, ?_⟩ | (show _ ∧ _; omega) | omega))) ?_
          refine preA tbl_ok false 4 rfl rfl rfl (by kernel_rfl) rfl (andL_mem (by repeat' (first | exact trivial | refine ⟨?_, ?_⟩ | (show _ ∧ _; omega) | omega))) ?_
          refine preA tbl_ok false 5 rfl rfl rfl (by kernel_rfl) rfl (andL_mem (by repeat' (first | exact trivial | refine ⟨?_, ?_⟩ | (show _ ∧ _; omega) | omega))) ?_
          refine splitA [1, 6] (by kernel_rfl) ⟨?_, ?_, trivial⟩
          focus
            refine go tbl_ok false ?_
            conv => whnf
            refine loopA ?_
            refine splitA [6] (by kernel_rfl) ⟨?_, trivial⟩
            refine go tbl_ok false ?_
            conv => whnf
            refine callP (curBelow d s.1 s.2.1 2 hs.1 (by decide)) hH hp rfl (by repeat' (first | exact trivial | exact outC_val _ _ | exact rfl | exact .inr ⟨rfl, rfl, _, _, rfl⟩ | refine ⟨?_, ?_⟩)) rfl rfl (fun r9 hr9 => go tbl_ok false ?_)
            conv => whnf
            refine loopA ?_
            refine preA tbl_ok false 7 rfl rfl rfl (by kernel_rfl) rfl (andL_mem (by repeat' (first | exact trivial | refine ⟨?_, ?_⟩ | (show _ ∧ _; omega) | omega))) ?_
            refine splitA [8] (by kernel_rfl) ⟨?_, trivial⟩
            refine go tbl_ok false ?_
            conv => whnf
            refine loopA ?_
            refine splitA [9] (by kernel_rfl) ⟨?_, trivial⟩
            refine go tbl_ok false ?_
            conv => whnf
            refine appW tbl_ok rfl rfl rfl rfl rfl rfl rfl rfl rfl rfl rfl (sInt (j.xs ++ [1 + (j.k : Int) * 2 + r9.2.2])) (slC_snoc rfl) (by intro h; cases h) (by omega) (go tbl_ok false ?_)
            conv => whnf
            refine loopA ?_
            refine preA tbl_ok false 10 rfl rfl rfl (by kernel_rfl) rfl (andL_mem (by repeat' (first | exact trivial | refine ⟨?_, ?_⟩ | (show _ ∧ _; omega) | omega))) ?_
            refine splitA [11] (by kernel_rfl) ⟨?_, trivial⟩
            refine go tbl_ok false ?_
            conv => whnf
            refine loopA ?_
            refine doneA (by kernel_rfl) (go tbl_ok false ?_)
            conv => whnf
          rotate_left 1
          focus
            refine go tbl_ok false ?_
            conv => whnf
            refine callP (curBelow d s.1 s.2.1 2 hs.1 (by decide)) hH hp rfl (by repeat' (first | exact trivial | exact outC_val _ _ | exact rfl | exact .inr ⟨rfl, rfl, _, _, rfl⟩ | refine ⟨?_, ?_⟩)) rfl rfl (fun r9 hr9 => go tbl_ok false ?_)
            conv => whnf
            refine loopA ?_
            refine preA tbl_ok false 7 rfl rfl rfl (by kernel_rfl) rfl (andL_mem (by repeat' (first | exact trivial | refine ⟨?_, ?_⟩ | (show _ ∧ _; omega) | omega))) ?_
            refine splitA [1, 8] (by kernel_rfl) ⟨?_, ?_, trivial⟩
            focus
              refine go tbl_ok false ?_
              conv => whnf
              refine loopA ?_
              refine splitA [8] (by kernel_rfl) ⟨?_, trivial⟩
              refine go tbl_ok false ?_
              conv => whnf
              refine loopA ?_
              refine splitA [9] (by kernel_rfl) ⟨?_, trivial⟩
              refine go tbl_ok false ?_
              conv => whnf
              refine appW tbl_ok rfl rfl rfl rfl rfl rfl rfl rfl rfl rfl rfl (sInt (j.xs ++ [1 + (j.k : Int) * 2 + r9.2.2])) (slC_snoc rfl) (by intro h; cases h) (by omega) (go tbl_ok false ?_)
              conv => whnf
              refine loopA ?_
              refine preA tbl_ok false 10 rfl rfl rfl (by kernel_rfl) rfl (andL_mem (by repeat' (first | exact trivial | refine ⟨?_, ?_⟩ | (show _ ∧ _; omega) | omega))) ?_
              refine splitA [11] (by kernel_rfl) ⟨?_, trivial⟩
              refine go tbl_ok false ?_
              conv => whnf
              refine loopA ?_
              refine doneA (by kernel_rfl) (go tbl_ok false ?_)
              conv => whnf
            rotate_left 1
            focus
              refine go tbl_ok false ?_
              conv => whnf
              refine loopA ?_
              refine splitA [1] (by kernel_rfl) ⟨?_, trivial⟩
              refine go tbl_ok false ?_
              conv => whnf
              refine loopA ?_
              refine splitA [9] (by kernel_rfl) ⟨?_, trivial⟩
              refine go tbl_ok false ?_
              conv => whnf
              refine appW tbl_ok rfl rfl rfl rfl rfl rfl rfl rfl rfl rfl rfl (sInt (j.xs ++ [1 + (j.k : Int) * 2 + r9.2.2])) (slC_snoc rfl) (by intro h; cases h) (by omega) (go tbl_ok false ?_)
              conv => whnf
              refine loopA ?_
              refine preA tbl_ok false 10 rfl rfl rfl (by kernel_rfl) rfl (andL_mem (by repeat' (first | exact trivial | refine ⟨?_, ?_⟩ | (show _ ∧ _; omega) | omega))) ?_
              refine splitA [11] (by kernel_rfl) ⟨?_, trivial⟩
              refine go tbl_ok false ?_
              conv => whnf
              refine loopA ?_
              refine doneA (by kernel_rfl) (go tbl_ok false ?_)
              conv => whnf
          all_goals
            have hn9 := hr9.2.2.2 (by decide)
            have hn8 := hr9.2.1
            (repeat (refine ⟨by first | omega | (show _ ∧ _; omega) | ((repeat (first | rw [ByteArray.size_append] | rw [bsz] | rw [List.size_toArray] | rw [List.length_cons] | rw [List.length_nil])) <;> omega) | ((repeat rw [Int.toNat_natCast]) <;> first | omega | (show _ ∧ _; omega)) | (simp only [ByteArray.size_append, bsz, List.size_toArray, List.length_cons, List.length_nil]; omega) | (simp only [Int.toNat_natCast]; first | omega | (show _ ∧ _; omega)) | decide, ?_⟩; conv => whnf))
            refine loopE [(3, 5)] (⟨j.k + 1, r9.1, r9.2.1, j.xs ++ [1 + (j.k : Int) * 2 + r9.2.2]⟩) (⟨hr9.1, by show j.k + 1 ≤ 2; omega, by simp [hx], small_snoc hsm (by omega) (by omega)⟩) (by show 3 - (j.k + 1) < _; omega) ⟨rfl, trivial⟩ ⟨rfl, trivial⟩ (by repeat' (first | exact trivial | exact rfl | refine ⟨?_, ?_⟩)) (by kernel_rfl) (by first | exact trivial | exact ⟨rfl, trivial⟩) (by kernel_rfl)
        · exact retP tbl_ok (s.1, s.2.1, ⟨1 + r.2.2, (1 + r2.2.2), r3.2.2, j.xs⟩) ⟨hs.1, nodeD_mk (in_mk (by omega) (by omega)) (in_mk (by omega) (by omega)) (in_mk (by omega) (by omega)) hsm (by omega) (by decide)⟩ rfl rfl rfl rfl (by repeat' (first | exact trivial | exact outC_val _ _ | exact rfl | exact .inr ⟨rfl, rfl, _, _, rfl⟩ | refine ⟨?_, ?_⟩))
      · repeat (first | (refine ite_f (by first | with_reducible rfl | assumption | (simp; done) | fail) ?_; conv => whnf) | (refine ite_t (by first | with_reducible rfl | assumption | (simp; done) | fail) ?_; conv => whnf) | (refine ⟨by first | omega | (show _ ∧ _; omega) | ((repeat (first | rw [ByteArray.size_append] | rw [bsz] | rw [List.size_toArray] | rw [List.length_cons] | rw [List.length_nil])) <;> omega) | ((repeat rw [Int.toNat_natCast]) <;> first | omega | (show _ ∧ _; omega)) | (simp only [ByteArray.size_append, bsz, List.size_toArray, List.length_cons, List.length_nil]; omega) | (simp only [Int.toNat_natCast]; first | omega | (show _ ∧ _; omega)) | decide, ?_⟩; conv => whnf))
        exact retP tbl_ok (r3.1, r3.2.1, ⟨1 + r.2.2, (1 + r2.2.2), r3.2.2, []⟩) ⟨hr3.1, nodeD_mk (in_mk (by omega) (by omega)) (in_mk (by omega) (by omega)) (in_mk (by omega) (by omega)) (fun _ h => by cases h) (by decide) (by decide)⟩ rfl rfl rfl rfl (by repeat' (first | exact trivial | exact outC_val _ _ | exact rfl | exact .inr ⟨rfl, rfl, _, _, rfl⟩ | refine ⟨?_, ?_⟩))
    · repeat (first | (refine ite_f (by first | with_reducible rfl | assumption | (simp; done) | fail) ?_; conv => whnf) | (refine ite_t (by first | with_reducible rfl | assumption | (simp; done) | fail) ?_; conv => whnf) | (refine ⟨by first | omega | (show _ ∧ _; omega) | ((repeat (first | rw [ByteArray.size_append] | rw [bsz] | rw [List.size_toArray] | rw [List.length_cons] | rw [List.length_nil])) <;> omega) | ((repeat rw [Int.toNat_natCast]) <;> first | omega | (show _ ∧ _; omega)) | (simp only [ByteArray.size_append, bsz, List.size_toArray, List.length_cons, List.length_nil]; omega) | (simp only [Int.toNat_natCast]; first | omega | (show _ ∧ _; omega)) | decide, ?_⟩; conv => whnf))
      refine ⟨fun c4 => have c4 := eq_of_beq c4; ?_, fun c4 => have c4 := beq_eq_false_iff_ne.1 c4; ?_⟩ <;> conv => whnf
      · repeat (first | (refine ite_f (by first | with_reducible rfl | assumption | (simp; done) | fail) ?_; conv => whnf) | (refine ite_t (by first | with_reducible rfl | assumption | (simp; done) | fail) ?_; conv => whnf) | (refine ⟨by first | omega | (show _ ∧ _; omega) | ((repeat (first | rw [ByteArray.size_append] | rw [bsz] | rw [List.size_toArray] | rw [List.length_cons] | rw [List.length_nil])) <;> omega) | ((repeat rw [Int.toNat_natCast]) <;> first | omega | (show _ ∧ _; omega)) | (simp only [ByteArray.size_append, bsz, List.size_toArray, List.length_cons, List.length_nil]; omega) | (simp only [Int.toNat_natCast]; first | omega | (show _ ∧ _; omega)) | decide, ?_⟩; conv => whnf))
        refine castC 3 (sInt [0, 1, 2, 3, 50, 99]) rfl (cast_rows rfl (by repeat' (first | exact trivial | exact rfl | refine ⟨?_, ?_⟩))) ?_
        refine callP (curPickInt d r.1 r.2.1 [0, 1, 2, 3, 50, 99] hr.1 (by decide)) hH hp rfl (by repeat' (first | exact trivial | exact outC_val _ _ | exact rfl | exact .inr ⟨rfl, rfl, _, _, rfl⟩ | refine ⟨?_, ?_⟩)) rfl rfl (fun r2 hr2 => go tbl_ok false ?_)
        conv => whnf
        refine ⟨fun c8 => have c8 := bne_iff_ne.1 c8; ?_, fun c8 => have c8 := bne_eq_false_iff_eq.1 c8; ?_⟩ <;> conv => whnf
        · refine nilB 2 3 1 (fun i => (fun n => [vi n]) (([] : List Int).getD i default)) rfl rfl ?_
          refine loopW tbl_ok false [] (fun j : JNd => [(4, .c (vi j.k))]) (fun j => [⟨2, [.c (vi (1 + r.2.2)), .c (vi ([0, 1, 2, 3, 50, 99].getD r2.2.2 0)), .c (vi 0), .own 4]⟩, ⟨1, [.c (vi 0), .c (vi 0), .c (vi 0), .c (.val (.slice none 0 0))]⟩, ⟨0, [.c (.val d.v), .c (vi j.i), .c (vi j.h)]⟩]) (fun j => [⟨4, sInt j.xs⟩]) (fun j => (0 ≤ j.i ∧ j.i ≤ d.n) ∧ j.k ≤ 2 ∧ j.xs.length = j.k ∧ SmallL j.xs) (fun j => 3 - j.k) (⟨0, r2.1, r2.2.1, []⟩) (⟨hr2.1, Nat.zero_le _, rfl, fun _ h => by cases h⟩) ⟨by first | rfl | simp [nth, ren2, ren1, ren0], trivial⟩ (by repeat' (first | exact trivial | exact rfl | refine ⟨?_, ?_⟩)) ⟨by first | rfl | exact (congrArg (fun l => slC _ _ l) (List.append_nil _)).symm | (show (_ : Cell) = _; simp) | simp, trivial⟩ (by first | exact trivial | exact ⟨rfl, trivial⟩) (by kernel_rfl) (fun j hj => ?_)
          conv => whnf
          obtain ⟨hi2, hk2, hx, hsm⟩ := hj
          refine callP (curBelow d j.i j.h 3 hi2 (by decide)) hH hp rfl (by repeat' (first | exact trivial | exact outC_val _ _ | exact rfl | exact .inr ⟨rfl, rfl, _, _, rfl⟩ | refine ⟨?_, ?_⟩)) rfl rfl (fun s hs => go tbl_ok false ?_)
          conv => whnf
          refine ⟨fun hlt => have hlt := of_decide_eq_true hlt; ?_, fun hlt => have hlt := of_decide_eq_false hlt; ?_⟩ <;> conv => whnf
          · have hlt2 : s.2.2 < 3 := hs.2.2.2 (by decide)
            refine drawA rfl ?_
            refine preA tbl_ok false 0 rfl rfl rfl (by kernel_rfl) rfl (andL_mem (by repeat' (first | exact trivial | refine ⟨?_, ?_⟩ | (show _ ∧ _; omega) | omega))) ?_
            refine preA tbl_ok false 2 rfl rfl rfl (by kernel_rfl) rfl (andL_mem (by repeat' (first | exact trivial | refine ⟨?_, ?_⟩ | (show _ ∧ _; omega) | omega))) ?_
            refine preA tbl_ok false 3 rfl rfl rfl (by kernel_rfl) rfl (andL_mem (by repeat' (first | exact trivial | refine ⟨?_, ?_⟩ | (show _ ∧ _; omega) | omega))) ?_
            refine preA tbl_ok false 4 rfl rfl rfl (by kernel_rfl) rfl (andL_mem (by repeat' (first | exact trivial | refine ⟨?_, ?_⟩ | (show _ ∧ _; omega) | omega))) ?_
            refine preA tbl_ok false 5 rfl rfl rfl (by kernel_rfl) rfl (andL_mem (by repeat' (first | exact trivial | refine ⟨?_, ?_⟩ | (show _ ∧ _; omega) | omega))) ?_
            refine splitA [1, 6] (by kernel_rfl) ⟨?_, ?_, trivial⟩
            focus
              refine go tbl_ok false ?_
              conv => whnf
              refine loopA ?_
              refine splitA [6] (by kernel_rfl) ⟨?_, trivial⟩
              refine go tbl_ok false ?_
              conv => whnf
              refine callP (curBelow d s.1 s.2.1 2 hs.1 (by decide)) hH hp rfl (by repeat' (first | exact trivial | exact outC_val _ _ | exact rfl | exact .inr ⟨rfl, rfl, _, _, rfl⟩ | refine ⟨?_, ?_⟩)) rfl rfl (fun r9 hr9 => go tbl_ok false ?_)
              conv => whnf
              refine loopA ?_
              refine preA tbl_ok false 7 rfl rfl rfl (by kernel_rfl) rfl (andL_mem (by repeat' (first | exact trivial | refine ⟨?_, ?_⟩ | (show _ ∧ _; omega) | omega))) ?_
              refine splitA [8] (by kernel_rfl) ⟨?_, trivial⟩
              refine go tbl_ok false ?_
              conv => whnf
              refine loopA ?_
              refine splitA [9] (by kernel_rfl) ⟨?_, trivial⟩
              refine go tbl_ok false ?_
              conv => whnf
              refine appW tbl_ok rfl rfl rfl rfl rfl rfl rfl rfl rfl rfl rfl (sInt (j.xs ++ [1 + (j.k : Int) * 2 + r9.2.2])) (slC_snoc rfl) (by intro h; cases h) (by omega) (go tbl_ok false ?_)
              conv => whnf
              refine loopA ?_
              refine preA tbl_ok false 10 rfl rfl rfl (by kernel_rfl) rfl (andL_mem (by repeat' (first | exact trivial | refine ⟨?_, ?_⟩ | (show _ ∧ _; omega) | omega))) ?_
              refine splitA [11] (by kernel_rfl) ⟨?_, trivial⟩
              refine go tbl_ok false ?_
              conv => whnf
              refine loopA ?_
              refine doneA (by kernel_rfl) (go tbl_ok false ?_)
              conv => whnf
            rotate_left 1
            focus
              refine go tbl_ok false ?_
              conv => whnf
              refine callP (curBelow d s.1 s.2.1 2 hs.1 (by decide)) hH hp rfl (by repeat' (first | exact trivial | exact outC_val _ _ | exact rfl | exact .inr ⟨rfl, rfl, _, _, rfl⟩ | refine ⟨?_, ?_⟩)) rfl rfl (fun r9 hr9 => go tbl_ok false ?_)
              conv => whnf
              refine loopA ?_
              refine preA tbl_ok false 7 rfl rfl rfl (by kernel_rfl) rfl (andL_mem (by repeat' (first | exact trivial | refine ⟨?_, ?_⟩ | (show _ ∧ _; omega) | omega))) ?_
              refine splitA [1, 8] (by kernel_rfl) ⟨?_, ?_, trivial⟩
              focus
                refine go tbl_ok false ?_
                conv => whnf
                refine loopA ?_
                refine splitA [8] (by kernel_rfl) ⟨?_, trivial⟩
                refine go tbl_ok false ?_
                conv => whnf
                refine loopA ?_
                refine splitA [9] (by kernel_rfl) ⟨?_, trivial⟩
                refine go tbl_ok false ?_
                conv => whnf
                refine appW tbl_ok rfl rfl rfl rfl rfl rfl rfl rfl rfl rfl rfl (sInt (j.xs ++ [1 + (j.k : Int) * 2 + r9.2.2])) (slC_snoc rfl) (by intro h; cases h) (by omega) (go tbl_ok false ?_)
                conv => whnf
                refine loopA ?_
                refine preA tbl_ok false 10 rfl rfl rfl (by kernel_rfl) rfl (andL_mem (by repeat' (first | exact trivial | refine ⟨?_, ?_⟩ | (show _ ∧ _; omega) | omega))) ?_
                refine splitA [11] (by kernel_rfl) ⟨?_, trivial⟩
                refine go tbl_ok false ?_
                conv => whnf
                refine loopA ?_
                refine doneA (by kernel_rfl) (go tbl_ok false ?_)
                conv => whnf
              rotate_left 1
              focus
                refine go tbl_ok false ?_
                conv => whnf
                refine loopA ?_
                refine splitA [1] (by kernel_rfl) ⟨?_, trivial⟩
                refine go tbl_ok false ?_
                conv => whnf
                refine loopA ?_
                refine splitA [9] (by kernel_rfl) ⟨?_, trivial⟩
                refine go tbl_ok false ?_
                conv => whnf
                refine appW tbl_ok rfl rfl rfl rfl rfl rfl rfl rfl rfl rfl rfl (sInt (j.xs ++ [1 + (j.k : Int) * 2 + r9.2.2])) (slC_snoc rfl) (by intro h; cases h) (by omega) (go tbl_ok false ?_)
                conv => whnf
                refine loopA ?_
                refine preA tbl_ok false 10 rfl rfl rfl (by kernel_rfl) rfl (andL_mem (by repeat' (first | exact trivial | refine ⟨?_, ?_⟩ | (show _ ∧ _; omega) | omega))) ?_
                refine splitA [11] (by kernel_rfl) ⟨?_, trivial⟩
                refine go tbl_ok false ?_
                conv => whnf
                refine loopA ?_
                refine doneA (by kernel_rfl) (go tbl_ok false ?_)
                conv => whnf
            all_goals
              have hn9 := hr9.2.2.2 (by decide)
              have hn8 := hr9.2.1
              (repeat (refine ⟨by first | omega | (show _ ∧ _; omega) | ((repeat (first | rw [ByteArray.size_append] | rw [bsz] | rw [List.size_toArray] | rw [List.length_cons] | rw [List.length_nil])) <;> omega) | ((repeat rw [Int.toNat_natCast]) <;> first | omega | (show _ ∧ _; omega)) | (simp only [ByteArray.size_append, bsz, List.size_toArray, List.length_cons, List.length_nil]; omega) | (simp only [Int.toNat_natCast]; first | omega | (show _ ∧ _; omega)) | decide, ?_⟩; conv => whnf))
              refine loopE [(4, 6)] (⟨j.k + 1, r9.1, r9.2.1, j.xs ++ [1 + (j.k : Int) * 2 + r9.2.2]⟩) (⟨hr9.1, by show j.k + 1 ≤ 2; omega, by simp [hx], small_snoc hsm (by omega) (by omega)⟩) (by show 3 - (j.k + 1) < _; omega) ⟨rfl, trivial⟩ ⟨rfl, trivial⟩ (by repeat' (first | exact trivial | exact rfl | refine ⟨?_, ?_⟩)) (by kernel_rfl) (by first | exact trivial | exact ⟨rfl, trivial⟩) (by kernel_rfl)
          · exact retP tbl_ok (s.1, s.2.1, ⟨1 + r.2.2, ([0, 1, 2, 3, 50, 99].getD r2.2.2 0), 0, j.xs⟩) ⟨hs.1, nodeD_mk (in_mk (by omega) (by omega)) (ints_in _ _ (by intro x hx; simp only [List.mem_cons, List.not_mem_nil, or_false] at hx; show _ ∧ _; omega)) (in_mk (by decide) (by decide)) hsm (by omega) (by decide)⟩ rfl rfl rfl rfl (by repeat' (first | exact trivial | exact outC_val _ _ | exact rfl | exact .inr ⟨rfl, rfl, _, _, rfl⟩ | refine ⟨?_, ?_⟩))
        · repeat (first | (refine ite_f (by first | with_reducible rfl | assumption | (simp; done) | fail) ?_; conv => whnf) | (refine ite_t (by first | with_reducible rfl | assumption | (simp; done) | fail) ?_; conv => whnf) | (refine ⟨by first | omega | (show _ ∧ _; omega) | ((repeat (first | rw [ByteArray.size_append] | rw [bsz] | rw [List.size_toArray] | rw [List.length_cons] | rw [List.length_nil])) <;> omega) | ((repeat rw [Int.toNat_natCast]) <;> first | omega | (show _ ∧ _; omega)) | (simp only [ByteArray.size_append, bsz, List.size_toArray, List.length_cons, List.length_nil]; omega) | (simp only [Int.toNat_natCast]; first | omega | (show _ ∧ _; omega)) | decide, ?_⟩; conv => whnf))
          exact retP tbl_ok (r2.1, r2.2.1, ⟨1 + r.2.2, ([0, 1, 2, 3, 50, 99].getD r2.2.2 0), 0, []⟩) ⟨hr2.1, nodeD_mk (in_mk (by omega) (by omega)) (ints_in _ _ (by intro x hx; simp only [List.mem_cons, List.not_mem_nil, or_false] at hx; show _ ∧ _; omega)) (in_mk (by decide) (by decide)) (fun _ h => by cases h) (by decide) (by decide)⟩ rfl rfl rfl rfl (by repeat' (first | exact trivial | exact outC_val _ _ | exact rfl | exact .inr ⟨rfl, rfl, _, _, rfl⟩ | refine ⟨?_, ?_⟩))
      · repeat (first | (refine ite_f (by first | with_reducible rfl | assumption | (simp; done) | fail) ?_; conv => whnf) | (refine ite_t (by first | with_reducible rfl | assumption | (simp; done) | fail) ?_; conv => whnf) | (refine ⟨by first | omega | (show _ ∧ _; omega) | ((repeat (first | rw [ByteArray.size_append] | rw [bsz] | rw [List.size_toArray] | rw [List.length_cons] | rw [List.length_nil])) <;> omega) | ((repeat rw [Int.toNat_natCast]) <;> first | omega | (show _ ∧ _; omega)) | (simp only [ByteArray.size_append, bsz, List.size_toArray, List.length_cons, List.length_nil]; omega) | (simp only [Int.toNat_natCast]; first | omega | (show _ ∧ _; omega)) | decide, ?_⟩; conv => whnf))
        refine ⟨fun c8 => have c8 := bne_iff_ne.1 c8; ?_, fun c8 => have c8 := bne_eq_false_iff_eq.1 c8; ?_⟩ <;> conv => whnf
        · refine nilB 2 3 1 (fun i => (fun n => [vi n]) (([] : List Int).getD i default)) rfl rfl ?_
          refine loopW tbl_ok false [] (fun j : JNd => [(4, .c (vi j.k))]) (fun j => [⟨2, [.c (vi (1 + r.2.2)), .c (vi 0), .c (vi 0), .own 3]⟩, ⟨1, [.c (vi 0), .c (vi 0), .c (vi 0), .c (.val (.slice none 0 0))]⟩, ⟨0, [.c (.val d.v), .c (vi j.i), .c (vi j.h)]⟩]) (fun j => [⟨3, sInt j.xs⟩]) (fun j => (0 ≤ j.i ∧ j.i ≤ d.n) ∧ j.k ≤ 2 ∧ j.xs.length = j.k ∧ SmallL j.xs) (fun j => 3 - j.k) (⟨0, r.1, r.2.1, []⟩) (⟨hr.1, Nat.zero_le _, rfl, fun _ h => by cases h⟩) ⟨by first | rfl | simp [nth, ren2, ren1, ren0], trivial⟩ (by repeat' (first | exact trivial | exact rfl | refine ⟨?_, ?_⟩)) ⟨by first | rfl | exact (congrArg (fun l => slC _ _ l) (List.append_nil _)).symm | (show (_ : Cell) = _; simp) | simp, trivial⟩ (by first | exact trivial | exact ⟨rfl, trivial⟩) (by kernel_rfl) (fun j hj => ?_)
          conv => whnf
          obtain ⟨hi2, hk2, hx, hsm⟩ := hj
          refine callP (curBelow d j.i j.h 3 hi2 (by decide)) hH hp rfl (by repeat' (first | exact trivial | exact outC_val _ _ | exact rfl | exact .inr ⟨rfl, rfl, _, _, rfl⟩ | refine ⟨?_, ?_⟩)) rfl rfl (fun s hs => go tbl_ok false ?_)
          conv => whnf
          refine ⟨fun hlt => have hlt := of_decide_eq_true hlt; ?_, fun hlt => have hlt := of_decide_eq_false hlt; ?_⟩ <;> conv => whnf
          · have hlt2 : s.2.2 < 3 := hs.2.2.2 (by decide)
            refine drawA rfl ?_
            refine preA tbl_ok false 0 rfl rfl rfl (by kernel_rfl) rfl (andL_mem (by repeat' (first | exact trivial | refine ⟨?_, ?_⟩ | (show _ ∧ _; omega) | omega))) ?_
            refine preA tbl_ok false 2 rfl rfl rfl (by kernel_rfl) rfl (andL_mem (by repeat' (first | exact trivial | refine ⟨?_, ?_⟩ | (show _ ∧ _; omega) | omega))) ?_
            refine preA tbl_ok false 3 rfl rfl rfl (by kernel_rfl) rfl (andL_mem (by repeat' (first | exact trivial | refine ⟨?_, ?_⟩ | (show _ ∧ _; omega) | omega))) ?_
            refine preA tbl_ok false 4 rfl rfl rfl (by kernel_rfl) rfl (andL_mem (by repeat' (first | exact trivial | refine ⟨?_, ?_⟩ | (show _ ∧ _; omega) | omega))) ?_
            refine preA tbl_ok false 5 rfl rfl rfl (by kernel_rfl) rfl (andL_mem (by repeat' (first | exact trivial | refine ⟨?_, ?_⟩ | (show _ ∧ _; omega) | omega))) ?_
            refine splitA [1, 6] (by kernel_rfl) ⟨?_, ?_, trivial⟩
            focus
              refine go tbl_ok false ?_
              conv => whnf
              refine loopA ?_
              refine splitA [6] (by kernel_rfl) ⟨?_, trivial⟩
              refine go tbl_ok false ?_
              conv => whnf
              refine callP (curBelow d s.1 s.2.1 2 hs.1 (by decide)) hH hp rfl (by repeat' (first | exact trivial | exact outC_val _ _ | exact rfl | exact .inr ⟨rfl, rfl, _, _, rfl⟩ | refine ⟨?_, ?_⟩)) rfl rfl (fun r9 hr9 => go tbl_ok false ?_)
              conv => whnf
              refine loopA ?_
              refine preA tbl_ok false 7 rfl rfl rfl (by kernel_rfl) rfl (andL_mem (by repeat' (first | exact trivial | refine ⟨?_, ?_⟩ | (show _ ∧ _; omega) | omega))) ?_
              refine splitA [8] (by kernel_rfl) ⟨?_, trivial⟩
              refine go tbl_ok false ?_
              conv => whnf
              refine loopA ?_
              refine splitA [9] (by kernel_rfl) ⟨?_, trivial⟩
              refine go tbl_ok false ?_
              conv => whnf
              refine appW tbl_ok rfl rfl rfl rfl rfl rfl rfl rfl rfl rfl rfl (sInt (j.xs ++ [1 + (j.k : Int) * 2 + r9.2.2])) (slC_snoc rfl) (by intro h; cases h) (by omega) (go tbl_ok false ?_)
              conv => whnf
              refine loopA ?_
              refine preA tbl_ok false 10 rfl rfl rfl (by kernel_rfl) rfl (andL_mem (by repeat' (first | exact trivial | refine ⟨?_, ?_⟩ | (show _ ∧ _; omega) | omega))) ?_
              refine splitA [11] (by kernel_rfl) ⟨?_, trivial⟩
              refine go tbl_ok false ?_
              conv => whnf
              refine loopA ?_
              refine doneA (by kernel_rfl) (go tbl_ok false ?_)
              conv => whnf
            rotate_left 1
            focus
              refine go tbl_ok false ?_
              conv => whnf
              refine callP (curBelow d s.1 s.2.1 2 hs.1 (by decide)) hH hp rfl (by repeat' (first | exact trivial | exact outC_val _ _ | exact rfl | exact .inr ⟨rfl, rfl, _, _, rfl⟩ | refine ⟨?_, ?_⟩)) rfl rfl (fun r9 hr9 => go tbl_ok false ?_)
              conv => whnf
              refine loopA ?_
              refine preA tbl_ok false 7 rfl rfl rfl (by kernel_rfl) rfl (andL_mem (by repeat' (first | exact trivial | refine ⟨?_, ?_⟩ | (show _ ∧ _; omega) | omega))) ?_
              refine splitA [1, 8] (by kernel_rfl) ⟨?_, ?_, trivial⟩
              focus
                refine go tbl_ok false ?_
                conv => whnf
                refine loopA ?_
                refine splitA [8] (by kernel_rfl) ⟨?_, trivial⟩
                refine go tbl_ok false ?_
                conv => whnf
                refine loopA ?_
                refine splitA [9] (by kernel_rfl) ⟨?_, trivial⟩
                refine go tbl_ok false ?_
                conv => whnf
                refine appW tbl_ok rfl rfl rfl rfl rfl rfl rfl rfl rfl rfl rfl (sInt (j.xs ++ [1 + (j.k : Int) * 2 + r9.2.2])) (slC_snoc rfl) (by intro h; cases h) (by omega) (go tbl_ok false ?_)
                conv => whnf
                refine loopA ?_
                refine preA tbl_ok false 10 rfl rfl rfl (by kernel_rfl) rfl (andL_mem (by repeat' (first | exact trivial | refine ⟨?_, ?_⟩ | (show _ ∧ _; omega) | omega))) ?_
                refine splitA [11] (by kernel_rfl) ⟨?_, trivial⟩
                refine go tbl_ok false ?_
                conv => whnf
                refine loopA ?_
                refine doneA (by kernel_rfl) (go tbl_ok false ?_)
                conv => whnf
              rotate_left 1
              focus
                refine go tbl_ok false ?_
                conv => whnf
                refine loopA ?_
                refine splitA [1] (by kernel_rfl) ⟨?_, trivial⟩
                refine go tbl_ok false ?_
                conv => whnf
                refine loopA ?_
                refine splitA [9] (by kernel_rfl) ⟨?_, trivial⟩
                refine go tbl_ok false ?_
                conv => whnf
                refine appW tbl_ok rfl rfl rfl rfl rfl rfl rfl rfl rfl rfl rfl (sInt (j.xs ++ [1 + (j.k : Int) * 2 + r9.2.2])) (slC_snoc rfl) (by intro h; cases h) (by omega) (go tbl_ok false ?_)
                conv => whnf
                refine loopA ?_
                refine preA tbl_ok false 10 rfl rfl rfl (by kernel_rfl) rfl (andL_mem (by repeat' (first | exact trivial | refine ⟨?_, ?_⟩ | (show _ ∧ _; omega) | omega))) ?_
                refine splitA [11] (by kernel_rfl) ⟨?_, trivial⟩
                refine go tbl_ok false ?_
                conv => whnf
                refine loopA ?_
                refine doneA (by kernel_rfl) (go tbl_ok false ?_)
                conv => whnf
            all_goals
              have hn9 := hr9.2.2.2 (by decide)
              have hn8 := hr9.2.1
              (repeat (refine ⟨by first | omega | (show _ ∧ _; omega) | ((repeat (first | rw [ByteArray.size_append] | rw [bsz] | rw [List.size_toArray] | rw [List.length_cons] | rw [List.length_nil])) <;> omega) | ((repeat rw [Int.toNat_natCast]) <;> first | omega | (show _ ∧ _; omega)) | (simp only [ByteArray.size_append, bsz, List.size_toArray, List.length_cons, List.length_nil]; omega) | (simp only [Int.toNat_natCast]; first | omega | (show _ ∧ _; omega)) | decide, ?_⟩; conv => whnf))
              refine loopE [(3, 5)] (⟨j.k + 1, r9.1, r9.2.1, j.xs ++ [1 + (j.k : Int) * 2 + r9.2.2]⟩) (⟨hr9.1, by show j.k + 1 ≤ 2; omega, by simp [hx], small_snoc hsm (by omega) (by omega)⟩) (by show 3 - (j.k + 1) < _; omega) ⟨rfl, trivial⟩ ⟨rfl, trivial⟩ (by repeat' (first | exact trivial | exact rfl | refine ⟨?_, ?_⟩)) (by kernel_rfl) (by first | exact trivial | exact ⟨rfl, trivial⟩) (by kernel_rfl)
          · exact retP tbl_ok (s.1, s.2.1, ⟨1 + r.2.2, 0, 0, j.xs⟩) ⟨hs.1, nodeD_mk (in_mk (by omega) (by omega)) (in_mk (by decide) (by decide)) (in_mk (by decide) (by decide)) hsm (by omega) (by decide)⟩ rfl rfl rfl rfl (by repeat' (first | exact trivial | exact outC_val _ _ | exact rfl | exact .inr ⟨rfl, rfl, _, _, rfl⟩ | refine ⟨?_, ?_⟩))
        · repeat (first | (refine ite_f (by first | with_reducible rfl | assumption | (simp; done) | fail) ?_; conv => whnf) | (refine ite_t (by first | with_reducible rfl | assumption | (simp; done) | fail) ?_; conv => whnf) | (refine ⟨by first | omega | (show _ ∧ _; omega) | ((repeat (first | rw [ByteArray.size_append] | rw [bsz] | rw [List.size_toArray] | rw [List.length_cons] | rw [List.length_nil])) <;> omega) | ((repeat rw [Int.toNat_natCast]) <;> first | omega | (show _ ∧ _; omega)) | (simp only [ByteArray.size_append, bsz, List.size_toArray, List.length_cons, List.length_nil]; omega) | (simp only [Int.toNat_natCast]; first | omega | (show _ ∧ _; omega)) | decide, ?_⟩; conv => whnf))
          exact retP tbl_ok (r.1, r.2.1, ⟨1 + r.2.2, 0, 0, []⟩) ⟨hr.1, nodeD_mk (in_mk (by omega) (by omega)) (in_mk (by decide) (by decide)) (in_mk (by decide) (by decide)) (fun _ h => by cases h) (by decide) (by decide)⟩ rfl rfl rfl rfl (by repeat' (first | exact trivial | exact outC_val _ _ | exact rfl | exact .inr ⟨rfl, rfl, _, _, rfl⟩ | refine ⟨?_, ?_⟩))

end Go.Proofs.YtcpjpkcahnldfaaGreatDoor
