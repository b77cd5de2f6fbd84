/- Texts for the law FnLinesBack: WCur. No conditions. -/
import Derived.Test.YtcpjpkcahnldfaaGreatDoorEng4
import Derived.Test.YtcpjpkcahnldfaaGreatDoorH2

set_option maxRecDepth 100000
namespace Go.Proofs.YtcpjpkcahnldfaaGreatDoor
open Go.Sx
/-- The code that is drawn from: where it lies, its bytes. -/
structure DCode where
  a : Option Addr
  n : Nat
  c : Nat
  b : Nat → Nat
  hb : ∀ i, b i ≤ 255
  hn : n ≤ 1048576

abbrev DCode.v (d : DCode) : Value := .slice d.a d.n d.c
abbrev DCode.cell (d : DCode) : Cell := .sl d.n 1 fun i => [.val (.int .u8 (d.b i))]
abbrev DCode.pins (d : DCode) : List (Cell × Value) := [(d.cell, d.v)]
/-- A cursor: its cells. -/
abbrev DCode.cur (d : DCode) (i h : Int) : List Cell := [.val d.v, vi i, vi h]
/-- The world is not asked for anything. -/
abbrev HT : World → Prop := fun _ => True

theorem curByte (d : DCode) (i h : Int) (hi : 0 ≤ i ∧ i ≤ d.n) : MeetsP Tryz.prog HT 109 d.pins (d.cur i h) [] (fun r : Int × Int × Int => (0 ≤ r.1 ∧ r.1 ≤ d.n) ∧ 0 ≤ r.2.2 ∧ r.2.2 ≤ 255) (fun r => d.cur r.1 r.2.1) (fun r => [.one (vi r.2.2)]) := by
  have hn := d.hn
  refine enterP tbl_ok true Tryz.func109 rfl (by decide) fun B b hH hp => ?_
  conv => whnf
  first | (refine drawI 2 rfl [0, 1, 2, 3, 4, 5, 6, 7, 8, 9, 10, 11, 12] (by kernel_rfl) (go tbl_ok true ?_); conv => whnf) | (refine drawI 3 rfl [0, 1, 2, 3, 4, 5, 6, 7, 8, 9] (by kernel_rfl) (go tbl_ok true ?_); conv => whnf) | (refine drawI 4 rfl [0, 1, 2, 3, 4, 5, 6, 7, 8, 9, 10, 11, 12, 13, 14] (by kernel_rfl) (go tbl_ok true ?_); conv => whnf)
  refine shrW rfl rfl rfl rfl (by decide) (fun r => go tbl_ok true ?_)
  conv => whnf
  refine shrW rfl rfl rfl rfl (by decide) (fun r2 => go tbl_ok true ?_)
  conv => whnf
  refine xorW rfl rfl rfl rfl (fun r3 => go tbl_ok true ?_)
  conv => whnf
  refine andW rfl rfl rfl rfl (by decide) (by decide) (fun x0 h0 h1 => go tbl_ok true ?_)
  conv => whnf
  first | (refine drawI 2 rfl [0, 1, 2, 3, 4, 5, 6, 7, 8, 9, 10, 11, 12] (by kernel_rfl) (go tbl_ok true ?_); conv => whnf) | (refine drawI 3 rfl [0, 1, 2, 3, 4, 5, 6, 7, 8, 9] (by kernel_rfl) (go tbl_ok true ?_); conv => whnf) | (refine drawI 4 rfl [0, 1, 2, 3, 4, 5, 6, 7, 8, 9, 10, 11, 12, 13, 14] (by kernel_rfl) (go tbl_ok true ?_); conv => whnf)
  refine ⟨fun hlt => have hlt := of_decide_eq_true hlt; ?_, fun hlt => have hlt := of_decide_eq_false hlt; ?_⟩ <;> conv => whnf
  · first | (refine drawI 2 rfl [0, 1, 2, 3, 4, 5, 6, 7, 8, 9, 10, 11, 12] (by kernel_rfl) (go tbl_ok true ?_); conv => whnf) | (refine drawI 3 rfl [0, 1, 2, 3, 4, 5, 6, 7, 8, 9] (by kernel_rfl) (go tbl_ok true ?_); conv => whnf) | (refine drawI 4 rfl [0, 1, 2, 3, 4, 5, 6, 7, 8, 9, 10, 11, 12, 13, 14] (by kernel_rfl) (go tbl_ok true ?_); conv => whnf)
    refine idxP tbl_ok hp 0 rfl rfl rfl rfl rfl rfl rfl rfl rfl (⟨hi.1, hlt⟩) (go tbl_ok true ?_)
    conv => whnf
    refine andW rfl rfl rfl rfl (by decide) (by decide) (fun x1 g0 g1 => go tbl_ok true ?_)
    conv => whnf
    exact retP tbl_ok (i + 1, _, x1) ⟨⟨by omega, by show i + 1 ≤ _; omega⟩, g0, g1⟩ rfl rfl rfl rfl ⟨⟨outC_val _ _, by show Cell.val _ = _; rw [show IntKind.i64.wrap (i + 1) = i + 1 by rw [IntKind.wrap_i64]; omega], rfl, trivial⟩, rfl, trivial⟩
  · exact retP tbl_ok (i, _, x0) ⟨hi, h0, h1⟩ rfl rfl rfl rfl (by repeat' (first | exact trivial | exact outC_val _ _ | exact rfl | exact .inr ⟨rfl, rfl, _, _, rfl⟩ | refine ⟨?_, ?_⟩))

theorem wrap_ok {i : Int} (h : -9223372036854775808 ≤ i ∧ i ≤ 9223372036854775807) : IntKind.i64.wrap i = i := by rw [IntKind.wrap_i64]; omega

theorem curNew (d : DCode) : MeetsN Tryz.prog 52 d.pins [.one (.val d.v)] (fun _ : Int => True) (fun h => d.cur 0 h) := by
  have hn := d.hn
  refine enterN tbl_ok true Tryz.func52 rfl (by decide) fun W hp => ?_
  conv => whnf
  refine loopW tbl_ok true [] (fun j : Nat × Int => [(3, .c (vi j.2)), (4, .c (vi j.1))]) (fun j => []) (fun j => []) (fun j => (j.1 : Int) ≤ d.n) (fun j => d.n - j.1) ((0, _)) (Int.natCast_nonneg _) ⟨by first | rfl | simp [nth, ren2, ren1, ren0], by first | rfl | simp [nth, ren2, ren1, ren0], trivial⟩ trivial trivial (by first | exact trivial | exact ⟨rfl, trivial⟩) (by kernel_rfl) (fun j hj => ?_)
  conv => whnf
  refine ⟨fun h => have h := of_decide_eq_true h; ?_, fun h => have h := of_decide_eq_false h; ?_⟩ <;> conv => whnf
  · refine ite_t (by first | with_reducible rfl | assumption | (simp only [decide_eq_true_eq]; omega) | simp) ?_
    conv => whnf
    refine ite_t (by first | with_reducible rfl | assumption | (simp only [decide_eq_true_eq]; omega) | simp) ?_
    conv => whnf
    refine ⟨fun h2 => have h2 := of_decide_eq_true h2; ?_, fun h2 => have h2 := of_decide_eq_false h2; ?_⟩ <;> conv => whnf
    · refine idxP tbl_ok hp 0 rfl rfl rfl rfl rfl rfl rfl rfl rfl (⟨by omega, h⟩) (go tbl_ok true ?_)
      conv => whnf
      refine andW rfl rfl rfl rfl (by decide) (by decide) (fun r r0 r1 => go tbl_ok true ?_)
      conv => whnf
      refine loopE [] ((j.1 + 1, r)) ((by show ((j.1 + 1 : Nat) : Int) ≤ _; omega)) (by show d.n - (j.1 + 1) < _; omega) ⟨rfl, (by show AV.c (vi _) = AV.c (vi _); rw [wrap_ok (by omega)]; rfl), trivial⟩ trivial trivial (by kernel_rfl) (by first | exact trivial | exact ⟨rfl, trivial⟩) (by kernel_rfl)
    · exact retN tbl_ok j.2 trivial rfl rfl rfl (by repeat' (first | exact trivial | exact outC_val _ _ | exact rfl | exact .inr ⟨rfl, rfl, _, _, rfl⟩ | refine ⟨?_, ?_⟩))
  · repeat' (first | (refine ite_f (by first | with_reducible rfl | assumption) ?_; conv => whnf) | (refine ite_t (by first | with_reducible rfl | assumption) ?_; conv => whnf) | (refine ⟨fun h => ?_, fun h => ?_⟩ <;> conv => whnf) | (refine ⟨by first | omega | (show _ ∧ _; omega) | ((repeat (first | rw [ByteArray.size_append] | rw [bsz] | rw [List.size_toArray] | rw [List.length_cons] | rw [List.length_nil])) <;> omega) | ((repeat rw [Int.toNat_natCast]) <;> first | omega | (show _ ∧ _; omega)) | (simp only [ByteArray.size_append, bsz, List.size_toArray, List.length_cons, List.length_nil]; omega) | (simp only [Int.toNat_natCast]; first | omega | (show _ ∧ _; omega)) | decide, ?_⟩; conv => whnf) | fail)
    exact retN tbl_ok j.2 trivial rfl rfl rfl (by repeat' (first | exact trivial | exact outC_val _ _ | exact rfl | exact .inr ⟨rfl, rfl, _, _, rfl⟩ | refine ⟨?_, ?_⟩))

theorem curBelow (d : DCode) (i h n : Int) (hi : 0 ≤ i ∧ i ≤ d.n) (hn : n ≤ 1099511627776) : MeetsP Tryz.prog HT 86 d.pins (d.cur i h) [.one (vi n)] (fun r : Int × Int × Int => (0 ≤ r.1 ∧ r.1 ≤ d.n) ∧ 0 ≤ r.2.2 ∧ (n ≤ 0 → r.2.2 = 0) ∧ (0 < n → r.2.2 < n)) (fun r => d.cur r.1 r.2.1) (fun r => [.one (vi r.2.2)]) := by
  have hdn := d.hn
  refine enterP tbl_ok false Tryz.func86 rfl (by decide) fun B b hH hp => ?_
  conv => whnf
  refine ⟨fun h0 => have h0 := of_decide_eq_true h0; ?_, fun h0 => have h0 := of_decide_eq_false h0; ?_⟩ <;> conv => whnf
  · exact retP tbl_ok (i, h, 0) ⟨hi, Int.le_refl _, fun _ => rfl, fun h => by omega⟩ rfl rfl rfl rfl (by repeat' (first | exact trivial | exact outC_val _ _ | exact rfl | exact .inr ⟨rfl, rfl, _, _, rfl⟩ | refine ⟨?_, ?_⟩))
  · refine ⟨fun h1 => have h1 := of_decide_eq_true h1; ?_, fun h1 => have h1 := of_decide_eq_false h1; ?_⟩ <;> conv => whnf
    · refine callP (curByte d i h hi) hH hp rfl (by repeat' (first | exact trivial | exact outC_val _ _ | exact rfl | exact .inr ⟨rfl, rfl, _, _, rfl⟩ | refine ⟨?_, ?_⟩)) rfl rfl (fun r hr => go tbl_ok false ?_)
      conv => whnf
      (repeat (refine ⟨by first | omega | (show _ ∧ _; omega) | ((repeat (first | rw [ByteArray.size_append] | rw [bsz] | rw [List.size_toArray] | rw [List.length_cons] | rw [List.length_nil])) <;> omega) | ((repeat rw [Int.toNat_natCast]) <;> first | omega | (show _ ∧ _; omega)) | (simp only [ByteArray.size_append, bsz, List.size_toArray, List.length_cons, List.length_nil]; omega) | (simp only [Int.toNat_natCast]; first | omega | (show _ ∧ _; omega)) | decide, ?_⟩; conv => whnf))
      exact retP tbl_ok (r.1, r.2.1, r.2.2.tmod n) ⟨hr.1, Int.tmod_nonneg _ hr.2.1, fun h => by omega, fun h => Int.tmod_lt_of_pos _ h⟩ rfl rfl rfl rfl (by repeat' (first | exact trivial | exact outC_val _ _ | exact rfl | exact .inr ⟨rfl, rfl, _, _, rfl⟩ | refine ⟨?_, ?_⟩))
    · refine callP (curByte d i h hi) hH hp rfl (by repeat' (first | exact trivial | exact outC_val _ _ | exact rfl | exact .inr ⟨rfl, rfl, _, _, rfl⟩ | refine ⟨?_, ?_⟩)) rfl rfl (fun r hr => go tbl_ok false ?_)
      conv => whnf
      refine callP (curByte d r.1 r.2.1 hr.1) hH hp rfl (by repeat' (first | exact trivial | exact outC_val _ _ | exact rfl | exact .inr ⟨rfl, rfl, _, _, rfl⟩ | refine ⟨?_, ?_⟩)) rfl rfl (fun r2 hr2 => go tbl_ok false ?_)
      conv => whnf
      refine callP (curByte d r2.1 r2.2.1 hr2.1) hH hp rfl (by repeat' (first | exact trivial | exact outC_val _ _ | exact rfl | exact .inr ⟨rfl, rfl, _, _, rfl⟩ | refine ⟨?_, ?_⟩)) rfl rfl (fun r3 hr3 => go tbl_ok false ?_)
      conv => whnf
      refine callP (curByte d r3.1 r3.2.1 hr3.1) hH hp rfl (by repeat' (first | exact trivial | exact outC_val _ _ | exact rfl | exact .inr ⟨rfl, rfl, _, _, rfl⟩ | refine ⟨?_, ?_⟩)) rfl rfl (fun r4 hr4 => go tbl_ok false ?_)
      conv => whnf
      (repeat (refine ⟨by first | omega | (show _ ∧ _; omega) | ((repeat (first | rw [ByteArray.size_append] | rw [bsz] | rw [List.size_toArray] | rw [List.length_cons] | rw [List.length_nil])) <;> omega) | ((repeat rw [Int.toNat_natCast]) <;> first | omega | (show _ ∧ _; omega)) | (simp only [ByteArray.size_append, bsz, List.size_toArray, List.length_cons, List.length_nil]; omega) | (simp only [Int.toNat_natCast]; first | omega | (show _ ∧ _; omega)) | decide, ?_⟩; conv => whnf))
      exact retP tbl_ok (r4.1, r4.2.1, (r.2.2 * 16777216 + r2.2.2 * 65536 + r3.2.2 * 256 + r4.2.2).tmod n) ⟨hr4.1, Int.tmod_nonneg _ (by omega), fun h => by omega, fun h => Int.tmod_lt_of_pos _ h⟩ rfl rfl rfl rfl (by repeat' (first | exact trivial | exact outC_val _ _ | exact rfl | exact .inr ⟨rfl, rfl, _, _, rfl⟩ | refine ⟨?_, ?_⟩))

theorem curOnce (d : DCode) (i h n : Int) (hi : 0 ≤ i ∧ i ≤ d.n) (hn : n ≤ 1099511627776) : MeetsP Tryz.prog HT 64 d.pins (d.cur i h) [.one (vi n)] (fun r : Int × Int × Bool => 0 ≤ r.1 ∧ r.1 ≤ d.n) (fun r => d.cur r.1 r.2.1) (fun r => [.one (vb r.2.2)]) := by
  refine enterP tbl_ok false Tryz.func64 rfl (by decide) fun B b hH hp => ?_
  conv => whnf
  refine callP (curBelow d i h n hi hn) hH hp rfl (by repeat' (first | exact trivial | exact outC_val _ _ | exact rfl | exact .inr ⟨rfl, rfl, _, _, rfl⟩ | refine ⟨?_, ?_⟩)) rfl rfl (fun r hr => go tbl_ok false ?_)
  conv => whnf
  exact retP tbl_ok (r.1, r.2.1, _) hr.1 rfl rfl rfl rfl (by repeat' (first | exact trivial | exact outC_val _ _ | exact rfl | exact .inr ⟨rfl, rfl, _, _, rfl⟩ | refine ⟨?_, ?_⟩))

theorem curPickInt (d : DCode) (i h : Int) (xs : List Int) (hi : 0 ≤ i ∧ i ≤ d.n) (hx : 0 < xs.length ∧ xs.length ≤ 1048576) : MeetsP Tryz.prog HT 87 d.pins (d.cur i h) [.one (sInt xs)] (fun r : Int × Int × Nat => (0 ≤ r.1 ∧ r.1 ≤ d.n) ∧ r.2.2 < xs.length) (fun r => d.cur r.1 r.2.1) (fun r => [.one (vi (xs.getD r.2.2 0))]) := by
  refine enterP tbl_ok false Tryz.func87 rfl (by decide) fun B b hH hp => ?_
  conv => whnf
  refine callP (curBelow d i h xs.length hi (by omega)) hH hp rfl (by repeat' (first | exact trivial | exact outC_val _ _ | exact rfl | exact .inr ⟨rfl, rfl, _, _, rfl⟩ | refine ⟨?_, ?_⟩)) rfl rfl (fun r hr => go tbl_ok false ?_)
  conv => whnf
  (repeat (refine ⟨by first | omega | (show _ ∧ _; omega) | ((repeat (first | rw [ByteArray.size_append] | rw [bsz] | rw [List.size_toArray] | rw [List.length_cons] | rw [List.length_nil])) <;> omega) | ((repeat rw [Int.toNat_natCast]) <;> first | omega | (show _ ∧ _; omega)) | (simp only [ByteArray.size_append, bsz, List.size_toArray, List.length_cons, List.length_nil]; omega) | (simp only [Int.toNat_natCast]; first | omega | (show _ ∧ _; omega)) | decide, ?_⟩; conv => whnf))
  exact retP tbl_ok (r.1, r.2.1, r.2.2.toNat) ⟨hr.1, by have := hr.2.2.2 (by omega); show r.2.2.toNat < _; omega⟩ rfl rfl rfl rfl (by repeat' (first | exact trivial | exact outC_val _ _ | exact rfl | exact .inr ⟨rfl, rfl, _, _, rfl⟩ | refine ⟨?_, ?_⟩))

end Go.Proofs.YtcpjpkcahnldfaaGreatDoor
