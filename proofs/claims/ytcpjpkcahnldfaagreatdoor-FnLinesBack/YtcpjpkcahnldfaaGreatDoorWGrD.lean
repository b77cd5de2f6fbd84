/- Texts for the law FnLinesBack: WGrD. No conditions. -/
import Derived.Test.YtcpjpkcahnldfaaGreatDoorEng4
import Derived.Test.YtcpjpkcahnldfaaGreatDoorWCur
import Derived.Test.YtcpjpkcahnldfaaGreatDoorH2

set_option maxRecDepth 100000
namespace Go.Proofs.YtcpjpkcahnldfaaGreatDoor
open Go.Sx
/-- Small operators, small graphs. -/
def SmallN (x : GNode) : Prop := (-9 ≤ x.kind ∧ x.kind ≤ 1000) ∧ (-9 ≤ x.a ∧ x.a ≤ 1000) ∧ (-9 ≤ x.b ∧ x.b ≤ 1000) ∧ x.outs.length ≤ 10 ∧ ∀ n ∈ x.outs, -9 ≤ n ∧ n ≤ 1000
def AllN (xs : List GNode) : Prop := ∀ x ∈ xs, SmallN x
theorem small_mk {k a b : Int} {l : List Int} (hk : -9 ≤ k ∧ k ≤ 1000) (ha : -9 ≤ a ∧ a ≤ 1000) (hb : -9 ≤ b ∧ b ≤ 1000) (hl : l.length ≤ 10) (h : ∀ n ∈ l, -9 ≤ n ∧ n ≤ 1000) : SmallN ⟨k, a, b, l⟩ := ⟨hk, ha, hb, hl, h⟩
theorem allN_nil : AllN [] := fun _ h => (List.not_mem_nil h).elim
theorem allN_cons {x : GNode} {xs : List GNode} (h : SmallN x) (hs : AllN xs) : AllN (x :: xs) := fun y hy => by
  rcases List.mem_cons.1 hy with rfl | hy
  · exact h
  · exact hs y hy
theorem allN_snoc {x : GNode} {xs : List GNode} (hs : AllN xs) (h : SmallN x) : AllN (xs ++ [x]) := fun y hy => by
  rcases List.mem_append.1 hy with hy | hy
  · exact hs y hy
  · rw [List.mem_singleton.1 hy]; exact h
theorem allN_set {x : GNode} {xs : List GNode} {j : Nat} (hs : AllN xs) (h : SmallN x) : AllN (xs.set j x) := fun y hy => by
  rcases List.mem_or_eq_of_mem_set hy with hy | rfl
  · exact hs y hy
  · exact h
def GraphD (g : GGraph) : Prop := g.w ≤ 64 ∧ AllN g.nodes ∧ (1 ≤ g.nodes.length ∧ g.nodes.length ≤ 7) ∧ (0 ≤ g.workers ∧ g.workers ≤ 100) ∧ (0 ≤ g.cap ∧ g.cap ≤ 100)
set_option maxHeartbeats 1600000 in
theorem curGraphD (d : DCode) (i h : Int) (hi : 0 ≤ i ∧ i ≤ d.n) : MeetsP Tryz.prog HT 94 d.pins (d.cur i h) [] (fun r : Int × Int × GGraph => (0 ≤ r.1 ∧ r.1 ≤ d.n) ∧ GraphD r.2.2) (fun r => d.cur r.1 r.2.1) (fun r => [.agg r.2.2.c]) := by
  refine enterP tbl_ok false Tryz.func94 rfl (by decide) fun B b hH hp => ?_
  conv => whnf
  refine callP (curBelow d i h 3 hi (by decide)) hH hp rfl (by repeat' (first | exact trivial | exact outC_val _ _ | exact rfl | exact .inr ⟨rfl, rfl, _, _, rfl⟩ | refine ⟨?_, ?_⟩)) rfl rfl (fun r hr => go tbl_ok false ?_)
  conv => whnf
  (repeat (refine ⟨by first | omega | (show _ ∧ _; omega) | ((repeat (first | rw [ByteArray.size_append] | rw [bsz] | rw [List.size_toArray] | rw [List.length_cons] | rw [List.length_nil])) <;> omega) | ((repeat rw [Int.toNat_natCast]) <;> first | omega | (show _ ∧ _; omega)) | (simp only [ByteArray.size_append, bsz, List.size_toArray, List.length_cons, List.length_nil]; omega) | (simp only [Int.toNat_natCast]; first | omega | (show _ ∧ _; omega)) | decide, ?_⟩; conv => whnf))
  refine callP (curBelow d r.1 r.2.1 3 hr.1 (by decide)) hH hp rfl (by repeat' (first | exact trivial | exact outC_val _ _ | exact rfl | exact .inr ⟨rfl, rfl, _, _, rfl⟩ | refine ⟨?_, ?_⟩)) rfl rfl (fun r2 hr2 => go tbl_ok false ?_)
  conv => whnf
  (repeat (refine ⟨by first | omega | (show _ ∧ _; omega) | ((repeat (first | rw [ByteArray.size_append] | rw [bsz] | rw [List.size_toArray] | rw [List.length_cons] | rw [List.length_nil])) <;> omega) | ((repeat rw [Int.toNat_natCast]) <;> first | omega | (show _ ∧ _; omega)) | (simp only [ByteArray.size_append, bsz, List.size_toArray, List.length_cons, List.length_nil]; omega) | (simp only [Int.toNat_natCast]; first | omega | (show _ ∧ _; omega)) | decide, ?_⟩; conv => whnf))
  refine castC 3 (sInt [2, 5]) rfl (cast_rows rfl (by repeat' (first | exact trivial | exact rfl | refine ⟨?_, ?_⟩))) ?_
  refine callP (curOnce d r2.1 r2.2.1 3 hr2.1 (by decide)) hH hp rfl (by repeat' (first | exact trivial | exact outC_val _ _ | exact rfl | exact .inr ⟨rfl, rfl, _, _, rfl⟩ | refine ⟨?_, ?_⟩)) rfl rfl (fun r3 hr3 => go tbl_ok false ?_)
  conv => whnf
  refine ⟨fun cg => ?_, fun cg => ?_⟩ <;> conv => whnf
  · refine callP (curBelow d r3.1 r3.2.1 3 hr3 (by decide)) hH hp rfl (by repeat' (first | exact trivial | exact outC_val _ _ | exact rfl | exact .inr ⟨rfl, rfl, _, _, rfl⟩ | refine ⟨?_, ?_⟩)) rfl rfl (fun r4 hr4 => go tbl_ok false ?_)
    conv => whnf
    (repeat (refine ⟨by first | omega | (show _ ∧ _; omega) | ((repeat (first | rw [ByteArray.size_append] | rw [bsz] | rw [List.size_toArray] | rw [List.length_cons] | rw [List.length_nil])) <;> omega) | ((repeat rw [Int.toNat_natCast]) <;> first | omega | (show _ ∧ _; omega)) | (simp only [ByteArray.size_append, bsz, List.size_toArray, List.length_cons, List.length_nil]; omega) | (simp only [Int.toNat_natCast]; first | omega | (show _ ∧ _; omega)) | decide, ?_⟩; conv => whnf))
    refine castC 5 (sInt [3]) rfl (cast_rows rfl (by repeat' (first | exact trivial | exact rfl | refine ⟨?_, ?_⟩))) ?_
    refine callP (curBelow d r4.1 r4.2.1 4 hr4.1 (by decide)) hH hp rfl (by repeat' (first | exact trivial | exact outC_val _ _ | exact rfl | exact .inr ⟨rfl, rfl, _, _, rfl⟩ | refine ⟨?_, ?_⟩)) rfl rfl (fun r5 hr5 => go tbl_ok false ?_)
    conv => whnf
    refine castC 7 (sInt [4]) rfl (cast_rows rfl (by repeat' (first | exact trivial | exact rfl | refine ⟨?_, ?_⟩))) ?_
    refine callP (curBelow d r5.1 r5.2.1 3 hr5.1 (by decide)) hH hp rfl (by repeat' (first | exact trivial | exact outC_val _ _ | exact rfl | exact .inr ⟨rfl, rfl, _, _, rfl⟩ | refine ⟨?_, ?_⟩)) rfl rfl (fun r6 hr6 => goF 28 tbl_ok false ?_)
    conv => whnf
    refine ⟨by show _ ∧ _; omega, ?_⟩
    conv => whnf
    refine castW 9 (sInt [4]) rfl (cast_rows rfl (by repeat' (first | exact trivial | exact rfl | refine ⟨?_, ?_⟩))) ?_
    refine castW 11 (sInt [1]) rfl (cast_rows rfl (by repeat' (first | exact trivial | exact rfl | refine ⟨?_, ?_⟩))) ?_
    refine castW 14 (sInt [1]) rfl (cast_rows rfl (by repeat' (first | exact trivial | exact rfl | refine ⟨?_, ?_⟩))) ?_
    refine buildW tbl_ok rfl rfl rfl rfl rfl rfl (l := [.c (vi 1), .c (vi 0), .c (vi 0), .own 14, .c (vi 6), .c (vi 0), .c (vi 0), .own 3, .c (vi 4), .c (vi (1 + r4.2.2)), .c (vi 0), .own 5, .c (vi 2), .c (vi r5.2.2), .c (vi 0), .own 7, .c (vi 7), .c (vi 0), .c (vi 0), .own 11, .c (vi 8), .c (vi 0), .c (vi 0), .c (.val (.slice none 0 0))]) (by kernel_rfl)
      (cs := [vi 1, vi 0, vi 0, sInt [1], vi 6, vi 0, vi 0, sInt [2, 5], vi 4, vi (1 + r4.2.2), vi 0, sInt [3], vi 2, vi r5.2.2, vi 0, sInt [4], vi 7, vi 0, vi 0, sInt [1], vi 8, vi 0, vi 0, .val (.slice none 0 0)]) (ks := [14, 3, 5, 7, 11]) (by kernel_rfl) (by kernel_rfl) (go tbl_ok false ?_)
    conv => whnf
    refine castC 15 (sGNode [⟨1, 0, 0, [1]⟩, ⟨6, 0, 0, [2, 5]⟩, ⟨4, 1 + r4.2.2, 0, [3]⟩, ⟨2, r5.2.2, 0, [4]⟩, ⟨7, 0, 0, [1]⟩, ⟨8, 0, 0, []⟩]) rfl (cast_rowsC rfl (by repeat' (first | exact trivial | exact .inl rfl | exact .inr ⟨rfl, _, _, rfl⟩ | refine ⟨?_, ?_⟩))) ?_
    refine callP (curBelow d r6.1 r6.2.1 6 hr6.1 (by decide)) hH hp rfl (by repeat' (first | exact trivial | exact outC_val _ _ | exact rfl | exact .inr ⟨rfl, rfl, _, _, rfl⟩ | refine ⟨?_, ?_⟩)) rfl rfl (fun r7 hr7 => go tbl_ok false ?_)
    conv => whnf
    have q1 := hr.2.2.2 (by decide)
    have p1 := hr.2.1
    have q2 := hr2.2.2.2 (by decide)
    have p2 := hr2.2.1
    have q4 := hr4.2.2.2 (by decide)
    have p4 := hr4.2.1
    have q5 := hr5.2.2.2 (by decide)
    have p5 := hr5.2.1
    have q6 := hr6.2.2.2 (by decide)
    have p6 := hr6.2.1
    refine ⟨fun c0 => ?_, fun c0 => ?_⟩ <;> conv => whnf
    · refine ⟨by simp, ?_⟩
      conv => whnf
      refine storeW (j := 3) tbl_ok rfl rfl rfl rfl rfl rfl rfl rfl _ (slC_set (j := 3) (xs := [⟨1, 0, 0, [1]⟩, ⟨6, 0, 0, [2, 5]⟩, ⟨4, 1 + r4.2.2, 0, [3]⟩, ⟨2, r5.2.2, 0, [4]⟩, ⟨7, 0, 0, [1]⟩, ⟨8, 0, 0, []⟩]) (e := GNode.c) (x := ⟨3, 1 + r6.2.2, 0, [4]⟩) (by simp) rfl) (go tbl_ok false ?_)
      conv => whnf
      exact retP tbl_ok (r7.1, r7.2.1, ⟨List.set [⟨1, 0, 0, [1]⟩, ⟨6, 0, 0, [2, 5]⟩, ⟨4, 1 + r4.2.2, 0, [3]⟩, ⟨2, r5.2.2, 0, [4]⟩, ⟨7, 0, 0, [1]⟩, ⟨8, 0, 0, []⟩] 3 ⟨3, 1 + r6.2.2, 0, [4]⟩, 1 + r.2.2, 1 + r2.2.2⟩) ⟨hr7.1, Nat.le_of_ble_eq_true rfl, (by repeat' (first | exact allN_nil | refine allN_snoc ?_ ?_ | refine allN_set ?_ ?_ | refine allN_cons ?_ ?_ | refine small_mk ?_ ?_ ?_ ?_ ?_ | decide | omega)), ⟨Nat.le_of_ble_eq_true rfl, Nat.le_of_ble_eq_true rfl⟩, ⟨by show 0 ≤ 1 + r.2.2; omega, by show 1 + r.2.2 ≤ 100; omega⟩, ⟨by show 0 ≤ 1 + r2.2.2; omega, by show 1 + r2.2.2 ≤ 100; omega⟩⟩ rfl rfl rfl rfl (by repeat' (first | exact trivial | exact outC_val _ _ | exact rfl | refine ⟨?_, ?_⟩))
    · refine ⟨fun c1 => ?_, fun c1 => ?_⟩ <;> conv => whnf
      · refine ⟨by simp, ?_⟩
        conv => whnf
        refine storeW (j := 4) tbl_ok rfl rfl rfl rfl rfl rfl rfl rfl _ (updOk_upd (j := 4) rfl) (go tbl_ok false ?_)
        conv => whnf
        refine castR 15 (sGNode [⟨1, 0, 0, [1]⟩, ⟨6, 0, 0, [2, 5]⟩, ⟨4, 1 + r4.2.2, 0, [3]⟩, ⟨2, r5.2.2, 0, [4]⟩, ⟨8, 0, 0, []⟩, ⟨8, 0, 0, []⟩]) rfl (cast_rowsC rfl (by repeat' (first | exact trivial | exact .inl rfl | exact .inr ⟨rfl, _, _, rfl⟩ | refine ⟨?_, ?_⟩))) ?_
        exact retP tbl_ok (r7.1, r7.2.1, ⟨[⟨1, 0, 0, [1]⟩, ⟨6, 0, 0, [2, 5]⟩, ⟨4, 1 + r4.2.2, 0, [3]⟩, ⟨2, r5.2.2, 0, [4]⟩, ⟨8, 0, 0, []⟩, ⟨8, 0, 0, []⟩], 1 + r.2.2, 1 + r2.2.2⟩) ⟨hr7.1, Nat.le_of_ble_eq_true rfl, (by repeat' (first | exact allN_nil | refine allN_snoc ?_ ?_ | refine allN_set ?_ ?_ | refine allN_cons ?_ ?_ | refine small_mk ?_ ?_ ?_ ?_ ?_ | decide | omega)), ⟨Nat.le_of_ble_eq_true rfl, Nat.le_of_ble_eq_true rfl⟩, ⟨by show 0 ≤ 1 + r.2.2; omega, by show 1 + r.2.2 ≤ 100; omega⟩, ⟨by show 0 ≤ 1 + r2.2.2; omega, by show 1 + r2.2.2 ≤ 100; omega⟩⟩ rfl rfl rfl rfl (by repeat' (first | exact trivial | exact outC_val _ _ | exact rfl | refine ⟨?_, ?_⟩))
      · refine ⟨fun c2 => ?_, fun c2 => ?_⟩ <;> conv => whnf
        · refine ⟨by simp, ?_⟩
          conv => whnf
          refine castW 16 (sInt [3, 4]) rfl (cast_rows rfl (by repeat' (first | exact trivial | exact rfl | refine ⟨?_, ?_⟩))) ?_
          refine storeW (j := 2) tbl_ok rfl rfl rfl rfl rfl rfl rfl rfl _ (slC_set (j := 2) (xs := [⟨1, 0, 0, [1]⟩, ⟨6, 0, 0, [2, 5]⟩, ⟨4, 1 + r4.2.2, 0, [3]⟩, ⟨2, r5.2.2, 0, [4]⟩, ⟨7, 0, 0, [1]⟩, ⟨8, 0, 0, []⟩]) (e := GNode.c) (x := ⟨4, 1 + r4.2.2, 0, [3, 4]⟩) (by simp) rfl) (go tbl_ok false ?_)
          conv => whnf
          exact retP tbl_ok (r7.1, r7.2.1, ⟨List.set [⟨1, 0, 0, [1]⟩, ⟨6, 0, 0, [2, 5]⟩, ⟨4, 1 + r4.2.2, 0, [3]⟩, ⟨2, r5.2.2, 0, [4]⟩, ⟨7, 0, 0, [1]⟩, ⟨8, 0, 0, []⟩] 2 ⟨4, 1 + r4.2.2, 0, [3, 4]⟩, 1 + r.2.2, 1 + r2.2.2⟩) ⟨hr7.1, Nat.le_of_ble_eq_true rfl, (by repeat' (first | exact allN_nil | refine allN_snoc ?_ ?_ | refine allN_set ?_ ?_ | refine allN_cons ?_ ?_ | refine small_mk ?_ ?_ ?_ ?_ ?_ | decide | omega)), ⟨Nat.le_of_ble_eq_true rfl, Nat.le_of_ble_eq_true rfl⟩, ⟨by show 0 ≤ 1 + r.2.2; omega, by show 1 + r.2.2 ≤ 100; omega⟩, ⟨by show 0 ≤ 1 + r2.2.2; omega, by show 1 + r2.2.2 ≤ 100; omega⟩⟩ rfl rfl rfl rfl (by repeat' (first | exact trivial | exact outC_val _ _ | exact rfl | refine ⟨?_, ?_⟩))
        · refine ⟨fun c3 => ?_, fun c3 => ?_⟩ <;> conv => whnf
          · refine castW 16 (sGNode [⟨8, 0, 0, []⟩]) rfl (cast_rowsC rfl (by repeat' (first | exact trivial | exact .inl rfl | exact .inr ⟨rfl, _, _, rfl⟩ | refine ⟨?_, ?_⟩))) ?_
            refine appW tbl_ok rfl rfl rfl rfl rfl rfl rfl rfl rfl rfl rfl (sGNode ([⟨1, 0, 0, [1]⟩, ⟨6, 0, 0, [2, 5]⟩, ⟨4, 1 + r4.2.2, 0, [3]⟩, ⟨2, r5.2.2, 0, [4]⟩, ⟨7, 0, 0, [1]⟩, ⟨8, 0, 0, []⟩] ++ [⟨8, 0, 0, []⟩])) (slC_snoc (xs := [⟨1, 0, 0, [1]⟩, ⟨6, 0, 0, [2, 5]⟩, ⟨4, 1 + r4.2.2, 0, [3]⟩, ⟨2, r5.2.2, 0, [4]⟩, ⟨7, 0, 0, [1]⟩, ⟨8, 0, 0, []⟩]) (x := ⟨8, 0, 0, []⟩) (e := GNode.c) rfl) (by intro h; cases h) (by simp) (go tbl_ok false ?_)
            conv => whnf
            refine ⟨by simp, ?_⟩
            conv => whnf
            refine castW 18 (sInt [1, 6]) rfl (cast_rows rfl (by repeat' (first | exact trivial | exact rfl | refine ⟨?_, ?_⟩))) ?_
            refine storeW (j := 0) tbl_ok rfl rfl rfl rfl rfl rfl rfl rfl _ (slC_set (j := 0) (xs := [⟨1, 0, 0, [1]⟩, ⟨6, 0, 0, [2, 5]⟩, ⟨4, 1 + r4.2.2, 0, [3]⟩, ⟨2, r5.2.2, 0, [4]⟩, ⟨7, 0, 0, [1]⟩, ⟨8, 0, 0, []⟩] ++ [⟨8, 0, 0, []⟩]) (e := GNode.c) (x := ⟨1, 0, 0, [1, 6]⟩) (by simp) rfl) (go tbl_ok false ?_)
            conv => whnf
            exact retP tbl_ok (r7.1, r7.2.1, ⟨List.set ([⟨1, 0, 0, [1]⟩, ⟨6, 0, 0, [2, 5]⟩, ⟨4, 1 + r4.2.2, 0, [3]⟩, ⟨2, r5.2.2, 0, [4]⟩, ⟨7, 0, 0, [1]⟩, ⟨8, 0, 0, []⟩] ++ [⟨8, 0, 0, []⟩]) 0 ⟨1, 0, 0, [1, 6]⟩, 1 + r.2.2, 1 + r2.2.2⟩) ⟨hr7.1, Nat.le_of_ble_eq_true rfl, (by repeat' (first | exact allN_nil | refine allN_snoc ?_ ?_ | refine allN_set ?_ ?_ | refine allN_cons ?_ ?_ | refine small_mk ?_ ?_ ?_ ?_ ?_ | decide | omega)), ⟨Nat.le_of_ble_eq_true rfl, Nat.le_of_ble_eq_true rfl⟩, ⟨by show 0 ≤ 1 + r.2.2; omega, by show 1 + r.2.2 ≤ 100; omega⟩, ⟨by show 0 ≤ 1 + r2.2.2; omega, by show 1 + r2.2.2 ≤ 100; omega⟩⟩ rfl rfl rfl rfl (by repeat' (first | exact trivial | exact outC_val _ _ | exact rfl | refine ⟨?_, ?_⟩))
          · exact retP tbl_ok (r7.1, r7.2.1, ⟨[⟨1, 0, 0, [1]⟩, ⟨6, 0, 0, [2, 5]⟩, ⟨4, 1 + r4.2.2, 0, [3]⟩, ⟨2, r5.2.2, 0, [4]⟩, ⟨7, 0, 0, [1]⟩, ⟨8, 0, 0, []⟩], 1 + r.2.2, 1 + r2.2.2⟩) ⟨hr7.1, Nat.le_of_ble_eq_true rfl, (by repeat' (first | exact allN_nil | refine allN_snoc ?_ ?_ | refine allN_set ?_ ?_ | refine allN_cons ?_ ?_ | refine small_mk ?_ ?_ ?_ ?_ ?_ | decide | omega)), ⟨Nat.le_of_ble_eq_true rfl, Nat.le_of_ble_eq_true rfl⟩, ⟨by show 0 ≤ 1 + r.2.2; omega, by show 1 + r.2.2 ≤ 100; omega⟩, ⟨by show 0 ≤ 1 + r2.2.2; omega, by show 1 + r2.2.2 ≤ 100; omega⟩⟩ rfl rfl rfl rfl (by repeat' (first | exact trivial | exact outC_val _ _ | exact rfl | refine ⟨?_, ?_⟩))
  · refine callP (curBelow d r3.1 r3.2.1 3 hr3 (by decide)) hH hp rfl (by repeat' (first | exact trivial | exact outC_val _ _ | exact rfl | exact .inr ⟨rfl, rfl, _, _, rfl⟩ | refine ⟨?_, ?_⟩)) rfl rfl (fun r4 hr4 => go tbl_ok false ?_)
    conv => whnf
    (repeat (refine ⟨by first | omega | (show _ ∧ _; omega) | ((repeat (first | rw [ByteArray.size_append] | rw [bsz] | rw [List.size_toArray] | rw [List.length_cons] | rw [List.length_nil])) <;> omega) | ((repeat rw [Int.toNat_natCast]) <;> first | omega | (show _ ∧ _; omega)) | (simp only [ByteArray.size_append, bsz, List.size_toArray, List.length_cons, List.length_nil]; omega) | (simp only [Int.toNat_natCast]; first | omega | (show _ ∧ _; omega)) | decide, ?_⟩; conv => whnf))
    refine castC 5 (sInt [3]) rfl (cast_rows rfl (by repeat' (first | exact trivial | exact rfl | refine ⟨?_, ?_⟩))) ?_
    refine callP (curBelow d r4.1 r4.2.1 4 hr4.1 (by decide)) hH hp rfl (by repeat' (first | exact trivial | exact outC_val _ _ | exact rfl | exact .inr ⟨rfl, rfl, _, _, rfl⟩ | refine ⟨?_, ?_⟩)) rfl rfl (fun r5 hr5 => go tbl_ok false ?_)
    conv => whnf
    refine castC 7 (sInt [4]) rfl (cast_rows rfl (by repeat' (first | exact trivial | exact rfl | refine ⟨?_, ?_⟩))) ?_
    refine callP (curBelow d r5.1 r5.2.1 3 hr5.1 (by decide)) hH hp rfl (by repeat' (first | exact trivial | exact outC_val _ _ | exact rfl | exact .inr ⟨rfl, rfl, _, _, rfl⟩ | refine ⟨?_, ?_⟩)) rfl rfl (fun r6 hr6 => goF 28 tbl_ok false ?_)
    conv => whnf
    refine ⟨by show _ ∧ _; omega, ?_⟩
    conv => whnf
    refine castW 9 (sInt [4]) rfl (cast_rows rfl (by repeat' (first | exact trivial | exact rfl | refine ⟨?_, ?_⟩))) ?_
    refine castW 11 (sInt [1]) rfl (cast_rows rfl (by repeat' (first | exact trivial | exact rfl | refine ⟨?_, ?_⟩))) ?_
    refine castW 14 (sInt [1]) rfl (cast_rows rfl (by repeat' (first | exact trivial | exact rfl | refine ⟨?_, ?_⟩))) ?_
    refine buildW tbl_ok rfl rfl rfl rfl rfl rfl (l := [.c (vi 1), .c (vi 0), .c (vi 0), .own 14, .c (vi 5), .c (vi 0), .c (vi 0), .own 3, .c (vi 4), .c (vi (1 + r4.2.2)), .c (vi 0), .own 5, .c (vi 2), .c (vi r5.2.2), .c (vi 0), .own 7, .c (vi 7), .c (vi 0), .c (vi 0), .own 11, .c (vi 8), .c (vi 0), .c (vi 0), .c (.val (.slice none 0 0))]) (by kernel_rfl)
      (cs := [vi 1, vi 0, vi 0, sInt [1], vi 5, vi 0, vi 0, sInt [2, 5], vi 4, vi (1 + r4.2.2), vi 0, sInt [3], vi 2, vi r5.2.2, vi 0, sInt [4], vi 7, vi 0, vi 0, sInt [1], vi 8, vi 0, vi 0, .val (.slice none 0 0)]) (ks := [14, 3, 5, 7, 11]) (by kernel_rfl) (by kernel_rfl) (go tbl_ok false ?_)
    conv => whnf
    refine castC 15 (sGNode [⟨1, 0, 0, [1]⟩, ⟨5, 0, 0, [2, 5]⟩, ⟨4, 1 + r4.2.2, 0, [3]⟩, ⟨2, r5.2.2, 0, [4]⟩, ⟨7, 0, 0, [1]⟩, ⟨8, 0, 0, []⟩]) rfl (cast_rowsC rfl (by repeat' (first | exact trivial | exact .inl rfl | exact .inr ⟨rfl, _, _, rfl⟩ | refine ⟨?_, ?_⟩))) ?_
    refine callP (curBelow d r6.1 r6.2.1 6 hr6.1 (by decide)) hH hp rfl (by repeat' (first | exact trivial | exact outC_val _ _ | exact rfl | exact .inr ⟨rfl, rfl, _, _, rfl⟩ | refine ⟨?_, ?_⟩)) rfl rfl (fun r7 hr7 => go tbl_ok false ?_)
    conv => whnf
    have q1 := hr.2.2.2 (by decide)
    have p1 := hr.2.1
    have q2 := hr2.2.2.2 (by decide)
    have p2 := hr2.2.1
    have q4 := hr4.2.2.2 (by decide)
    have p4 := hr4.2.1
    have q5 := hr5.2.2.2 (by decide)
    have p5 := hr5.2.1
    have q6 := hr6.2.2.2 (by decide)
    have p6 := hr6.2.1
    refine ⟨fun c0 => ?_, fun c0 => ?_⟩ <;> conv => whnf
    · refine ⟨by simp, ?_⟩
      conv => whnf
      refine storeW (j := 3) tbl_ok rfl rfl rfl rfl rfl rfl rfl rfl _ (slC_set (j := 3) (xs := [⟨1, 0, 0, [1]⟩, ⟨5, 0, 0, [2, 5]⟩, ⟨4, 1 + r4.2.2, 0, [3]⟩, ⟨2, r5.2.2, 0, [4]⟩, ⟨7, 0, 0, [1]⟩, ⟨8, 0, 0, []⟩]) (e := GNode.c) (x := ⟨3, 1 + r6.2.2, 0, [4]⟩) (by simp) rfl) (go tbl_ok false ?_)
      conv => whnf
      exact retP tbl_ok (r7.1, r7.2.1, ⟨List.set [⟨1, 0, 0, [1]⟩, ⟨5, 0, 0, [2, 5]⟩, ⟨4, 1 + r4.2.2, 0, [3]⟩, ⟨2, r5.2.2, 0, [4]⟩, ⟨7, 0, 0, [1]⟩, ⟨8, 0, 0, []⟩] 3 ⟨3, 1 + r6.2.2, 0, [4]⟩, 1 + r.2.2, 1 + r2.2.2⟩) ⟨hr7.1, Nat.le_of_ble_eq_true rfl, (by repeat' (first | exact allN_nil | refine allN_snoc ?_ ?_ | refine allN_set ?_ ?_ | refine allN_cons ?_ ?_ | refine small_mk ?_ ?_ ?_ ?_ ?_ | decide | omega)), ⟨Nat.le_of_ble_eq_true rfl, Nat.le_of_ble_eq_true rfl⟩, ⟨by show 0 ≤ 1 + r.2.2; omega, by show 1 + r.2.2 ≤ 100; omega⟩, ⟨by show 0 ≤ 1 + r2.2.2; omega, by show 1 + r2.2.2 ≤ 100; omega⟩⟩ rfl rfl rfl rfl (by repeat' (first | exact trivial | exact outC_val _ _ | exact rfl | refine ⟨?_, ?_⟩))
    · refine ⟨fun c1 => ?_, fun c1 => ?_⟩ <;> conv => whnf
      · refine ⟨by simp, ?_⟩
        conv => whnf
        refine storeW (j := 4) tbl_ok rfl rfl rfl rfl rfl rfl rfl rfl _ (updOk_upd (j := 4) rfl) (go tbl_ok false ?_)
        conv => whnf
        refine castR 15 (sGNode [⟨1, 0, 0, [1]⟩, ⟨5, 0, 0, [2, 5]⟩, ⟨4, 1 + r4.2.2, 0, [3]⟩, ⟨2, r5.2.2, 0, [4]⟩, ⟨8, 0, 0, []⟩, ⟨8, 0, 0, []⟩]) rfl (cast_rowsC rfl (by repeat' (first | exact trivial | exact .inl rfl | exact .inr ⟨rfl, _, _, rfl⟩ | refine ⟨?_, ?_⟩))) ?_
        exact retP tbl_ok (r7.1, r7.2.1, ⟨[⟨1, 0, 0, [1]⟩, ⟨5, 0, 0, [2, 5]⟩, ⟨4, 1 + r4.2.2, 0, [3]⟩, ⟨2, r5.2.2, 0, [4]⟩, ⟨8, 0, 0, []⟩, ⟨8, 0, 0, []⟩], 1 + r.2.2, 1 + r2.2.2⟩) ⟨hr7.1, Nat.le_of_ble_eq_true rfl, (by repeat' (first | exact allN_nil | refine allN_snoc ?_ ?_ | refine allN_set ?_ ?_ | refine allN_cons ?_ ?_ | refine small_mk ?_ ?_ ?_ ?_ ?_ | decide | omega)), ⟨Nat.le_of_ble_eq_true rfl, Nat.le_of_ble_eq_true rfl⟩, ⟨by show 0 ≤ 1 + r.2.2; omega, by show 1 + r.2.2 ≤ 100; omega⟩, ⟨by show 0 ≤ 1 + r2.2.2; omega, by show 1 + r2.2.2 ≤ 100; omega⟩⟩ rfl rfl rfl rfl (by repeat' (first | exact trivial | exact outC_val _ _ | exact rfl | refine ⟨?_, ?_⟩))
      · refine ⟨fun c2 => ?_, fun c2 => ?_⟩ <;> conv => whnf
        · refine ⟨by simp, ?_⟩
          conv => whnf
          refine castW 16 (sInt [3, 4]) rfl (cast_rows rfl (by repeat' (first | exact trivial | exact rfl | refine ⟨?_, ?_⟩))) ?_
          refine storeW (j := 2) tbl_ok rfl rfl rfl rfl rfl rfl rfl rfl _ (slC_set (j := 2) (xs := [⟨1, 0, 0, [1]⟩, ⟨5, 0, 0, [2, 5]⟩, ⟨4, 1 + r4.2.2, 0, [3]⟩, ⟨2, r5.2.2, 0, [4]⟩, ⟨7, 0, 0, [1]⟩, ⟨8, 0, 0, []⟩]) (e := GNode.c) (x := ⟨4, 1 + r4.2.2, 0, [3, 4]⟩) (by simp) rfl) (go tbl_ok false ?_)
          conv => whnf
          exact retP tbl_ok (r7.1, r7.2.1, ⟨List.set [⟨1, 0, 0, [1]⟩, ⟨5, 0, 0, [2, 5]⟩, ⟨4, 1 + r4.2.2, 0, [3]⟩, ⟨2, r5.2.2, 0, [4]⟩, ⟨7, 0, 0, [1]⟩, ⟨8, 0, 0, []⟩] 2 ⟨4, 1 + r4.2.2, 0, [3, 4]⟩, 1 + r.2.2, 1 + r2.2.2⟩) ⟨hr7.1, Nat.le_of_ble_eq_true rfl, (by repeat' (first | exact allN_nil | refine allN_snoc ?_ ?_ | refine allN_set ?_ ?_ | refine allN_cons ?_ ?_ | refine small_mk ?_ ?_ ?_ ?_ ?_ | decide | omega)), ⟨Nat.le_of_ble_eq_true rfl, Nat.le_of_ble_eq_true rfl⟩, ⟨by show 0 ≤ 1 + r.2.2; omega, by show 1 + r.2.2 ≤ 100; omega⟩, ⟨by show 0 ≤ 1 + r2.2.2; omega, by show 1 + r2.2.2 ≤ 100; omega⟩⟩ rfl rfl rfl rfl (by repeat' (first | exact trivial | exact outC_val _ _ | exact rfl | refine ⟨?_, ?_⟩))
        · refine ⟨fun c3 => ?_, fun c3 => ?_⟩ <;> conv => whnf
          · refine castW 16 (sGNode [⟨8, 0, 0, []⟩]) rfl (cast_rowsC rfl (by repeat' (first | exact trivial | exact .inl rfl | exact .inr ⟨rfl, _, _, rfl⟩ | refine ⟨?_, ?_⟩))) ?_
            refine appW tbl_ok rfl rfl rfl rfl rfl rfl rfl rfl rfl rfl rfl (sGNode ([⟨1, 0, 0, [1]⟩, ⟨5, 0, 0, [2, 5]⟩, ⟨4, 1 + r4.2.2, 0, [3]⟩, ⟨2, r5.2.2, 0, [4]⟩, ⟨7, 0, 0, [1]⟩, ⟨8, 0, 0, []⟩] ++ [⟨8, 0, 0, []⟩])) (slC_snoc (xs := [⟨1, 0, 0, [1]⟩, ⟨5, 0, 0, [2, 5]⟩, ⟨4, 1 + r4.2.2, 0, [3]⟩, ⟨2, r5.2.2, 0, [4]⟩, ⟨7, 0, 0, [1]⟩, ⟨8, 0, 0, []⟩]) (x := ⟨8, 0, 0, []⟩) (e := GNode.c) rfl) (by intro h; cases h) (by simp) (go tbl_ok false ?_)
            conv => whnf
            refine ⟨by simp, ?_⟩
            conv => whnf
            refine castW 18 (sInt [1, 6]) rfl (cast_rows rfl (by repeat' (first | exact trivial | exact rfl | refine ⟨?_, ?_⟩))) ?_
            refine storeW (j := 0) tbl_ok rfl rfl rfl rfl rfl rfl rfl rfl _ (slC_set (j := 0) (xs := [⟨1, 0, 0, [1]⟩, ⟨5, 0, 0, [2, 5]⟩, ⟨4, 1 + r4.2.2, 0, [3]⟩, ⟨2, r5.2.2, 0, [4]⟩, ⟨7, 0, 0, [1]⟩, ⟨8, 0, 0, []⟩] ++ [⟨8, 0, 0, []⟩]) (e := GNode.c) (x := ⟨1, 0, 0, [1, 6]⟩) (by simp) rfl) (go tbl_ok false ?_)
            conv => whnf
            exact retP tbl_ok (r7.1, r7.2.1, ⟨List.set ([⟨1, 0, 0, [1]⟩, ⟨5, 0, 0, [2, 5]⟩, ⟨4, 1 + r4.2.2, 0, [3]⟩, ⟨2, r5.2.2, 0, [4]⟩, ⟨7, 0, 0, [1]⟩, ⟨8, 0, 0, []⟩] ++ [⟨8, 0, 0, []⟩]) 0 ⟨1, 0, 0, [1, 6]⟩, 1 + r.2.2, 1 + r2.2.2⟩) ⟨hr7.1, Nat.le_of_ble_eq_true rfl, (by repeat' (first | exact allN_nil | refine allN_snoc ?_ ?_ | refine allN_set ?_ ?_ | refine allN_cons ?_ ?_ | refine small_mk ?_ ?_ ?_ ?_ ?_ | decide | omega)), ⟨Nat.le_of_ble_eq_true rfl, Nat.le_of_ble_eq_true rfl⟩, ⟨by show 0 ≤ 1 + r.2.2; omega, by show 1 + r.2.2 ≤ 100; omega⟩, ⟨by show 0 ≤ 1 + r2.2.2; omega, by show 1 + r2.2.2 ≤ 100; omega⟩⟩ rfl rfl rfl rfl (by repeat' (first | exact trivial | exact outC_val _ _ | exact rfl | refine ⟨?_, ?_⟩))
          · exact retP tbl_ok (r7.1, r7.2.1, ⟨[⟨1, 0, 0, [1]⟩, ⟨5, 0, 0, [2, 5]⟩, ⟨4, 1 + r4.2.2, 0, [3]⟩, ⟨2, r5.2.2, 0, [4]⟩, ⟨7, 0, 0, [1]⟩, ⟨8, 0, 0, []⟩], 1 + r.2.2, 1 + r2.2.2⟩) ⟨hr7.1, Nat.le_of_ble_eq_true rfl, (by repeat' (first | exact allN_nil | refine allN_snoc ?_ ?_ | refine allN_set ?_ ?_ | refine allN_cons ?_ ?_ | refine small_mk ?_ ?_ ?_ ?_ ?_ | decide | omega)), ⟨Nat.le_of_ble_eq_true rfl, Nat.le_of_ble_eq_true rfl⟩, ⟨by show 0 ≤ 1 + r.2.2; omega, by show 1 + r.2.2 ≤ 100; omega⟩, ⟨by show 0 ≤ 1 + r2.2.2; omega, by show 1 + r2.2.2 ≤ 100; omega⟩⟩ rfl rfl rfl rfl (by repeat' (first | exact trivial | exact outC_val _ _ | exact rfl | refine ⟨?_, ?_⟩))
theorem curGraph (d : DCode) (i h : Int) (hi : 0 ≤ i ∧ i ≤ d.n) : MeetsP Tryz.prog HT 94 d.pins (d.cur i h) [] (fun r : Int × Int × GGraph => (0 ≤ r.1 ∧ r.1 ≤ d.n) ∧ r.2.2.w ≤ 64) (fun r => d.cur r.1 r.2.1) (fun r => [.agg r.2.2.c]) := (curGraphD d i h hi).weak fun _ h => ⟨h.1, h.2.1⟩

end Go.Proofs.YtcpjpkcahnldfaaGreatDoor
