/- Texts for the law FnLinesBack: WCurR. No conditions. -/
import Derived.Test.YtcpjpkcahnldfaaGreatDoorEng4
import Derived.Test.YtcpjpkcahnldfaaGreatDoorWCur
import Derived.Test.YtcpjpkcahnldfaaGreatDoorH2

set_option maxRecDepth 100000
namespace Go.Proofs.YtcpjpkcahnldfaaGreatDoor
open Go.Sx
theorem ints_in (xs : List Int) (k : Nat) (h : ∀ x ∈ xs, inR .i64 x) : inR .i64 (xs.getD k 0) := getD_all (p := fun w => inR .i64 w) xs k 0 h ⟨by decide, by decide⟩
theorem in_mk {n : Int} (h : -9223372036854775808 ≤ n) (h' : n ≤ 9223372036854775807) : inR .i64 n := ⟨h, h'⟩

theorem curStamp (d : DCode) (i h : Int) (hi : 0 ≤ i ∧ i ≤ d.n) : MeetsP Tryz.prog HT 123 d.pins (d.cur i h) [] (fun r : Int × Int × GStamp => (0 ≤ r.1 ∧ r.1 ≤ d.n) ∧ r.2.2.ok) (fun r => d.cur r.1 r.2.1) (fun r => [.agg r.2.2.c]) := by
  refine enterP tbl_ok false Tryz.func123 rfl (by decide) fun B b hH hp => ?_
  conv => whnf
  refine callP (curBelow d i h 4 hi (by decide)) hH hp rfl (by repeat' (first | exact trivial | exact outC_val _ _ | exact rfl | exact .inr ⟨rfl, rfl, _, _, rfl⟩ | refine ⟨?_, ?_⟩)) rfl rfl (fun r hr => go tbl_ok false ?_)
  conv => whnf
  refine callP (curBelow d r.1 r.2.1 5 hr.1 (by decide)) hH hp rfl (by repeat' (first | exact trivial | exact outC_val _ _ | exact rfl | exact .inr ⟨rfl, rfl, _, _, rfl⟩ | refine ⟨?_, ?_⟩)) rfl rfl (fun r2 hr2 => go tbl_ok false ?_)
  conv => whnf
  exact retP tbl_ok (r2.1, r2.2.1, ⟨r.2.2, r2.2.2⟩) ⟨hr2.1, in_mk (by show _ ≤ r.2.2; omega) (by show r.2.2 ≤ _; omega), in_mk (by show _ ≤ r2.2.2; omega) (by show r2.2.2 ≤ _; omega)⟩ rfl rfl rfl rfl (by repeat' (first | exact trivial | exact outC_val _ _ | exact rfl | exact .inr ⟨rfl, rfl, _, _, rfl⟩ | refine ⟨?_, ?_⟩))

theorem curAnyStamp (d : DCode) (i h : Int) (hi : 0 ≤ i ∧ i ≤ d.n) : MeetsP Tryz.prog HT 111 d.pins (d.cur i h) [] (fun r : Int × Int × GStamp => (0 ≤ r.1 ∧ r.1 ≤ d.n) ∧ r.2.2.ok) (fun r => d.cur r.1 r.2.1) (fun r => [.agg r.2.2.c]) := by
  refine enterP tbl_ok false Tryz.func111 rfl (by decide) fun B b hH hp => ?_
  conv => whnf
  refine callP (curStamp d i h hi) hH hp rfl (by repeat' (first | exact trivial | exact outC_val _ _ | exact rfl | exact .inr ⟨rfl, rfl, _, _, rfl⟩ | refine ⟨?_, ?_⟩)) rfl rfl (fun r hr => go tbl_ok false ?_)
  conv => whnf
  refine callP (curBelow d r.1 r.2.1 10 hr.1 (by decide)) hH hp rfl (by repeat' (first | exact trivial | exact outC_val _ _ | exact rfl | exact .inr ⟨rfl, rfl, _, _, rfl⟩ | refine ⟨?_, ?_⟩)) rfl rfl (fun r2 hr2 => go tbl_ok false ?_)
  conv => whnf
  refine ⟨fun c0 => ?_, fun c0 => ?_⟩ <;> conv => whnf
  · refine castC 3 (sInt [-1, 3, 4, 9223372036854775807]) rfl (cast_rows rfl (by repeat' (first | exact trivial | exact rfl | refine ⟨?_, ?_⟩))) ?_
    refine callP (curPickInt d r2.1 r2.2.1 [-1, 3, 4, 9223372036854775807] hr2.1 (by decide)) hH hp rfl (by repeat' (first | exact trivial | exact outC_val _ _ | exact rfl | exact .inr ⟨rfl, rfl, _, _, rfl⟩ | refine ⟨?_, ?_⟩)) rfl rfl (fun r3 hr3 => go tbl_ok false ?_)
    conv => whnf
    exact retP tbl_ok (r3.1, r3.2.1, ⟨[-1, 3, 4, 9223372036854775807].getD r3.2.2 0, r.2.2.turn⟩) ⟨hr3.1, ints_in _ _ (by intro x hx; simp only [List.mem_cons, List.not_mem_nil, or_false] at hx; show _ ∧ _; omega), hr.2.2⟩ rfl rfl rfl rfl (by repeat' (first | exact trivial | exact outC_val _ _ | exact rfl | exact .inr ⟨rfl, rfl, _, _, rfl⟩ | refine ⟨?_, ?_⟩))
  · refine ⟨fun c1 => ?_, fun c1 => ?_⟩ <;> conv => whnf
    · refine castC 3 (sInt [-1, 5, 6, 7, -9223372036854775808]) rfl (cast_rows rfl (by repeat' (first | exact trivial | exact rfl | refine ⟨?_, ?_⟩))) ?_
      refine callP (curPickInt d r2.1 r2.2.1 [-1, 5, 6, 7, -9223372036854775808] hr2.1 (by decide)) hH hp rfl (by repeat' (first | exact trivial | exact outC_val _ _ | exact rfl | exact .inr ⟨rfl, rfl, _, _, rfl⟩ | refine ⟨?_, ?_⟩)) rfl rfl (fun r3 hr3 => go tbl_ok false ?_)
      conv => whnf
      exact retP tbl_ok (r3.1, r3.2.1, ⟨r.2.2.epoch, [-1, 5, 6, 7, -9223372036854775808].getD r3.2.2 0⟩) ⟨hr3.1, hr.2.1, ints_in _ _ (by intro x hx; simp only [List.mem_cons, List.not_mem_nil, or_false] at hx; show _ ∧ _; omega)⟩ rfl rfl rfl rfl (by repeat' (first | exact trivial | exact outC_val _ _ | exact rfl | exact .inr ⟨rfl, rfl, _, _, rfl⟩ | refine ⟨?_, ?_⟩))
    · exact retP tbl_ok (r2.1, r2.2.1, r.2.2) ⟨hr2.1, hr.2⟩ rfl rfl rfl rfl (by repeat' (first | exact trivial | exact outC_val _ _ | exact rfl | exact .inr ⟨rfl, rfl, _, _, rfl⟩ | refine ⟨?_, ?_⟩))

theorem curRecord (d : DCode) (i h : Int) (hi : 0 ≤ i ∧ i ≤ d.n) : MeetsP Tryz.prog HT 110 d.pins (d.cur i h) [] (fun r : Int × Int × GRecord => (0 ≤ r.1 ∧ r.1 ≤ d.n) ∧ r.2.2.ok) (fun r => d.cur r.1 r.2.1) (fun r => [.agg r.2.2.c]) := by
  refine enterP tbl_ok false Tryz.func110 rfl (by decide) fun B b hH hp => ?_
  conv => whnf
  refine callP (curBelow d i h 5 hi (by decide)) hH hp rfl (by repeat' (first | exact trivial | exact outC_val _ _ | exact rfl | exact .inr ⟨rfl, rfl, _, _, rfl⟩ | refine ⟨?_, ?_⟩)) rfl rfl (fun r hr => go tbl_ok false ?_)
  conv => whnf
  refine callP (curStamp d r.1 r.2.1 hr.1) hH hp rfl (by repeat' (first | exact trivial | exact outC_val _ _ | exact rfl | exact .inr ⟨rfl, rfl, _, _, rfl⟩ | refine ⟨?_, ?_⟩)) rfl rfl (fun s hs => go tbl_ok false ?_)
  conv => whnf
  refine callP (curBelow d s.1 s.2.1 12 hs.1 (by decide)) hH hp rfl (by repeat' (first | exact trivial | exact outC_val _ _ | exact rfl | exact .inr ⟨rfl, rfl, _, _, rfl⟩ | refine ⟨?_, ?_⟩)) rfl rfl (fun r2 hr2 => go tbl_ok false ?_)
  conv => whnf
  refine callP (curBelow d r2.1 r2.2.1 40 hr2.1 (by decide)) hH hp rfl (by repeat' (first | exact trivial | exact outC_val _ _ | exact rfl | exact .inr ⟨rfl, rfl, _, _, rfl⟩ | refine ⟨?_, ?_⟩)) rfl rfl (fun r3 hr3 => go tbl_ok false ?_)
  conv => whnf
  exact retP tbl_ok (r3.1, r3.2.1, ⟨r.2.2, s.2.2, r2.2.2, r3.2.2⟩) ⟨hr3.1, in_mk (by show _ ≤ r.2.2; omega) (by show r.2.2 ≤ _; omega), hs.2, in_mk (by show _ ≤ r2.2.2; omega) (by show r2.2.2 ≤ _; omega), in_mk (by show _ ≤ r3.2.2; omega) (by show r3.2.2 ≤ _; omega)⟩ rfl rfl rfl rfl (by repeat' (first | exact trivial | exact outC_val _ _ | exact rfl | exact .inr ⟨rfl, rfl, _, _, rfl⟩ | refine ⟨?_, ?_⟩))

theorem curAnyRecord (d : DCode) (i h : Int) (hi : 0 ≤ i ∧ i ≤ d.n) : MeetsP Tryz.prog HT 88 d.pins (d.cur i h) [] (fun r : Int × Int × GRecord => (0 ≤ r.1 ∧ r.1 ≤ d.n) ∧ r.2.2.ok) (fun r => d.cur r.1 r.2.1) (fun r => [.agg r.2.2.c]) := by
  refine enterP tbl_ok false Tryz.func88 rfl (by decide) fun B b hH hp => ?_
  conv => whnf
  refine callP (curRecord d i h hi) hH hp rfl (by repeat' (first | exact trivial | exact outC_val _ _ | exact rfl | exact .inr ⟨rfl, rfl, _, _, rfl⟩ | refine ⟨?_, ?_⟩)) rfl rfl (fun r hr => go tbl_ok false ?_)
  conv => whnf
  refine callP (curBelow d r.1 r.2.1 12 hr.1 (by decide)) hH hp rfl (by repeat' (first | exact trivial | exact outC_val _ _ | exact rfl | exact .inr ⟨rfl, rfl, _, _, rfl⟩ | refine ⟨?_, ?_⟩)) rfl rfl (fun r2 hr2 => go tbl_ok false ?_)
  conv => whnf
  refine ⟨fun c0 => ?_, fun c0 => ?_⟩ <;> conv => whnf
  · refine castC 3 (sInt [-1, 7, 8]) rfl (cast_rows rfl (by repeat' (first | exact trivial | exact rfl | refine ⟨?_, ?_⟩))) ?_
    refine callP (curPickInt d r2.1 r2.2.1 [-1, 7, 8] hr2.1 (by decide)) hH hp rfl (by repeat' (first | exact trivial | exact outC_val _ _ | exact rfl | exact .inr ⟨rfl, rfl, _, _, rfl⟩ | refine ⟨?_, ?_⟩)) rfl rfl (fun r3 hr3 => go tbl_ok false ?_)
    conv => whnf
    exact retP tbl_ok (r3.1, r3.2.1, ⟨[-1, 7, 8].getD r3.2.2 0, r.2.2.stamp, r.2.2.key, r.2.2.val⟩) ⟨hr3.1, ints_in _ _ (by intro x hx; simp only [List.mem_cons, List.not_mem_nil, or_false] at hx; show _ ∧ _; omega), hr.2.2⟩ rfl rfl rfl rfl (by repeat' (first | exact trivial | exact outC_val _ _ | exact rfl | exact .inr ⟨rfl, rfl, _, _, rfl⟩ | refine ⟨?_, ?_⟩))
  · refine ⟨fun c1 => ?_, fun c1 => ?_⟩ <;> conv => whnf
    · refine callP (curAnyStamp d r2.1 r2.2.1 hr2.1) hH hp rfl (by repeat' (first | exact trivial | exact outC_val _ _ | exact rfl | exact .inr ⟨rfl, rfl, _, _, rfl⟩ | refine ⟨?_, ?_⟩)) rfl rfl (fun r3 hr3 => go tbl_ok false ?_)
      conv => whnf
      exact retP tbl_ok (r3.1, r3.2.1, ⟨r.2.2.op, r3.2.2, r.2.2.key, r.2.2.val⟩) ⟨hr3.1, hr.2.1, hr3.2, hr.2.2.2⟩ rfl rfl rfl rfl (by repeat' (first | exact trivial | exact outC_val _ _ | exact rfl | exact .inr ⟨rfl, rfl, _, _, rfl⟩ | refine ⟨?_, ?_⟩))
    · refine ⟨fun c2 => ?_, fun c2 => ?_⟩ <;> conv => whnf
      · refine castC 3 (sInt [-1, 99, 100, -9223372036854775808]) rfl (cast_rows rfl (by repeat' (first | exact trivial | exact rfl | refine ⟨?_, ?_⟩))) ?_
        refine callP (curPickInt d r2.1 r2.2.1 [-1, 99, 100, -9223372036854775808] hr2.1 (by decide)) hH hp rfl (by repeat' (first | exact trivial | exact outC_val _ _ | exact rfl | exact .inr ⟨rfl, rfl, _, _, rfl⟩ | refine ⟨?_, ?_⟩)) rfl rfl (fun r3 hr3 => go tbl_ok false ?_)
        conv => whnf
        exact retP tbl_ok (r3.1, r3.2.1, ⟨r.2.2.op, r.2.2.stamp, [-1, 99, 100, -9223372036854775808].getD r3.2.2 0, r.2.2.val⟩) ⟨hr3.1, hr.2.1, hr.2.2.1, ints_in _ _ (by intro x hx; simp only [List.mem_cons, List.not_mem_nil, or_false] at hx; show _ ∧ _; omega), hr.2.2.2.2⟩ rfl rfl rfl rfl (by repeat' (first | exact trivial | exact outC_val _ _ | exact rfl | exact .inr ⟨rfl, rfl, _, _, rfl⟩ | refine ⟨?_, ?_⟩))
      · refine ⟨fun c3 => ?_, fun c3 => ?_⟩ <;> conv => whnf
        · refine castC 3 (sInt [-1, 999, 1000, 9223372036854775807]) rfl (cast_rows rfl (by repeat' (first | exact trivial | exact rfl | refine ⟨?_, ?_⟩))) ?_
          refine callP (curPickInt d r2.1 r2.2.1 [-1, 999, 1000, 9223372036854775807] hr2.1 (by decide)) hH hp rfl (by repeat' (first | exact trivial | exact outC_val _ _ | exact rfl | exact .inr ⟨rfl, rfl, _, _, rfl⟩ | refine ⟨?_, ?_⟩)) rfl rfl (fun r3 hr3 => go tbl_ok false ?_)
          conv => whnf
          exact retP tbl_ok (r3.1, r3.2.1, ⟨r.2.2.op, r.2.2.stamp, r.2.2.key, [-1, 999, 1000, 9223372036854775807].getD r3.2.2 0⟩) ⟨hr3.1, hr.2.1, hr.2.2.1, hr.2.2.2.1, ints_in _ _ (by intro x hx; simp only [List.mem_cons, List.not_mem_nil, or_false] at hx; show _ ∧ _; omega)⟩ rfl rfl rfl rfl (by repeat' (first | exact trivial | exact outC_val _ _ | exact rfl | exact .inr ⟨rfl, rfl, _, _, rfl⟩ | refine ⟨?_, ?_⟩))
        · exact retP tbl_ok (r2.1, r2.2.1, r.2.2) ⟨hr2.1, hr.2⟩ rfl rfl rfl rfl (by repeat' (first | exact trivial | exact outC_val _ _ | exact rfl | exact .inr ⟨rfl, rfl, _, _, rfl⟩ | refine ⟨?_, ?_⟩))

theorem curInput (d : DCode) (i h : Int) (hi : 0 ≤ i ∧ i ≤ d.n) : MeetsP Tryz.prog HT 57 d.pins (d.cur i h) [] (fun r : Int × Int × GRecord => (0 ≤ r.1 ∧ r.1 ≤ d.n) ∧ r.2.2.ok) (fun r => d.cur r.1 r.2.1) (fun r => [.agg r.2.2.c]) := by
  refine enterP tbl_ok false Tryz.func57 rfl (by decide) fun B b hH hp => ?_
  conv => whnf
  refine callP (curBelow d i h 4 hi (by decide)) hH hp rfl (by repeat' (first | exact trivial | exact outC_val _ _ | exact rfl | exact .inr ⟨rfl, rfl, _, _, rfl⟩ | refine ⟨?_, ?_⟩)) rfl rfl (fun r hr => go tbl_ok false ?_)
  conv => whnf
  refine callP (curBelow d r.1 r.2.1 100 hr.1 (by decide)) hH hp rfl (by repeat' (first | exact trivial | exact outC_val _ _ | exact rfl | exact .inr ⟨rfl, rfl, _, _, rfl⟩ | refine ⟨?_, ?_⟩)) rfl rfl (fun r2 hr2 => go tbl_ok false ?_)
  conv => whnf
  refine callP (curBelow d r2.1 r2.2.1 1000 hr2.1 (by decide)) hH hp rfl (by repeat' (first | exact trivial | exact outC_val _ _ | exact rfl | exact .inr ⟨rfl, rfl, _, _, rfl⟩ | refine ⟨?_, ?_⟩)) rfl rfl (fun r3 hr3 => go tbl_ok false ?_)
  conv => whnf
  refine callP (curOnce d r3.1 r3.2.1 6 hr3.1 (by decide)) hH hp rfl (by repeat' (first | exact trivial | exact outC_val _ _ | exact rfl | exact .inr ⟨rfl, rfl, _, _, rfl⟩ | refine ⟨?_, ?_⟩)) rfl rfl (fun r4 hr4 => go tbl_ok false ?_)
  conv => whnf
  refine ⟨fun c0 => ?_, fun c0 => ?_⟩ <;> conv => whnf
  · refine callP (curAnyRecord d r4.1 r4.2.1 hr4) hH hp rfl (by repeat' (first | exact trivial | exact outC_val _ _ | exact rfl | exact .inr ⟨rfl, rfl, _, _, rfl⟩ | refine ⟨?_, ?_⟩)) rfl rfl (fun r5 hr5 => go tbl_ok false ?_)
    conv => whnf
    exact retP tbl_ok (r5.1, r5.2.1, r5.2.2) hr5 rfl rfl rfl rfl (by repeat' (first | exact trivial | exact outC_val _ _ | exact rfl | exact .inr ⟨rfl, rfl, _, _, rfl⟩ | refine ⟨?_, ?_⟩))
  · exact retP tbl_ok (r4.1, r4.2.1, ⟨0, ⟨r.2.2, 0⟩, r2.2.2, r3.2.2⟩) ⟨hr4, in_mk (by show (-9223372036854775808 : Int) ≤ 0; decide) (by show (0 : Int) ≤ _; decide), ⟨in_mk (by show _ ≤ r.2.2; omega) (by show r.2.2 ≤ _; omega), in_mk (by show (-9223372036854775808 : Int) ≤ 0; decide) (by show (0 : Int) ≤ _; decide)⟩, in_mk (by show _ ≤ r2.2.2; omega) (by show r2.2.2 ≤ _; omega), in_mk (by show _ ≤ r3.2.2; omega) (by show r3.2.2 ≤ _; omega)⟩ rfl rfl rfl rfl (by repeat' (first | exact trivial | exact outC_val _ _ | exact rfl | exact .inr ⟨rfl, rfl, _, _, rfl⟩ | refine ⟨?_, ?_⟩))

end Go.Proofs.YtcpjpkcahnldfaaGreatDoor
