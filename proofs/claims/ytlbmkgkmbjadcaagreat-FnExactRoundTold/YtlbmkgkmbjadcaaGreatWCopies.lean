/- Texts for the law FnExactRoundTold: WCopies. No conditions. -/
import Derived.Test.YtlbmkgkmbjadcaaGreatEng4
import Derived.Test.YtlbmkgkmbjadcaaGreatH2

set_option maxRecDepth 100000
namespace Go.Proofs.YtlbmkgkmbjadcaaGreat
open Go.Sx
theorem implCopyRecords (l : List GRecord) (h : l.length ≤ 16777216) : Meets Tryz.prog 154 [.one (sGRecord l)] [.one (sGRecord l)] := by
  refine enterW tbl_ok false Tryz.func154 rfl (by decide) fun W => ?_
  conv => whnf
  refine appW tbl_ok rfl rfl rfl rfl rfl rfl rfl rfl rfl rfl rfl (sGRecord l) (nil_app) (fun _ => flat_recs l) (by omega) (go tbl_ok false ?_)
  conv => whnf
  exact retW tbl_ok rfl rfl ⟨rfl, trivial⟩
theorem implCopyCells (l : List GCell) (h : l.length ≤ 16777216) : Meets Tryz.prog 199 [.one (sGCell l)] [.one (sGCell l)] := by
  refine enterW tbl_ok false Tryz.func199 rfl (by decide) fun W => ?_
  conv => whnf
  refine appW tbl_ok rfl rfl rfl rfl rfl rfl rfl rfl rfl rfl rfl (sGCell l) (nil_app) (fun _ => flat_cells l) (by omega) (go tbl_ok false ?_)
  conv => whnf
  exact retW tbl_ok rfl rfl ⟨rfl, trivial⟩
theorem implCopyLink (l : GLink) (h : l.w ≤ 16777216) : Meets Tryz.prog 156 [.agg l.c] [.agg l.c] := by
  have h : l.queue.length ≤ 16777216 := h
  refine enterW tbl_ok false Tryz.func156 rfl (by decide) fun W => ?_
  conv => whnf
  refine callW (implCopyRecords l.queue h) rfl (go tbl_ok false ?_)
  conv => whnf
  exact retW tbl_ok rfl rfl ⟨⟨rfl, rfl, rfl, rfl, rfl, rfl, trivial⟩, trivial⟩
theorem specCopyLink (l : GLink) (h : l.w ≤ 16777216) : Meets Tryz.prog 187 [.agg l.c] [.agg l.c] := by
  have h : l.queue.length ≤ 16777216 := h
  refine enterW tbl_ok false Tryz.func187 rfl (by decide) fun W => ?_
  conv => whnf
  refine appW tbl_ok rfl rfl rfl rfl rfl rfl rfl rfl rfl rfl rfl (sGRecord l.queue) (nil_app) (fun _ => flat_recs l.queue) (by omega) (go tbl_ok false ?_)
  conv => whnf
  exact retW tbl_ok rfl rfl ⟨⟨rfl, rfl, rfl, rfl, rfl, rfl, trivial⟩, trivial⟩
set_option maxHeartbeats 8000000 in
theorem implCopyWorker (x : GWorker) (h : x.w ≤ 16777216) : Meets Tryz.prog 155 [.agg x.c] [.agg x.c] := by
  simp only [GWorker.w] at h
  refine enterA tbl_ok false Tryz.func155 rfl (by decide) fun W us hul huv huo hp => ?_
  match us, hul with
  | [v0, v1, v2, v3, v4, v5, v6, v7], _ =>
  conv => whnf
  refine drawF rfl ?_
  refine preF tbl_ok false 0 rfl rfl (by kernel_rfl) rfl (andL_mem (by repeat' (first | exact trivial | refine ⟨?_, ?_⟩ | (show _ ∧ _; omega) | omega))) ?_
  refine preF tbl_ok false 3 rfl rfl (by kernel_rfl) rfl (andL_mem (by repeat' (first | exact trivial | refine ⟨?_, ?_⟩ | (show _ ∧ _; omega) | omega))) ?_
  refine preF tbl_ok false 6 rfl rfl (by kernel_rfl) rfl (andL_mem (by repeat' (first | exact trivial | refine ⟨?_, ?_⟩ | (show _ ∧ _; omega) | omega))) ?_
  refine preF tbl_ok false 9 rfl rfl (by kernel_rfl) rfl (andL_mem (by repeat' (first | exact trivial | refine ⟨?_, ?_⟩ | (show _ ∧ _; omega) | omega))) ?_
  refine preF tbl_ok false 12 rfl rfl (by kernel_rfl) rfl (andL_mem (by repeat' (first | exact trivial | refine ⟨?_, ?_⟩ | (show _ ∧ _; omega) | omega))) ?_
  refine preF tbl_ok false 15 rfl rfl (by kernel_rfl) rfl (andL_mem (by repeat' (first | exact trivial | refine ⟨?_, ?_⟩ | (show _ ∧ _; omega) | omega))) ?_
  refine preF tbl_ok false 18 rfl rfl (by kernel_rfl) rfl (andL_mem (by repeat' (first | exact trivial | refine ⟨?_, ?_⟩ | (show _ ∧ _; omega) | omega))) ?_
  refine preF tbl_ok false 21 rfl rfl (by kernel_rfl) rfl (andL_mem (by repeat' (first | exact trivial | refine ⟨?_, ?_⟩ | (show _ ∧ _; omega) | omega))) ?_
  refine restF [2, 5, 8, 11, 14, 17, 20, 23, 24, 25] [⟨1, 4, .rd v0⟩, ⟨4, 7, .rd v1⟩, ⟨7, 10, .rd v2⟩, ⟨10, 13, .rd v3⟩, ⟨13, 16, .rd v4⟩, ⟨16, 19, .rd v5⟩, ⟨19, 22, .rd v6⟩, ⟨22, 25, .rd v7⟩] (by kernel_rfl) ?_
  refine stepF (s' := ?_) tbl_ok rfl (by kernel_rfl) (by repeat' (first | exact trivial | exact ⟨_, rfl, rfl, huo _ (by simp)⟩ | exact ⟨_, rfl, rfl, fun v hv => huo v (by simp only [List.mem_cons, List.not_mem_nil, or_false] at hv ⊢; rcases hv with h | h | h <;> simp [h])⟩ | refine ⟨?_, ?_⟩)) ?_ ?_
  rotate_left
  refine go tbl_ok false ?_
  conv => whnf
  refine showC1 hp 0 0 rfl rfl ?_
  refine callW (implCopyRecords x.queue (by omega)) rfl (go tbl_ok false ?_)
  conv => whnf
  exact endF
  refine stepF (s' := ?_) tbl_ok rfl (by kernel_rfl) (by repeat' (first | exact trivial | exact ⟨_, rfl, rfl, huo _ (by simp)⟩ | exact ⟨_, rfl, rfl, fun v hv => huo v (by simp only [List.mem_cons, List.not_mem_nil, or_false] at hv ⊢; rcases hv with h | h | h <;> simp [h])⟩ | refine ⟨?_, ?_⟩)) ?_ ?_
  rotate_left
  refine go tbl_ok false ?_
  conv => whnf
  refine showC1 hp 0 1 rfl rfl ?_
  refine callW (implCopyRecords x.staged (by omega)) rfl (go tbl_ok false ?_)
  conv => whnf
  exact endF
  refine stepF (s' := ?_) tbl_ok rfl (by kernel_rfl) (by repeat' (first | exact trivial | exact ⟨_, rfl, rfl, huo _ (by simp)⟩ | exact ⟨_, rfl, rfl, fun v hv => huo v (by simp only [List.mem_cons, List.not_mem_nil, or_false] at hv ⊢; rcases hv with h | h | h <;> simp [h])⟩ | refine ⟨?_, ?_⟩)) ?_ ?_
  rotate_left
  refine go tbl_ok false ?_
  conv => whnf
  refine showC1 hp 0 2 rfl rfl ?_
  refine callW (implCopyRecords x.inputs (by omega)) rfl (go tbl_ok false ?_)
  conv => whnf
  exact endF
  refine stepF (s' := ?_) tbl_ok rfl (by kernel_rfl) (by repeat' (first | exact trivial | exact ⟨_, rfl, rfl, huo _ (by simp)⟩ | exact ⟨_, rfl, rfl, fun v hv => huo v (by simp only [List.mem_cons, List.not_mem_nil, or_false] at hv ⊢; rcases hv with h | h | h <;> simp [h])⟩ | refine ⟨?_, ?_⟩)) ?_ ?_
  rotate_left
  refine go tbl_ok false ?_
  conv => whnf
  refine showC1 hp 0 3 rfl rfl ?_
  refine callW (implCopyCells x.cells (by omega)) rfl (go tbl_ok false ?_)
  conv => whnf
  exact endF
  refine stepF (s' := ?_) tbl_ok rfl (by kernel_rfl) (by repeat' (first | exact trivial | exact ⟨_, rfl, rfl, huo _ (by simp)⟩ | exact ⟨_, rfl, rfl, fun v hv => huo v (by simp only [List.mem_cons, List.not_mem_nil, or_false] at hv ⊢; rcases hv with h | h | h <;> simp [h])⟩ | refine ⟨?_, ?_⟩)) ?_ ?_
  rotate_left
  refine go tbl_ok false ?_
  conv => whnf
  refine showP hp 4 rfl 16 rfl ?_
  refine appW tbl_ok rfl rfl rfl rfl rfl rfl rfl rfl rfl rfl rfl (sInt x.sums) (nil_app) (fun _ => flat_ints x.sums) (by omega) (go tbl_ok false ?_)
  conv => whnf
  exact endF
  refine stepF (s' := ?_) tbl_ok rfl (by kernel_rfl) (by repeat' (first | exact trivial | exact ⟨_, rfl, rfl, huo _ (by simp)⟩ | exact ⟨_, rfl, rfl, fun v hv => huo v (by simp only [List.mem_cons, List.not_mem_nil, or_false] at hv ⊢; rcases hv with h | h | h <;> simp [h])⟩ | refine ⟨?_, ?_⟩)) ?_ ?_
  rotate_left
  refine go tbl_ok false ?_
  conv => whnf
  refine showP hp 5 rfl 19 rfl ?_
  refine appW tbl_ok rfl rfl rfl rfl rfl rfl rfl rfl rfl rfl rfl (sBool x.black) (nil_app) (fun _ => flat_bools x.black) (by omega) (go tbl_ok false ?_)
  conv => whnf
  exact endF
  refine stepF (s' := ?_) tbl_ok rfl (by kernel_rfl) (by repeat' (first | exact trivial | exact ⟨_, rfl, rfl, huo _ (by simp)⟩ | exact ⟨_, rfl, rfl, fun v hv => huo v (by simp only [List.mem_cons, List.not_mem_nil, or_false] at hv ⊢; rcases hv with h | h | h <;> simp [h])⟩ | refine ⟨?_, ?_⟩)) ?_ ?_
  rotate_left
  refine go tbl_ok false ?_
  conv => whnf
  refine showP hp 6 rfl 22 rfl ?_
  refine appW tbl_ok rfl rfl rfl rfl rfl rfl rfl rfl rfl rfl rfl (sBool x.caps) (nil_app) (fun _ => flat_bools x.caps) (by omega) (go tbl_ok false ?_)
  conv => whnf
  exact endF
  refine stepF (s' := ?_) tbl_ok rfl (by kernel_rfl) (by repeat' (first | exact trivial | exact ⟨_, rfl, rfl, huo _ (by simp)⟩ | exact ⟨_, rfl, rfl, fun v hv => huo v (by simp only [List.mem_cons, List.not_mem_nil, or_false] at hv ⊢; rcases hv with h | h | h <;> simp [h])⟩ | refine ⟨?_, ?_⟩)) ?_ ?_
  rotate_left
  refine go tbl_ok false ?_
  conv => whnf
  refine showP hp 7 rfl 25 rfl ?_
  refine appW tbl_ok rfl rfl rfl rfl rfl rfl rfl rfl rfl rfl rfl (sGDone x.dones) (nil_app) (fun _ => flat_dones x.dones) (by omega) (go tbl_ok false ?_)
  conv => whnf
  exact endF
  refine stepF (s' := ?_) tbl_ok rfl (by kernel_rfl) (by repeat' (first | exact trivial | exact ⟨_, rfl, rfl, huo _ (by simp)⟩ | exact ⟨_, rfl, rfl, fun v hv => huo v (by simp only [List.mem_cons, List.not_mem_nil, or_false] at hv ⊢; rcases hv with h | h | h <;> simp [h])⟩ | refine ⟨?_, ?_⟩)) ?_ ?_
  rotate_left
  refine go tbl_ok false ?_
  conv => whnf
  (repeat (refine ⟨by first | omega | (show _ ∧ _; omega) | ((repeat (first | rw [ByteArray.size_append] | rw [bsz] | rw [List.size_toArray] | rw [List.length_cons] | rw [List.length_nil])) <;> omega) | ((repeat rw [Int.toNat_natCast]) <;> first | omega | (show _ ∧ _; omega)) | (simp only [ByteArray.size_append, bsz, List.size_toArray, List.length_cons, List.length_nil]; omega) | (simp only [Int.toNat_natCast]; first | omega | (show _ ∧ _; omega)) | decide, ?_⟩; conv => whnf))
  exact endF
  refine stepF (s' := ?_) tbl_ok rfl (by kernel_rfl) (by repeat' (first | exact trivial | exact ⟨_, rfl, rfl, huo _ (by simp)⟩ | exact ⟨_, rfl, rfl, fun v hv => huo v (by simp only [List.mem_cons, List.not_mem_nil, or_false] at hv ⊢; rcases hv with h | h | h <;> simp [h])⟩ | refine ⟨?_, ?_⟩)) ?_ ?_
  rotate_left
  refine go tbl_ok false ?_
  conv => whnf
  (repeat (refine ⟨by first | omega | (show _ ∧ _; omega) | ((repeat (first | rw [ByteArray.size_append] | rw [bsz] | rw [List.size_toArray] | rw [List.length_cons] | rw [List.length_nil])) <;> omega) | ((repeat rw [Int.toNat_natCast]) <;> first | omega | (show _ ∧ _; omega)) | (simp only [ByteArray.size_append, bsz, List.size_toArray, List.length_cons, List.length_nil]; omega) | (simp only [Int.toNat_natCast]; first | omega | (show _ ∧ _; omega)) | decide, ?_⟩; conv => whnf))
  exact endF
  refine nilF tbl_ok (by kernel_rfl) (by repeat' (first | exact trivial | exact ⟨_, rfl, rfl, huo _ (by simp)⟩ | exact ⟨_, rfl, rfl, fun v hv => huo v (by simp only [List.mem_cons, List.not_mem_nil, or_false] at hv ⊢; rcases hv with h | h | h <;> simp [h])⟩ | refine ⟨?_, ?_⟩)) (GW.out (go tbl_ok false ?_))
  conv => whnf
  exact retW tbl_ok rfl rfl ⟨⟨rfl, rfl, rfl, rfl, rfl, rfl, rfl, rfl, trivial⟩, trivial⟩
set_option maxHeartbeats 8000000 in
theorem specCopyWorker (x : GWorker) (h : x.w ≤ 16777216) : Meets Tryz.prog 186 [.agg x.c] [.agg x.c] := by
  simp only [GWorker.w] at h
  refine enterA tbl_ok false Tryz.func186 rfl (by decide) fun W us hul huv huo hp => ?_
  match us, hul with
  | [v0, v1, v2, v3, v4, v5, v6, v7], _ =>
  conv => whnf
  refine drawF rfl ?_
  refine preF tbl_ok false 1 rfl rfl (by kernel_rfl) rfl (andL_mem (by repeat' (first | exact trivial | refine ⟨?_, ?_⟩ | (show _ ∧ _; omega) | omega))) ?_
  refine preF tbl_ok false 5 rfl rfl (by kernel_rfl) rfl (andL_mem (by repeat' (first | exact trivial | refine ⟨?_, ?_⟩ | (show _ ∧ _; omega) | omega))) ?_
  refine preF tbl_ok false 9 rfl rfl (by kernel_rfl) rfl (andL_mem (by repeat' (first | exact trivial | refine ⟨?_, ?_⟩ | (show _ ∧ _; omega) | omega))) ?_
  refine preF tbl_ok false 13 rfl rfl (by kernel_rfl) rfl (andL_mem (by repeat' (first | exact trivial | refine ⟨?_, ?_⟩ | (show _ ∧ _; omega) | omega))) ?_
  refine preF tbl_ok false 17 rfl rfl (by kernel_rfl) rfl (andL_mem (by repeat' (first | exact trivial | refine ⟨?_, ?_⟩ | (show _ ∧ _; omega) | omega))) ?_
  refine preF tbl_ok false 21 rfl rfl (by kernel_rfl) rfl (andL_mem (by repeat' (first | exact trivial | refine ⟨?_, ?_⟩ | (show _ ∧ _; omega) | omega))) ?_
  refine preF tbl_ok false 25 rfl rfl (by kernel_rfl) rfl (andL_mem (by repeat' (first | exact trivial | refine ⟨?_, ?_⟩ | (show _ ∧ _; omega) | omega))) ?_
  refine preF tbl_ok false 29 rfl rfl (by kernel_rfl) rfl (andL_mem (by repeat' (first | exact trivial | refine ⟨?_, ?_⟩ | (show _ ∧ _; omega) | omega))) ?_
  refine restF [3, 7, 11, 15, 19, 23, 27, 31, 32, 33] [⟨0, 3, .emp 5⟩, ⟨2, 5, .rd v0⟩, ⟨4, 7, .emp 5⟩, ⟨6, 9, .rd v1⟩, ⟨8, 11, .emp 5⟩, ⟨10, 13, .rd v2⟩, ⟨12, 15, .emp 4⟩, ⟨14, 17, .rd v3⟩, ⟨16, 19, .emp 1⟩, ⟨18, 21, .rd v4⟩, ⟨20, 23, .emp 1⟩, ⟨22, 25, .rd v5⟩, ⟨24, 27, .emp 1⟩, ⟨26, 29, .rd v6⟩, ⟨28, 31, .emp 2⟩, ⟨30, 33, .rd v7⟩] (by kernel_rfl) ?_
  refine stepF (s' := ?_) tbl_ok rfl (by kernel_rfl) (by repeat' (first | exact trivial | exact ⟨_, rfl, rfl, huo _ (by simp)⟩ | exact ⟨_, rfl, rfl, fun v hv => huo v (by simp only [List.mem_cons, List.not_mem_nil, or_false] at hv ⊢; rcases hv with h | h | h <;> simp [h])⟩ | refine ⟨?_, ?_⟩)) ?_ ?_
  rotate_left
  refine go tbl_ok false ?_
  conv => whnf
  refine showP hp 0 rfl 5 rfl ?_
  refine appW tbl_ok rfl rfl rfl rfl rfl rfl rfl rfl rfl rfl rfl (sGRecord x.queue) (nil_app) (fun _ => flat_recs x.queue) (by omega) (go tbl_ok false ?_)
  conv => whnf
  exact endF
  refine stepF (s' := ?_) tbl_ok rfl (by kernel_rfl) (by repeat' (first | exact trivial | exact ⟨_, rfl, rfl, huo _ (by simp)⟩ | exact ⟨_, rfl, rfl, fun v hv => huo v (by simp only [List.mem_cons, List.not_mem_nil, or_false] at hv ⊢; rcases hv with h | h | h <;> simp [h])⟩ | refine ⟨?_, ?_⟩)) ?_ ?_
  rotate_left
  refine go tbl_ok false ?_
  conv => whnf
  refine showP hp 1 rfl 9 rfl ?_
  refine appW tbl_ok rfl rfl rfl rfl rfl rfl rfl rfl rfl rfl rfl (sGRecord x.staged) (nil_app) (fun _ => flat_recs x.staged) (by omega) (go tbl_ok false ?_)
  conv => whnf
  exact endF
  refine stepF (s' := ?_) tbl_ok rfl (by kernel_rfl) (by repeat' (first | exact trivial | exact ⟨_, rfl, rfl, huo _ (by simp)⟩ | exact ⟨_, rfl, rfl, fun v hv => huo v (by simp only [List.mem_cons, List.not_mem_nil, or_false] at hv ⊢; rcases hv with h | h | h <;> simp [h])⟩ | refine ⟨?_, ?_⟩)) ?_ ?_
  rotate_left
  refine go tbl_ok false ?_
  conv => whnf
  refine showP hp 2 rfl 13 rfl ?_
  refine appW tbl_ok rfl rfl rfl rfl rfl rfl rfl rfl rfl rfl rfl (sGRecord x.inputs) (nil_app) (fun _ => flat_recs x.inputs) (by omega) (go tbl_ok false ?_)
  conv => whnf
  exact endF
  refine stepF (s' := ?_) tbl_ok rfl (by kernel_rfl) (by repeat' (first | exact trivial | exact ⟨_, rfl, rfl, huo _ (by simp)⟩ | exact ⟨_, rfl, rfl, fun v hv => huo v (by simp only [List.mem_cons, List.not_mem_nil, or_false] at hv ⊢; rcases hv with h | h | h <;> simp [h])⟩ | refine ⟨?_, ?_⟩)) ?_ ?_
  rotate_left
  refine go tbl_ok false ?_
  conv => whnf
  refine showP hp 3 rfl 17 rfl ?_
  refine appW tbl_ok rfl rfl rfl rfl rfl rfl rfl rfl rfl rfl rfl (sGCell x.cells) (nil_app) (fun _ => flat_cells x.cells) (by omega) (go tbl_ok false ?_)
  conv => whnf
  exact endF
  refine stepF (s' := ?_) tbl_ok rfl (by kernel_rfl) (by repeat' (first | exact trivial | exact ⟨_, rfl, rfl, huo _ (by simp)⟩ | exact ⟨_, rfl, rfl, fun v hv => huo v (by simp only [List.mem_cons, List.not_mem_nil, or_false] at hv ⊢; rcases hv with h | h | h <;> simp [h])⟩ | refine ⟨?_, ?_⟩)) ?_ ?_
  rotate_left
  refine go tbl_ok false ?_
  conv => whnf
  refine showP hp 4 rfl 21 rfl ?_
  refine appW tbl_ok rfl rfl rfl rfl rfl rfl rfl rfl rfl rfl rfl (sInt x.sums) (nil_app) (fun _ => flat_ints x.sums) (by omega) (go tbl_ok false ?_)
  conv => whnf
  exact endF
  refine stepF (s' := ?_) tbl_ok rfl (by kernel_rfl) (by repeat' (first | exact trivial | exact ⟨_, rfl, rfl, huo _ (by simp)⟩ | exact ⟨_, rfl, rfl, fun v hv => huo v (by simp only [List.mem_cons, List.not_mem_nil, or_false] at hv ⊢; rcases hv with h | h | h <;> simp [h])⟩ | refine ⟨?_, ?_⟩)) ?_ ?_
  rotate_left
  refine go tbl_ok false ?_
  conv => whnf
  refine showP hp 5 rfl 25 rfl ?_
  refine appW tbl_ok rfl rfl rfl rfl rfl rfl rfl rfl rfl rfl rfl (sBool x.black) (nil_app) (fun _ => flat_bools x.black) (by omega) (go tbl_ok false ?_)
  conv => whnf
  exact endF
  refine stepF (s' := ?_) tbl_ok rfl (by kernel_rfl) (by repeat' (first | exact trivial | exact ⟨_, rfl, rfl, huo _ (by simp)⟩ | exact ⟨_, rfl, rfl, fun v hv => huo v (by simp only [List.mem_cons, List.not_mem_nil, or_false] at hv ⊢; rcases hv with h | h | h <;> simp [h])⟩ | refine ⟨?_, ?_⟩)) ?_ ?_
  rotate_left
  refine go tbl_ok false ?_
  conv => whnf
  refine showP hp 6 rfl 29 rfl ?_
  refine appW tbl_ok rfl rfl rfl rfl rfl rfl rfl rfl rfl rfl rfl (sBool x.caps) (nil_app) (fun _ => flat_bools x.caps) (by omega) (go tbl_ok false ?_)
  conv => whnf
  exact endF
  refine stepF (s' := ?_) tbl_ok rfl (by kernel_rfl) (by repeat' (first | exact trivial | exact ⟨_, rfl, rfl, huo _ (by simp)⟩ | exact ⟨_, rfl, rfl, fun v hv => huo v (by simp only [List.mem_cons, List.not_mem_nil, or_false] at hv ⊢; rcases hv with h | h | h <;> simp [h])⟩ | refine ⟨?_, ?_⟩)) ?_ ?_
  rotate_left
  refine go tbl_ok false ?_
  conv => whnf
  refine showP hp 7 rfl 33 rfl ?_
  refine appW tbl_ok rfl rfl rfl rfl rfl rfl rfl rfl rfl rfl rfl (sGDone x.dones) (nil_app) (fun _ => flat_dones x.dones) (by omega) (go tbl_ok false ?_)
  conv => whnf
  exact endF
  refine stepF (s' := ?_) tbl_ok rfl (by kernel_rfl) (by repeat' (first | exact trivial | exact ⟨_, rfl, rfl, huo _ (by simp)⟩ | exact ⟨_, rfl, rfl, fun v hv => huo v (by simp only [List.mem_cons, List.not_mem_nil, or_false] at hv ⊢; rcases hv with h | h | h <;> simp [h])⟩ | refine ⟨?_, ?_⟩)) ?_ ?_
  rotate_left
  refine go tbl_ok false ?_
  conv => whnf
  (repeat (refine ⟨by first | omega | (show _ ∧ _; omega) | ((repeat (first | rw [ByteArray.size_append] | rw [bsz] | rw [List.size_toArray] | rw [List.length_cons] | rw [List.length_nil])) <;> omega) | ((repeat rw [Int.toNat_natCast]) <;> first | omega | (show _ ∧ _; omega)) | (simp only [ByteArray.size_append, bsz, List.size_toArray, List.length_cons, List.length_nil]; omega) | (simp only [Int.toNat_natCast]; first | omega | (show _ ∧ _; omega)) | decide, ?_⟩; conv => whnf))
  exact endF
  refine stepF (s' := ?_) tbl_ok rfl (by kernel_rfl) (by repeat' (first | exact trivial | exact ⟨_, rfl, rfl, huo _ (by simp)⟩ | exact ⟨_, rfl, rfl, fun v hv => huo v (by simp only [List.mem_cons, List.not_mem_nil, or_false] at hv ⊢; rcases hv with h | h | h <;> simp [h])⟩ | refine ⟨?_, ?_⟩)) ?_ ?_
  rotate_left
  refine go tbl_ok false ?_
  conv => whnf
  (repeat (refine ⟨by first | omega | (show _ ∧ _; omega) | ((repeat (first | rw [ByteArray.size_append] | rw [bsz] | rw [List.size_toArray] | rw [List.length_cons] | rw [List.length_nil])) <;> omega) | ((repeat rw [Int.toNat_natCast]) <;> first | omega | (show _ ∧ _; omega)) | (simp only [ByteArray.size_append, bsz, List.size_toArray, List.length_cons, List.length_nil]; omega) | (simp only [Int.toNat_natCast]; first | omega | (show _ ∧ _; omega)) | decide, ?_⟩; conv => whnf))
  exact endF
  refine nilF tbl_ok (by kernel_rfl) (by repeat' (first | exact trivial | exact ⟨_, rfl, rfl, huo _ (by simp)⟩ | exact ⟨_, rfl, rfl, fun v hv => huo v (by simp only [List.mem_cons, List.not_mem_nil, or_false] at hv ⊢; rcases hv with h | h | h <;> simp [h])⟩ | refine ⟨?_, ?_⟩)) (GW.out (go tbl_ok false ?_))
  conv => whnf
  exact retW tbl_ok rfl rfl ⟨⟨rfl, rfl, rfl, rfl, rfl, rfl, rfl, rfl, trivial⟩, trivial⟩

end Go.Proofs.YtlbmkgkmbjadcaaGreat
