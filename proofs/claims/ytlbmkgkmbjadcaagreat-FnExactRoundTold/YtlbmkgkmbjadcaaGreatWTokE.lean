/- Texts for the law FnExactRoundTold: WTokE. No conditions. -/
import Derived.Test.YtlbmkgkmbjadcaaGreatEng5
import Derived.Test.YtlbmkgkmbjadcaaGreatWTokM

set_option maxRecDepth 100000
namespace Go.Proofs.YtlbmkgkmbjadcaaGreat
open Go.Sx
theorem newsL_len (e : Int) (b : Bool) (k : Nat) : (newsL e b k).length = k := by rw [newsL, List.length_map, List.length_range]
theorem newsL_succ (e : Int) (b : Bool) (k : Nat) : newsL e b (k + 1) = newsL e b k ++ [⟨(k : Int) + 1, e, b⟩] := by
  rw [newsL, List.range_succ, List.map_append]
  rfl
set_option maxHeartbeats 4000000 in
theorem specEnds (x : GCluster) (e : Int) (cap ok : Bool) (h : x.w ≤ 16000000) (h0 : 0 < x.workers.length) :
    MeetsP Tryz.prog (fun _ => True) 176 [] (rcb x ok) [.one (vi e), .one (vb cap)] (fun _ : Unit => True) (fun _ => rcb (addNews (setWrk x 0 (doneW (x.workers.getD 0 default) ⟨e, cap⟩)) (newsL e cap (x.workers.length - 1))) ok) (fun _ => []) := by
  have hw := GCluster.worker_le h h0
  have hnl := GCluster.news_le h
  have hwl := GCluster.workers_le h
  have hdl : (x.workers.getD 0 default).dones.length ≤ 16000000 := by simp only [GWorker.w] at hw; omega
  refine enterP tbl_ok false Tryz.func176 rfl (by decide) fun B b hH hp => ?_
  conv => whnf
  refine nameBx 0 3 2 rfl rfl (fun v2 => ?_)
  refine oneBx 0 3 rfl rfl (fun ho_v2 => ?_)
  refine drawF rfl ?_
  refine preF tbl_ok false 0 rfl rfl (by kernel_rfl) rfl (andL_mem (by repeat' (first | exact trivial | refine ⟨?_, ?_⟩ | (show _ ∧ _; omega) | omega))) ?_
  refine preF tbl_ok false 1 rfl rfl (by kernel_rfl) rfl (andL_mem (by repeat' (first | exact trivial | refine ⟨?_, ?_⟩ | (show _ ∧ _; omega) | omega))) ?_
  refine preF tbl_ok false 2 rfl rfl (by kernel_rfl) rfl (andL_mem (by repeat' (first | exact trivial | refine ⟨?_, ?_⟩ | (show _ ∧ _; omega) | omega))) ?_
  refine preF tbl_ok false 3 rfl rfl (by kernel_rfl) rfl (andL_mem (by repeat' (first | exact trivial | refine ⟨?_, ?_⟩ | (show _ ∧ _; omega) | omega))) ?_
  refine preF tbl_ok false 5 rfl rfl (by kernel_rfl) rfl (andL_mem (by repeat' (first | exact trivial | refine ⟨?_, ?_⟩ | (show _ ∧ _; omega) | omega))) ?_
  refine preF tbl_ok false 6 rfl rfl (by kernel_rfl) rfl (andL_mem (by repeat' (first | exact trivial | refine ⟨?_, ?_⟩ | (show _ ∧ _; omega) | omega))) ?_
  refine preF tbl_ok false 7 rfl rfl (by kernel_rfl) rfl (andL_mem (by repeat' (first | exact trivial | refine ⟨?_, ?_⟩ | (show _ ∧ _; omega) | omega))) ?_
  refine preF tbl_ok false 8 rfl rfl (by kernel_rfl) rfl (andL_mem (by repeat' (first | exact trivial | refine ⟨?_, ?_⟩ | (show _ ∧ _; omega) | omega))) ?_
  refine preF tbl_ok false 13 rfl rfl (by kernel_rfl) rfl (andL_mem (by repeat' (first | exact trivial | refine ⟨?_, ?_⟩ | (show _ ∧ _; omega) | omega))) ?_
  refine preF tbl_ok false 14 rfl rfl (by kernel_rfl) rfl (andL_mem (by repeat' (first | exact trivial | refine ⟨?_, ?_⟩ | (show _ ∧ _; omega) | omega))) ?_
  refine readF (s' := ?_) 9 rfl (by kernel_rfl) ?_ ?_
  rotate_left
  refine go tbl_ok false ?_
  conv => whnf
  (repeat (refine ⟨by first | omega | (show _ ∧ _; omega) | ((repeat (first | rw [ByteArray.size_append] | rw [bsz] | rw [List.size_toArray] | rw [List.length_cons] | rw [List.length_nil])) <;> omega) | ((repeat rw [Int.toNat_natCast]) <;> first | omega | (show _ ∧ _; omega)) | (simp only [ByteArray.size_append, bsz, List.size_toArray, List.length_cons, List.length_nil]; omega) | (simp only [Int.toNat_natCast]; first | omega | (show _ ∧ _; omega)) | decide, ?_⟩; conv => whnf))
  exact endF
  refine readF (s' := ?_) 10 rfl (by kernel_rfl) ?_ ?_
  rotate_left
  refine go tbl_ok false ?_
  conv => whnf
  refine linkW 16 2 rfl rfl (go tbl_ok false ?_)
  conv => whnf
  (repeat (refine ⟨by first | omega | (show _ ∧ _; omega) | ((repeat (first | rw [ByteArray.size_append] | rw [bsz] | rw [List.size_toArray] | rw [List.length_cons] | rw [List.length_nil])) <;> omega) | ((repeat rw [Int.toNat_natCast]) <;> first | omega | (show _ ∧ _; omega)) | (simp only [ByteArray.size_append, bsz, List.size_toArray, List.length_cons, List.length_nil]; omega) | (simp only [Int.toNat_natCast]; first | omega | (show _ ∧ _; omega)) | decide, ?_⟩; conv => whnf))
  exact endF
  refine preF tbl_ok false 11 rfl rfl (by kernel_rfl) rfl (andL_mem (by repeat' (first | exact trivial | refine ⟨?_, ?_⟩ | (show _ ∧ _; omega) | omega))) ?_
  refine readFv (α := Value) (s' := ?_) 12 rfl (by kernel_rfl) ?_ ?_
  rotate_left
  refine go tbl_ok false ?_
  conv => whnf
  refine focusZ tbl_ok rfl rfl rfl rfl rfl rfl (jn := 0) rfl rfl rfl (fun v => go tbl_ok false ?_)
  conv => whnf
  exact endFv v
  intro v
  refine readF (s' := ?_) 15 rfl (by kernel_rfl) ?_ ?_
  rotate_left
  refine go tbl_ok false ?_
  conv => whnf
  (repeat (refine ⟨by first | omega | (show _ ∧ _; omega) | ((repeat (first | rw [ByteArray.size_append] | rw [bsz] | rw [List.size_toArray] | rw [List.length_cons] | rw [List.length_nil])) <;> omega) | ((repeat rw [Int.toNat_natCast]) <;> first | omega | (show _ ∧ _; omega)) | (simp only [ByteArray.size_append, bsz, List.size_toArray, List.length_cons, List.length_nil]; omega) | (simp only [Int.toNat_natCast]; first | omega | (show _ ∧ _; omega)) | decide, ?_⟩; conv => whnf))
  exact endF
  refine restF [16, 17, 18, 19, 20] [⟨4, 11, .rd v2⟩] (by kernel_rfl) ?_
  refine stepF (s' := ?_) tbl_ok rfl (by kernel_rfl) (by repeat' (first | exact trivial | exact ⟨_, rfl, rfl, by assumption⟩ | exact ⟨_, rfl, rfl, huo _ (by simp)⟩ | exact ⟨_, rfl, rfl, fun v hv => huo v (by simp only [List.mem_cons, List.not_mem_nil, or_false] at hv ⊢; rcases hv with h | h | h <;> simp [h])⟩ | refine ⟨?_, ?_⟩)) ?_ ?_
  rotate_left
  refine go tbl_ok false ?_
  conv => whnf
  (repeat (refine ⟨by first | omega | (show _ ∧ _; omega) | ((repeat (first | rw [ByteArray.size_append] | rw [bsz] | rw [List.size_toArray] | rw [List.length_cons] | rw [List.length_nil])) <;> omega) | ((repeat rw [Int.toNat_natCast]) <;> first | omega | (show _ ∧ _; omega)) | (simp only [ByteArray.size_append, bsz, List.size_toArray, List.length_cons, List.length_nil]; omega) | (simp only [Int.toNat_natCast]; first | omega | (show _ ∧ _; omega)) | decide, ?_⟩; conv => whnf))
  exact endF
  refine stepF (s' := ?_) tbl_ok rfl (by kernel_rfl) (by repeat' (first | exact trivial | exact ⟨_, rfl, rfl, by assumption⟩ | exact ⟨_, rfl, rfl, huo _ (by simp)⟩ | exact ⟨_, rfl, rfl, fun v hv => huo v (by simp only [List.mem_cons, List.not_mem_nil, or_false] at hv ⊢; rcases hv with h | h | h <;> simp [h])⟩ | refine ⟨?_, ?_⟩)) ?_ ?_
  rotate_left
  refine go tbl_ok false ?_
  conv => whnf
  refine appW tbl_ok rfl rfl rfl rfl rfl rfl rfl rfl rfl rfl rfl (sGDone ((x.workers.getD 0 default).dones ++ [⟨e, cap⟩])) (slC_snoc rfl) (by intro h; cases h) (by omega) (go tbl_ok false ?_)
  conv => whnf
  exact endF
  refine stepF (s' := ?_) tbl_ok rfl (by kernel_rfl) (by repeat' (first | exact trivial | exact ⟨_, rfl, rfl, by assumption⟩ | exact ⟨_, rfl, rfl, huo _ (by simp)⟩ | exact ⟨_, rfl, rfl, fun v hv => huo v (by simp only [List.mem_cons, List.not_mem_nil, or_false] at hv ⊢; rcases hv with h | h | h <;> simp [h])⟩ | refine ⟨?_, ?_⟩)) ?_ ?_
  rotate_left
  refine go tbl_ok false ?_
  conv => whnf
  refine linkW 11 2 rfl rfl (go tbl_ok false ?_)
  conv => whnf
  (repeat (refine ⟨by first | omega | (show _ ∧ _; omega) | ((repeat (first | rw [ByteArray.size_append] | rw [bsz] | rw [List.size_toArray] | rw [List.length_cons] | rw [List.length_nil])) <;> omega) | ((repeat rw [Int.toNat_natCast]) <;> first | omega | (show _ ∧ _; omega)) | (simp only [ByteArray.size_append, bsz, List.size_toArray, List.length_cons, List.length_nil]; omega) | (simp only [Int.toNat_natCast]; first | omega | (show _ ∧ _; omega)) | decide, ?_⟩; conv => whnf))
  exact endF
  refine stepF (s' := ?_) tbl_ok rfl (by kernel_rfl) (by repeat' (first | exact trivial | exact ⟨_, rfl, rfl, by assumption⟩ | exact ⟨_, rfl, rfl, huo _ (by simp)⟩ | exact ⟨_, rfl, rfl, fun v hv => huo v (by simp only [List.mem_cons, List.not_mem_nil, or_false] at hv ⊢; rcases hv with h | h | h <;> simp [h])⟩ | refine ⟨?_, ?_⟩)) ?_ ?_
  rotate_left
  refine go tbl_ok false ?_
  conv => whnf
  (repeat (refine ⟨by first | omega | (show _ ∧ _; omega) | ((repeat (first | rw [ByteArray.size_append] | rw [bsz] | rw [List.size_toArray] | rw [List.length_cons] | rw [List.length_nil])) <;> omega) | ((repeat rw [Int.toNat_natCast]) <;> first | omega | (show _ ∧ _; omega)) | (simp only [ByteArray.size_append, bsz, List.size_toArray, List.length_cons, List.length_nil]; omega) | (simp only [Int.toNat_natCast]; first | omega | (show _ ∧ _; omega)) | decide, ?_⟩; conv => whnf))
  exact endF
  refine stepF (s' := ?_) tbl_ok rfl (by kernel_rfl) (by repeat' (first | exact trivial | exact ⟨_, rfl, rfl, by assumption⟩ | exact ⟨_, rfl, rfl, huo _ (by simp)⟩ | exact ⟨_, rfl, rfl, fun v hv => huo v (by simp only [List.mem_cons, List.not_mem_nil, or_false] at hv ⊢; rcases hv with h | h | h <;> simp [h])⟩ | refine ⟨?_, ?_⟩)) ?_ ?_
  rotate_left
  refine go tbl_ok false ?_
  conv => whnf
  refine storeW (j := 0) tbl_ok rfl rfl rfl rfl rfl rfl rfl rfl (sGWorker (x.workers.set 0 (doneW (x.workers.getD 0 default) ⟨e, cap⟩))) (slC_back1 h0 rfl) (go tbl_ok false ?_)
  conv => whnf
  exact endF
  refine nilF tbl_ok (by kernel_rfl) (by repeat' (first | exact trivial | exact ⟨_, rfl, rfl, by assumption⟩ | exact ⟨_, rfl, rfl, huo _ (by simp)⟩ | exact ⟨_, rfl, rfl, fun v hv => huo v (by simp only [List.mem_cons, List.not_mem_nil, or_false] at hv ⊢; rcases hv with h | h | h <;> simp [h])⟩ | refine ⟨?_, ?_⟩)) (GW.out (go tbl_ok false ?_))
  conv => whnf
  refine linkBx 0 3 2 rfl rfl rfl ?_
  refine loopW tbl_ok false [7, 8, 9, 10, 11, 12, 13, 14, 15, 16, 17, 18, 19, 20, 21, 22, 23, 24, 25, 26] (fun k : Nat => [(6, .c (vi (k + 1)))]) (fun k => [⟨0, [.own 1, .c (vi x.graph.workers), .c (vi x.graph.cap), .own 2, .own 3, .own 4, .own 5, .c (vb ok)]⟩]) (fun k => [⟨1, sGNode x.graph.nodes⟩, ⟨2, sGWorker (x.workers.set 0 (doneW (x.workers.getD 0 default) ⟨e, cap⟩))⟩, ⟨3, sGLink x.links⟩, ⟨4, sGToken x.tokens⟩, ⟨5, sGNews (x.news ++ newsL e cap k)⟩])
    (fun k => k ≤ (x.workers.length - 1)) (fun k => (x.workers.length - 1) - k) 0 (Nat.zero_le _) ⟨by first | rfl | simp [nth, ren2, ren1, ren0], trivial⟩ (by repeat' (first | exact trivial | exact rfl | refine ⟨?_, ?_⟩)) ⟨by first | rfl | exact (congrArg (fun l => slC _ _ l) (List.append_nil _)).symm | (show (_ : Cell) = _; simp) | simp, by first | rfl | exact (congrArg (fun l => slC _ _ l) (List.append_nil _)).symm | (show (_ : Cell) = _; simp) | simp, by first | rfl | exact (congrArg (fun l => slC _ _ l) (List.append_nil _)).symm | (show (_ : Cell) = _; simp) | simp, by first | rfl | exact (congrArg (fun l => slC _ _ l) (List.append_nil _)).symm | (show (_ : Cell) = _; simp) | simp, by first | rfl | exact (congrArg (fun l => slC _ _ l) (List.append_nil _)).symm | (show (_ : Cell) = _; simp) | simp, trivial⟩ (by first | exact trivial | exact ⟨rfl, trivial⟩ | repeat' (first | exact trivial | exact rfl | refine ⟨?_, ?_⟩)) (by kernel_rfl) (fun k hk => ?_)
  conv => whnf
  refine ⟨fun hg => have hg := of_decide_eq_true hg; ?_, fun hg => have hg := of_decide_eq_false hg; ?_⟩ <;> conv => whnf
  · rw [List.length_set] at hg
    refine appW tbl_ok rfl rfl rfl rfl rfl rfl rfl rfl rfl rfl rfl (sGNews (x.news ++ newsL e cap k ++ [⟨k + 1, e, cap⟩])) (slC_snoc rfl) (by intro h; cases h) (by rw [List.length_append, newsL_len]; omega) (go tbl_ok false ?_)
    conv => whnf
    (repeat (refine ⟨by first | omega | (show _ ∧ _; omega) | ((repeat (first | rw [ByteArray.size_append] | rw [bsz] | rw [List.size_toArray] | rw [List.length_cons] | rw [List.length_nil])) <;> omega) | ((repeat rw [Int.toNat_natCast]) <;> first | omega | (show _ ∧ _; omega)) | (simp only [ByteArray.size_append, bsz, List.size_toArray, List.length_cons, List.length_nil]; omega) | (simp only [Int.toNat_natCast]; first | omega | (show _ ∧ _; omega)) | decide, ?_⟩; conv => whnf))
    refine loopE [(0, 0), (1, 1), (2, 2), (3, 3), (4, 4), (5, 10)] (k + 1) (by omega) (by omega) ⟨by rw [Int.natCast_add]; rfl, trivial⟩ ⟨rfl, rfl, rfl, rfl, by show (_ : Cell) = _; rw [newsL_succ, ← List.append_assoc], trivial⟩ (by repeat' (first | exact trivial | exact rfl | refine ⟨?_, ?_⟩)) (by kernel_rfl) (by first | exact trivial | exact ⟨rfl, trivial⟩ | repeat' (first | exact trivial | exact rfl | refine ⟨?_, ?_⟩)) (by kernel_rfl)
  · rw [List.length_set] at hg
    repeat (first | (refine ite_f (by first | with_reducible rfl | assumption | (simp; done) | fail) ?_; conv => whnf) | (refine ite_t (by first | with_reducible rfl | assumption | (simp; done) | fail) ?_; conv => whnf) | (refine ⟨by first | omega | (show _ ∧ _; omega) | ((repeat (first | rw [ByteArray.size_append] | rw [bsz] | rw [List.size_toArray] | rw [List.length_cons] | rw [List.length_nil])) <;> omega) | ((repeat rw [Int.toNat_natCast]) <;> first | omega | (show _ ∧ _; omega)) | (simp only [ByteArray.size_append, bsz, List.size_toArray, List.length_cons, List.length_nil]; omega) | (simp only [Int.toNat_natCast]; first | omega | (show _ ∧ _; omega)) | decide, ?_⟩; conv => whnf))
    obtain rfl : k = x.workers.length - 1 := by omega
    exact endB (retP tbl_ok () trivial rfl rfl rfl rfl (by repeat' (first | exact trivial | exact outC_val _ _ | exact rfl | exact .inr ⟨rfl, rfl, _, _, rfl⟩ | refine ⟨?_, ?_⟩)))

end Go.Proofs.YtlbmkgkmbjadcaaGreat
