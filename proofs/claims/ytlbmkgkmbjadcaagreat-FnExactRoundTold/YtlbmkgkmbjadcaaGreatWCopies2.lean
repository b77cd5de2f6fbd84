/- Texts for the law FnExactRoundTold: WCopies2. No conditions. -/
import Derived.Test.YtlbmkgkmbjadcaaGreatWOk3
import Derived.Test.YtlbmkgkmbjadcaaGreatWCopies

set_option maxRecDepth 100000
namespace Go.Proofs.YtlbmkgkmbjadcaaGreat
open Go.Sx
theorem copyNode (x : GNode) (h : x.w ≤ 16777216) : Meets Tryz.prog 153 [.agg x.c] [.agg x.c] := by
  have h : x.outs.length ≤ 16777216 := h
  refine enterW tbl_ok false Tryz.func153 rfl (by decide) fun W => ?_
  conv => whnf
  refine appW tbl_ok rfl rfl rfl rfl rfl rfl rfl rfl rfl rfl rfl (sInt x.outs) (nil_app) (fun _ => flat_ints x.outs) (by omega) (go tbl_ok false ?_)
  conv => whnf
  exact retW tbl_ok rfl rfl ⟨⟨rfl, rfl, rfl, rfl, trivial⟩, trivial⟩

theorem implCopyGraph (x : GGraph) (h : x.w ≤ 16777216) : Meets Tryz.prog 99 [.agg x.c] [.agg x.c] := by
  have h : x.nodes.length + (x.nodes.map GNode.w).sum ≤ 16777216 := h
  refine enterW tbl_ok false Tryz.func99 rfl (by decide) fun W => ?_
  conv => whnf
  refine nilB 2 0 4 (fun i => GNode.c (([] : List GNode).getD i default)) rfl rfl ?_
  refine loopW tbl_ok false [] (fun k : Nat => [(14, .c (vi k))]) (fun _ => [⟨0, [.c (sGNode x.nodes), .c (vi x.workers), .c (vi x.cap)]⟩, ⟨2, [.own 3, .c (vi x.workers), .c (vi x.cap)]⟩, ⟨1, [.any, .any, .any]⟩]) (fun k => [⟨3, sGNode (x.nodes.take k)⟩])
    (fun k => k ≤ x.nodes.length) (fun k => x.nodes.length - k) 0 (Nat.zero_le _) ⟨rfl, trivial⟩ (by repeat' (first | exact trivial | exact rfl | refine ⟨?_, ?_⟩)) ⟨rfl, trivial⟩ trivial (by kernel_rfl) (fun k hk => ?_)
  conv => whnf
  refine ⟨fun h => have h := of_decide_eq_true h; ?_, fun h => have h := of_decide_eq_false h; ?_⟩ <;> conv => whnf
  · have h : k < x.nodes.length := by omega
    have hle := wS_take_le GNode.w x.nodes k h
    (repeat (refine ⟨by first | omega | (show _ ∧ _; omega) | ((repeat (first | rw [ByteArray.size_append] | rw [bsz] | rw [List.size_toArray] | rw [List.length_cons] | rw [List.length_nil])) <;> omega) | ((repeat rw [Int.toNat_natCast]) <;> first | omega | (show _ ∧ _; omega)) | (simp only [ByteArray.size_append, bsz, List.size_toArray, List.length_cons, List.length_nil]; omega) | (simp only [Int.toNat_natCast]; first | omega | (show _ ∧ _; omega)) | decide, ?_⟩; conv => whnf))
    refine drawW rfl [0, 1, 2, 3, 4, 5, 6, 7] (by kernel_rfl) (go tbl_ok false ?_)
    conv => whnf
    refine callW (copyNode (x.nodes.getD k default) (by omega)) rfl (go tbl_ok false ?_)
    conv => whnf
    refine buildW tbl_ok rfl rfl rfl rfl rfl rfl rfl rfl rfl (go tbl_ok false ?_)
    conv => whnf
    refine appW tbl_ok rfl rfl rfl rfl rfl rfl rfl rfl rfl rfl rfl (sGNode (x.nodes.take k ++ [x.nodes.getD k default])) (slC_snoc rfl) (by intro h; cases h) (by simp only [List.length_take]; omega) (go tbl_ok false ?_)
    conv => whnf
    (repeat (refine ⟨by first | omega | (show _ ∧ _; omega) | ((repeat (first | rw [ByteArray.size_append] | rw [bsz] | rw [List.size_toArray] | rw [List.length_cons] | rw [List.length_nil])) <;> omega) | ((repeat rw [Int.toNat_natCast]) <;> first | omega | (show _ ∧ _; omega)) | (simp only [ByteArray.size_append, bsz, List.size_toArray, List.length_cons, List.length_nil]; omega) | (simp only [Int.toNat_natCast]; first | omega | (show _ ∧ _; omega)) | decide, ?_⟩; conv => whnf))
    refine loopE [(3, 7)] (k + 1) (by omega) (by omega) ⟨rfl, trivial⟩ ⟨?_, trivial⟩ (by repeat' (first | exact trivial | exact rfl | refine ⟨?_, ?_⟩)) (by kernel_rfl) trivial (by kernel_rfl)
    exact congrArg sGNode (take_snoc x.nodes k h).symm
  · refine retW tbl_ok rfl rfl ⟨⟨?_, rfl, rfl, trivial⟩, trivial⟩
    exact congrArg sGNode (take_all _ _ (by omega))

theorem specCopyGraph (x : GGraph) (h : x.w ≤ 16777216) : Meets Tryz.prog 87 [.agg x.c] [.agg x.c] := by
  have h : x.nodes.length + (x.nodes.map GNode.w).sum ≤ 16777216 := h
  refine enterW tbl_ok false Tryz.func87 rfl (by decide) fun W => ?_
  conv => whnf
  refine castW 3 (sGNode []) rfl nil_cast ?_
  refine loopW tbl_ok false [7] (fun k : Nat => [(4, .c (vi k))]) (fun _ => [⟨0, [.c (sGNode x.nodes), .c (vi x.workers), .c (vi x.cap)]⟩, ⟨2, [.own 3, .c (vi x.workers), .c (vi x.cap)]⟩, ⟨1, [.any, .any, .any]⟩]) (fun k => [⟨3, sGNode (x.nodes.take k)⟩])
    (fun k => k ≤ x.nodes.length) (fun k => x.nodes.length - k) 0 (Nat.zero_le _) ⟨rfl, trivial⟩ (by repeat' (first | exact trivial | exact rfl | refine ⟨?_, ?_⟩)) ⟨rfl, trivial⟩ trivial (by kernel_rfl) (fun k hk => ?_)
  conv => whnf
  refine ⟨fun h => have h := of_decide_eq_true h; ?_, fun h => have h := of_decide_eq_false h; ?_⟩ <;> conv => whnf
  · have h : k < x.nodes.length := by omega
    have hle := wS_take_le GNode.w x.nodes k h
    have ho : (x.nodes.getD k default).outs.length ≤ 16777216 := by simp only [GNode.w] at hle; omega
    (repeat (refine ⟨by first | omega | (show _ ∧ _; omega) | ((repeat (first | rw [ByteArray.size_append] | rw [bsz] | rw [List.size_toArray] | rw [List.length_cons] | rw [List.length_nil])) <;> omega) | ((repeat rw [Int.toNat_natCast]) <;> first | omega | (show _ ∧ _; omega)) | (simp only [ByteArray.size_append, bsz, List.size_toArray, List.length_cons, List.length_nil]; omega) | (simp only [Int.toNat_natCast]; first | omega | (show _ ∧ _; omega)) | decide, ?_⟩; conv => whnf))
    refine appW tbl_ok rfl rfl rfl rfl rfl rfl rfl rfl rfl rfl rfl (sInt (x.nodes.getD k default).outs) (nil_app) (fun _ => flat_ints _) (by first | omega | (simp only [Int.toNat_natCast]; omega)) (go tbl_ok false ?_)
    conv => whnf
    refine buildW tbl_ok rfl rfl rfl rfl rfl rfl rfl rfl rfl (go tbl_ok false ?_)
    conv => whnf
    refine appW tbl_ok rfl rfl rfl rfl rfl rfl rfl rfl rfl rfl rfl (sGNode (x.nodes.take k ++ [x.nodes.getD k default])) (slC_snoc rfl) (by intro h; cases h) (by simp only [List.length_take]; omega) (go tbl_ok false ?_)
    conv => whnf
    (repeat (refine ⟨by first | omega | (show _ ∧ _; omega) | ((repeat (first | rw [ByteArray.size_append] | rw [bsz] | rw [List.size_toArray] | rw [List.length_cons] | rw [List.length_nil])) <;> omega) | ((repeat rw [Int.toNat_natCast]) <;> first | omega | (show _ ∧ _; omega)) | (simp only [ByteArray.size_append, bsz, List.size_toArray, List.length_cons, List.length_nil]; omega) | (simp only [Int.toNat_natCast]; first | omega | (show _ ∧ _; omega)) | decide, ?_⟩; conv => whnf))
    refine loopE [(3, 8)] (k + 1) (by omega) (by omega) ⟨rfl, trivial⟩ ⟨?_, trivial⟩ (by repeat' (first | exact trivial | exact rfl | refine ⟨?_, ?_⟩)) (by kernel_rfl) trivial (by kernel_rfl)
    exact congrArg sGNode (take_snoc x.nodes k h).symm
  · refine retW tbl_ok rfl rfl ⟨⟨?_, rfl, rfl, trivial⟩, trivial⟩
    exact congrArg sGNode (take_all _ _ (by omega))

set_option maxHeartbeats 8000000 in
theorem implCopyCluster (x : GCluster) (h : x.w ≤ 16777216) : Meets Tryz.prog 104 [.agg x.c] [.agg x.c] := by
  have hg := GCluster.graph_le h
  have h2 := h
  simp only [GCluster.w, wS] at h2
  refine enterA tbl_ok false Tryz.func104 rfl (by decide) fun W us hul huv huo hp => ?_
  match us, hul with
  | [v0, v1, v2, v3, v4, v5, v6], _ =>
  conv => whnf
  refine bumpW 4 ?_
  refine cutG tbl_ok false (J := Unit) [10, 13, 16, 17] (fun _ => [(3, .box 2 0)]) (fun _ => [⟨2, [.own 3, .c (vi x.graph.workers), .c (vi x.graph.cap), .c (.val (.slice none 0 0)), .c (.val (.slice none 0 0)), .own 4, .own 5]⟩, ⟨0, [.c (.val v0), .c (.val v1), .c (.val v2), .c (.val v3), .c (.val v4), .c (.val v5), .c (.val v6)]⟩, ⟨1, [.c (.val (.slice none 0 0)), .c (vi 0), .c (vi 0), .c (.val (.slice none 0 0)), .c (.val (.slice none 0 0)), .c (.val (.slice none 0 0)), .c (.val (.slice none 0 0))]⟩]) (fun _ => [⟨3, sGNode x.graph.nodes⟩, ⟨4, sGToken x.tokens⟩, ⟨5, sGNews x.news⟩]) (fun _ => True) ?_ ?_
  · conv => whnf
    refine drawF rfl ?_
    refine preF tbl_ok false 0 rfl rfl (by kernel_rfl) rfl (andL_mem (by repeat' (first | exact trivial | refine ⟨?_, ?_⟩ | (show _ ∧ _; omega) | omega))) ?_
    refine preF tbl_ok false 3 rfl rfl (by kernel_rfl) rfl (andL_mem (by repeat' (first | exact trivial | refine ⟨?_, ?_⟩ | (show _ ∧ _; omega) | omega))) ?_
    refine preF tbl_ok false 6 rfl rfl (by kernel_rfl) rfl (andL_mem (by repeat' (first | exact trivial | refine ⟨?_, ?_⟩ | (show _ ∧ _; omega) | omega))) ?_
    refine restF [2, 5, 8, 9, 10, 11] [⟨1, 9, .ra [v0, v1, v2]⟩, ⟨4, 12, .rd v5⟩, ⟨7, 15, .rd v6⟩] (by kernel_rfl) ?_
    refine stepF2 (s1 := ?_) (s2 := ?_) tbl_ok [2, 5, 8, 9, 10, 11] 2 10 [5, 8, 9, 10, 11] [2, 5, 8, 9, 11] rfl rfl (by kernel_rfl) (by repeat' (first | exact trivial | exact ⟨_, rfl, rfl, huo _ (by simp)⟩ | exact ⟨_, rfl, rfl, fun v hv => huo v (by simp only [List.mem_cons, List.not_mem_nil, or_false] at hv ⊢; rcases hv with h | h | h <;> simp [h])⟩ | refine ⟨?_, ?_⟩)) (by decide) (by decide) ?_ ?_ ?_ ?_
    rotate_left 2
    refine go tbl_ok false ?_
    conv => whnf
    refine showCA hp 0 0 0 rfl rfl rfl ?_
    refine showCA hp 0 1 1 rfl rfl rfl ?_
    refine showCA hp 0 2 2 rfl rfl rfl ?_
    refine callW (implCopyGraph x.graph hg) rfl (go tbl_ok false ?_)
    conv => whnf
    exact endF
    refine stepF2 (s1 := ?_) (s2 := ?_) tbl_ok [5, 8, 9, 10, 11] 5 10 [8, 9, 10, 11] [5, 8, 9, 11] rfl rfl (by kernel_rfl) (by repeat' (first | exact trivial | exact ⟨_, rfl, rfl, huo _ (by simp)⟩ | exact ⟨_, rfl, rfl, fun v hv => huo v (by simp only [List.mem_cons, List.not_mem_nil, or_false] at hv ⊢; rcases hv with h | h | h <;> simp [h])⟩ | refine ⟨?_, ?_⟩)) (by decide) (by decide) ?_ ?_ ?_ ?_
    rotate_left 2
    refine go tbl_ok false ?_
    conv => whnf
    refine showP hp 5 rfl 12 rfl ?_
    refine appW tbl_ok rfl rfl rfl rfl rfl rfl rfl rfl rfl rfl rfl (sGToken x.tokens) (nil_app) (fun _ => flat_tokens x.tokens) (by omega) (go tbl_ok false ?_)
    conv => whnf
    exact endF
    refine stepF2 (s1 := ?_) (s2 := ?_) tbl_ok [8, 9, 10, 11] 8 10 [9, 10, 11] [8, 9, 11] rfl rfl (by kernel_rfl) (by repeat' (first | exact trivial | exact ⟨_, rfl, rfl, huo _ (by simp)⟩ | exact ⟨_, rfl, rfl, fun v hv => huo v (by simp only [List.mem_cons, List.not_mem_nil, or_false] at hv ⊢; rcases hv with h | h | h <;> simp [h])⟩ | refine ⟨?_, ?_⟩)) (by decide) (by decide) ?_ ?_ ?_ ?_
    rotate_left 2
    refine go tbl_ok false ?_
    conv => whnf
    refine showP hp 6 rfl 15 rfl ?_
    refine appW tbl_ok rfl rfl rfl rfl rfl rfl rfl rfl rfl rfl rfl (sGNews x.news) (nil_app) (fun _ => flat_news x.news) (by omega) (go tbl_ok false ?_)
    conv => whnf
    exact endF
    refine stepF2 (s1 := ?_) (s2 := ?_) tbl_ok [9, 10, 11] 9 10 [10, 11] [9, 11] rfl rfl (by kernel_rfl) (by repeat' (first | exact trivial | exact ⟨_, rfl, rfl, huo _ (by simp)⟩ | exact ⟨_, rfl, rfl, fun v hv => huo v (by simp only [List.mem_cons, List.not_mem_nil, or_false] at hv ⊢; rcases hv with h | h | h <;> simp [h])⟩ | refine ⟨?_, ?_⟩)) (by decide) (by decide) ?_ ?_ ?_ ?_
    rotate_left 2
    refine go tbl_ok false ?_
    conv => whnf
    (repeat (refine ⟨by first | omega | (show _ ∧ _; omega) | ((repeat (first | rw [ByteArray.size_append] | rw [bsz] | rw [List.size_toArray] | rw [List.length_cons] | rw [List.length_nil])) <;> omega) | ((repeat rw [Int.toNat_natCast]) <;> first | omega | (show _ ∧ _; omega)) | (simp only [ByteArray.size_append, bsz, List.size_toArray, List.length_cons, List.length_nil]; omega) | (simp only [Int.toNat_natCast]; first | omega | (show _ ∧ _; omega)) | decide, ?_⟩; conv => whnf))
    exact endF
    refine stepF (s' := ?_) tbl_ok rfl (by kernel_rfl) (by repeat' (first | exact trivial | exact ⟨_, rfl, rfl, huo _ (by simp)⟩ | exact ⟨_, rfl, rfl, fun v hv => huo v (by simp only [List.mem_cons, List.not_mem_nil, or_false] at hv ⊢; rcases hv with h | h | h <;> simp [h])⟩ | refine ⟨?_, ?_⟩)) ?_ ?_
    rotate_left
    refine go tbl_ok false ?_
    conv => whnf
    (repeat (refine ⟨by first | omega | (show _ ∧ _; omega) | ((repeat (first | rw [ByteArray.size_append] | rw [bsz] | rw [List.size_toArray] | rw [List.length_cons] | rw [List.length_nil])) <;> omega) | ((repeat rw [Int.toNat_natCast]) <;> first | omega | (show _ ∧ _; omega)) | (simp only [ByteArray.size_append, bsz, List.size_toArray, List.length_cons, List.length_nil]; omega) | (simp only [Int.toNat_natCast]; first | omega | (show _ ∧ _; omega)) | decide, ?_⟩; conv => whnf))
    exact endF
    refine stepF (s' := ?_) tbl_ok rfl (by kernel_rfl) (by repeat' (first | exact trivial | exact ⟨_, rfl, rfl, huo _ (by simp)⟩ | exact ⟨_, rfl, rfl, fun v hv => huo v (by simp only [List.mem_cons, List.not_mem_nil, or_false] at hv ⊢; rcases hv with h | h | h <;> simp [h])⟩ | refine ⟨?_, ?_⟩)) ?_ ?_
    rotate_left
    refine go tbl_ok false ?_
    conv => whnf
    (repeat (refine ⟨by first | omega | (show _ ∧ _; omega) | ((repeat (first | rw [ByteArray.size_append] | rw [bsz] | rw [List.size_toArray] | rw [List.length_cons] | rw [List.length_nil])) <;> omega) | ((repeat rw [Int.toNat_natCast]) <;> first | omega | (show _ ∧ _; omega)) | (simp only [ByteArray.size_append, bsz, List.size_toArray, List.length_cons, List.length_nil]; omega) | (simp only [Int.toNat_natCast]; first | omega | (show _ ∧ _; omega)) | decide, ?_⟩; conv => whnf))
    exact endF
    refine nilF tbl_ok (by kernel_rfl) (by repeat' (first | exact trivial | exact ⟨_, rfl, rfl, huo _ (by simp)⟩ | exact ⟨_, rfl, rfl, fun v hv => huo v (by simp only [List.mem_cons, List.not_mem_nil, or_false] at hv ⊢; rcases hv with h | h | h <;> simp [h])⟩ | refine ⟨?_, ?_⟩)) (GW.out (go tbl_ok false ?_))
    conv => whnf
    exact loopE [(2, 9), (3, 6), (4, 7), (5, 8)] () trivial (by exact Nat.zero_lt_one) ⟨rfl, trivial⟩ ⟨rfl, rfl, rfl, trivial⟩ (by repeat' (first | exact trivial | exact rfl | refine ⟨?_, ?_⟩)) (by kernel_rfl) trivial (by kernel_rfl)
    refine go tbl_ok false ?_
    conv => whnf
    (repeat (refine ⟨by first | omega | (show _ ∧ _; omega) | ((repeat (first | rw [ByteArray.size_append] | rw [bsz] | rw [List.size_toArray] | rw [List.length_cons] | rw [List.length_nil])) <;> omega) | ((repeat rw [Int.toNat_natCast]) <;> first | omega | (show _ ∧ _; omega)) | (simp only [ByteArray.size_append, bsz, List.size_toArray, List.length_cons, List.length_nil]; omega) | (simp only [Int.toNat_natCast]; first | omega | (show _ ∧ _; omega)) | decide, ?_⟩; conv => whnf))
    exact endF
    refine stepF (s' := ?_) tbl_ok rfl (by kernel_rfl) (by repeat' (first | exact trivial | exact ⟨_, rfl, rfl, huo _ (by simp)⟩ | exact ⟨_, rfl, rfl, fun v hv => huo v (by simp only [List.mem_cons, List.not_mem_nil, or_false] at hv ⊢; rcases hv with h | h | h <;> simp [h])⟩ | refine ⟨?_, ?_⟩)) ?_ ?_
    rotate_left
    refine go tbl_ok false ?_
    conv => whnf
    (repeat (refine ⟨by first | omega | (show _ ∧ _; omega) | ((repeat (first | rw [ByteArray.size_append] | rw [bsz] | rw [List.size_toArray] | rw [List.length_cons] | rw [List.length_nil])) <;> omega) | ((repeat rw [Int.toNat_natCast]) <;> first | omega | (show _ ∧ _; omega)) | (simp only [ByteArray.size_append, bsz, List.size_toArray, List.length_cons, List.length_nil]; omega) | (simp only [Int.toNat_natCast]; first | omega | (show _ ∧ _; omega)) | decide, ?_⟩; conv => whnf))
    exact endF
    refine stepF (s' := ?_) tbl_ok rfl (by kernel_rfl) (by repeat' (first | exact trivial | exact ⟨_, rfl, rfl, huo _ (by simp)⟩ | exact ⟨_, rfl, rfl, fun v hv => huo v (by simp only [List.mem_cons, List.not_mem_nil, or_false] at hv ⊢; rcases hv with h | h | h <;> simp [h])⟩ | refine ⟨?_, ?_⟩)) ?_ ?_
    rotate_left
    refine go tbl_ok false ?_
    conv => whnf
    (repeat (refine ⟨by first | omega | (show _ ∧ _; omega) | ((repeat (first | rw [ByteArray.size_append] | rw [bsz] | rw [List.size_toArray] | rw [List.length_cons] | rw [List.length_nil])) <;> omega) | ((repeat rw [Int.toNat_natCast]) <;> first | omega | (show _ ∧ _; omega)) | (simp only [ByteArray.size_append, bsz, List.size_toArray, List.length_cons, List.length_nil]; omega) | (simp only [Int.toNat_natCast]; first | omega | (show _ ∧ _; omega)) | decide, ?_⟩; conv => whnf))
    exact endF
    refine nilF tbl_ok (by kernel_rfl) (by repeat' (first | exact trivial | exact ⟨_, rfl, rfl, huo _ (by simp)⟩ | exact ⟨_, rfl, rfl, fun v hv => huo v (by simp only [List.mem_cons, List.not_mem_nil, or_false] at hv ⊢; rcases hv with h | h | h <;> simp [h])⟩ | refine ⟨?_, ?_⟩)) (GW.out (go tbl_ok false ?_))
    conv => whnf
    exact loopE [(2, 9), (3, 6), (4, 7), (5, 8)] () trivial (by exact Nat.zero_lt_one) ⟨rfl, trivial⟩ ⟨rfl, rfl, rfl, trivial⟩ (by repeat' (first | exact trivial | exact rfl | refine ⟨?_, ?_⟩)) (by kernel_rfl) trivial (by kernel_rfl)
    refine go tbl_ok false ?_
    conv => whnf
    (repeat (refine ⟨by first | omega | (show _ ∧ _; omega) | ((repeat (first | rw [ByteArray.size_append] | rw [bsz] | rw [List.size_toArray] | rw [List.length_cons] | rw [List.length_nil])) <;> omega) | ((repeat rw [Int.toNat_natCast]) <;> first | omega | (show _ ∧ _; omega)) | (simp only [ByteArray.size_append, bsz, List.size_toArray, List.length_cons, List.length_nil]; omega) | (simp only [Int.toNat_natCast]; first | omega | (show _ ∧ _; omega)) | decide, ?_⟩; conv => whnf))
    exact endF
    refine stepF (s' := ?_) tbl_ok rfl (by kernel_rfl) (by repeat' (first | exact trivial | exact ⟨_, rfl, rfl, huo _ (by simp)⟩ | exact ⟨_, rfl, rfl, fun v hv => huo v (by simp only [List.mem_cons, List.not_mem_nil, or_false] at hv ⊢; rcases hv with h | h | h <;> simp [h])⟩ | refine ⟨?_, ?_⟩)) ?_ ?_
    rotate_left
    refine go tbl_ok false ?_
    conv => whnf
    refine showP hp 6 rfl 15 rfl ?_
    refine appW tbl_ok rfl rfl rfl rfl rfl rfl rfl rfl rfl rfl rfl (sGNews x.news) (nil_app) (fun _ => flat_news x.news) (by omega) (go tbl_ok false ?_)
    conv => whnf
    exact endF
    refine stepF (s' := ?_) tbl_ok rfl (by kernel_rfl) (by repeat' (first | exact trivial | exact ⟨_, rfl, rfl, huo _ (by simp)⟩ | exact ⟨_, rfl, rfl, fun v hv => huo v (by simp only [List.mem_cons, List.not_mem_nil, or_false] at hv ⊢; rcases hv with h | h | h <;> simp [h])⟩ | refine ⟨?_, ?_⟩)) ?_ ?_
    rotate_left
    refine go tbl_ok false ?_
    conv => whnf
    (repeat (refine ⟨by first | omega | (show _ ∧ _; omega) | ((repeat (first | rw [ByteArray.size_append] | rw [bsz] | rw [List.size_toArray] | rw [List.length_cons] | rw [List.length_nil])) <;> omega) | ((repeat rw [Int.toNat_natCast]) <;> first | omega | (show _ ∧ _; omega)) | (simp only [ByteArray.size_append, bsz, List.size_toArray, List.length_cons, List.length_nil]; omega) | (simp only [Int.toNat_natCast]; first | omega | (show _ ∧ _; omega)) | decide, ?_⟩; conv => whnf))
    exact endF
    refine stepF (s' := ?_) tbl_ok rfl (by kernel_rfl) (by repeat' (first | exact trivial | exact ⟨_, rfl, rfl, huo _ (by simp)⟩ | exact ⟨_, rfl, rfl, fun v hv => huo v (by simp only [List.mem_cons, List.not_mem_nil, or_false] at hv ⊢; rcases hv with h | h | h <;> simp [h])⟩ | refine ⟨?_, ?_⟩)) ?_ ?_
    rotate_left
    refine go tbl_ok false ?_
    conv => whnf
    (repeat (refine ⟨by first | omega | (show _ ∧ _; omega) | ((repeat (first | rw [ByteArray.size_append] | rw [bsz] | rw [List.size_toArray] | rw [List.length_cons] | rw [List.length_nil])) <;> omega) | ((repeat rw [Int.toNat_natCast]) <;> first | omega | (show _ ∧ _; omega)) | (simp only [ByteArray.size_append, bsz, List.size_toArray, List.length_cons, List.length_nil]; omega) | (simp only [Int.toNat_natCast]; first | omega | (show _ ∧ _; omega)) | decide, ?_⟩; conv => whnf))
    exact endF
    refine nilF tbl_ok (by kernel_rfl) (by repeat' (first | exact trivial | exact ⟨_, rfl, rfl, huo _ (by simp)⟩ | exact ⟨_, rfl, rfl, fun v hv => huo v (by simp only [List.mem_cons, List.not_mem_nil, or_false] at hv ⊢; rcases hv with h | h | h <;> simp [h])⟩ | refine ⟨?_, ?_⟩)) (GW.out (go tbl_ok false ?_))
    conv => whnf
    exact loopE [(2, 8), (3, 6), (4, 7), (5, 9)] () trivial (by exact Nat.zero_lt_one) ⟨rfl, trivial⟩ ⟨rfl, rfl, rfl, trivial⟩ (by repeat' (first | exact trivial | exact rfl | refine ⟨?_, ?_⟩)) (by kernel_rfl) trivial (by kernel_rfl)
    refine go tbl_ok false ?_
    conv => whnf
    (repeat (refine ⟨by first | omega | (show _ ∧ _; omega) | ((repeat (first | rw [ByteArray.size_append] | rw [bsz] | rw [List.size_toArray] | rw [List.length_cons] | rw [List.length_nil])) <;> omega) | ((repeat rw [Int.toNat_natCast]) <;> first | omega | (show _ ∧ _; omega)) | (simp only [ByteArray.size_append, bsz, List.size_toArray, List.length_cons, List.length_nil]; omega) | (simp only [Int.toNat_natCast]; first | omega | (show _ ∧ _; omega)) | decide, ?_⟩; conv => whnf))
    exact endF
    refine stepF (s' := ?_) tbl_ok rfl (by kernel_rfl) (by repeat' (first | exact trivial | exact ⟨_, rfl, rfl, huo _ (by simp)⟩ | exact ⟨_, rfl, rfl, fun v hv => huo v (by simp only [List.mem_cons, List.not_mem_nil, or_false] at hv ⊢; rcases hv with h | h | h <;> simp [h])⟩ | refine ⟨?_, ?_⟩)) ?_ ?_
    rotate_left
    refine go tbl_ok false ?_
    conv => whnf
    refine showP hp 5 rfl 12 rfl ?_
    refine appW tbl_ok rfl rfl rfl rfl rfl rfl rfl rfl rfl rfl rfl (sGToken x.tokens) (nil_app) (fun _ => flat_tokens x.tokens) (by omega) (go tbl_ok false ?_)
    conv => whnf
    exact endF
    refine stepF (s' := ?_) tbl_ok rfl (by kernel_rfl) (by repeat' (first | exact trivial | exact ⟨_, rfl, rfl, huo _ (by simp)⟩ | exact ⟨_, rfl, rfl, fun v hv => huo v (by simp only [List.mem_cons, List.not_mem_nil, or_false] at hv ⊢; rcases hv with h | h | h <;> simp [h])⟩ | refine ⟨?_, ?_⟩)) ?_ ?_
    rotate_left
    refine go tbl_ok false ?_
    conv => whnf
    refine showP hp 6 rfl 15 rfl ?_
    refine appW tbl_ok rfl rfl rfl rfl rfl rfl rfl rfl rfl rfl rfl (sGNews x.news) (nil_app) (fun _ => flat_news x.news) (by omega) (go tbl_ok false ?_)
    conv => whnf
    exact endF
    refine stepF (s' := ?_) tbl_ok rfl (by kernel_rfl) (by repeat' (first | exact trivial | exact ⟨_, rfl, rfl, huo _ (by simp)⟩ | exact ⟨_, rfl, rfl, fun v hv => huo v (by simp only [List.mem_cons, List.not_mem_nil, or_false] at hv ⊢; rcases hv with h | h | h <;> simp [h])⟩ | refine ⟨?_, ?_⟩)) ?_ ?_
    rotate_left
    refine go tbl_ok false ?_
    conv => whnf
    (repeat (refine ⟨by first | omega | (show _ ∧ _; omega) | ((repeat (first | rw [ByteArray.size_append] | rw [bsz] | rw [List.size_toArray] | rw [List.length_cons] | rw [List.length_nil])) <;> omega) | ((repeat rw [Int.toNat_natCast]) <;> first | omega | (show _ ∧ _; omega)) | (simp only [ByteArray.size_append, bsz, List.size_toArray, List.length_cons, List.length_nil]; omega) | (simp only [Int.toNat_natCast]; first | omega | (show _ ∧ _; omega)) | decide, ?_⟩; conv => whnf))
    exact endF
    refine stepF (s' := ?_) tbl_ok rfl (by kernel_rfl) (by repeat' (first | exact trivial | exact ⟨_, rfl, rfl, huo _ (by simp)⟩ | exact ⟨_, rfl, rfl, fun v hv => huo v (by simp only [List.mem_cons, List.not_mem_nil, or_false] at hv ⊢; rcases hv with h | h | h <;> simp [h])⟩ | refine ⟨?_, ?_⟩)) ?_ ?_
    rotate_left
    refine go tbl_ok false ?_
    conv => whnf
    (repeat (refine ⟨by first | omega | (show _ ∧ _; omega) | ((repeat (first | rw [ByteArray.size_append] | rw [bsz] | rw [List.size_toArray] | rw [List.length_cons] | rw [List.length_nil])) <;> omega) | ((repeat rw [Int.toNat_natCast]) <;> first | omega | (show _ ∧ _; omega)) | (simp only [ByteArray.size_append, bsz, List.size_toArray, List.length_cons, List.length_nil]; omega) | (simp only [Int.toNat_natCast]; first | omega | (show _ ∧ _; omega)) | decide, ?_⟩; conv => whnf))
    exact endF
    refine nilF tbl_ok (by kernel_rfl) (by repeat' (first | exact trivial | exact ⟨_, rfl, rfl, huo _ (by simp)⟩ | exact ⟨_, rfl, rfl, fun v hv => huo v (by simp only [List.mem_cons, List.not_mem_nil, or_false] at hv ⊢; rcases hv with h | h | h <;> simp [h])⟩ | refine ⟨?_, ?_⟩)) (GW.out (go tbl_ok false ?_))
    conv => whnf
    exact loopE [(2, 7), (3, 6), (4, 8), (5, 9)] () trivial (by exact Nat.zero_lt_one) ⟨rfl, trivial⟩ ⟨rfl, rfl, rfl, trivial⟩ (by repeat' (first | exact trivial | exact rfl | refine ⟨?_, ?_⟩)) (by kernel_rfl) trivial (by kernel_rfl)
    refine go tbl_ok false ?_
    conv => whnf
    (repeat (refine ⟨by first | omega | (show _ ∧ _; omega) | ((repeat (first | rw [ByteArray.size_append] | rw [bsz] | rw [List.size_toArray] | rw [List.length_cons] | rw [List.length_nil])) <;> omega) | ((repeat rw [Int.toNat_natCast]) <;> first | omega | (show _ ∧ _; omega)) | (simp only [ByteArray.size_append, bsz, List.size_toArray, List.length_cons, List.length_nil]; omega) | (simp only [Int.toNat_natCast]; first | omega | (show _ ∧ _; omega)) | decide, ?_⟩; conv => whnf))
    exact endF
    refine stepF (s' := ?_) tbl_ok rfl (by kernel_rfl) (by repeat' (first | exact trivial | exact ⟨_, rfl, rfl, huo _ (by simp)⟩ | exact ⟨_, rfl, rfl, fun v hv => huo v (by simp only [List.mem_cons, List.not_mem_nil, or_false] at hv ⊢; rcases hv with h | h | h <;> simp [h])⟩ | refine ⟨?_, ?_⟩)) ?_ ?_
    rotate_left
    refine go tbl_ok false ?_
    conv => whnf
    refine showCA hp 0 0 0 rfl rfl rfl ?_
    refine showCA hp 0 1 1 rfl rfl rfl ?_
    refine showCA hp 0 2 2 rfl rfl rfl ?_
    refine callW (implCopyGraph x.graph hg) rfl (go tbl_ok false ?_)
    conv => whnf
    exact endF
    refine stepF (s' := ?_) tbl_ok rfl (by kernel_rfl) (by repeat' (first | exact trivial | exact ⟨_, rfl, rfl, huo _ (by simp)⟩ | exact ⟨_, rfl, rfl, fun v hv => huo v (by simp only [List.mem_cons, List.not_mem_nil, or_false] at hv ⊢; rcases hv with h | h | h <;> simp [h])⟩ | refine ⟨?_, ?_⟩)) ?_ ?_
    rotate_left
    refine go tbl_ok false ?_
    conv => whnf
    refine showP hp 5 rfl 12 rfl ?_
    refine appW tbl_ok rfl rfl rfl rfl rfl rfl rfl rfl rfl rfl rfl (sGToken x.tokens) (nil_app) (fun _ => flat_tokens x.tokens) (by omega) (go tbl_ok false ?_)
    conv => whnf
    exact endF
    refine stepF (s' := ?_) tbl_ok rfl (by kernel_rfl) (by repeat' (first | exact trivial | exact ⟨_, rfl, rfl, huo _ (by simp)⟩ | exact ⟨_, rfl, rfl, fun v hv => huo v (by simp only [List.mem_cons, List.not_mem_nil, or_false] at hv ⊢; rcases hv with h | h | h <;> simp [h])⟩ | refine ⟨?_, ?_⟩)) ?_ ?_
    rotate_left
    refine go tbl_ok false ?_
    conv => whnf
    refine showP hp 6 rfl 15 rfl ?_
    refine appW tbl_ok rfl rfl rfl rfl rfl rfl rfl rfl rfl rfl rfl (sGNews x.news) (nil_app) (fun _ => flat_news x.news) (by omega) (go tbl_ok false ?_)
    conv => whnf
    exact endF
    refine stepF (s' := ?_) tbl_ok rfl (by kernel_rfl) (by repeat' (first | exact trivial | exact ⟨_, rfl, rfl, huo _ (by simp)⟩ | exact ⟨_, rfl, rfl, fun v hv => huo v (by simp only [List.mem_cons, List.not_mem_nil, or_false] at hv ⊢; rcases hv with h | h | h <;> simp [h])⟩ | refine ⟨?_, ?_⟩)) ?_ ?_
    rotate_left
    refine go tbl_ok false ?_
    conv => whnf
    (repeat (refine ⟨by first | omega | (show _ ∧ _; omega) | ((repeat (first | rw [ByteArray.size_append] | rw [bsz] | rw [List.size_toArray] | rw [List.length_cons] | rw [List.length_nil])) <;> omega) | ((repeat rw [Int.toNat_natCast]) <;> first | omega | (show _ ∧ _; omega)) | (simp only [ByteArray.size_append, bsz, List.size_toArray, List.length_cons, List.length_nil]; omega) | (simp only [Int.toNat_natCast]; first | omega | (show _ ∧ _; omega)) | decide, ?_⟩; conv => whnf))
    exact endF
    refine stepF (s' := ?_) tbl_ok rfl (by kernel_rfl) (by repeat' (first | exact trivial | exact ⟨_, rfl, rfl, huo _ (by simp)⟩ | exact ⟨_, rfl, rfl, fun v hv => huo v (by simp only [List.mem_cons, List.not_mem_nil, or_false] at hv ⊢; rcases hv with h | h | h <;> simp [h])⟩ | refine ⟨?_, ?_⟩)) ?_ ?_
    rotate_left
    refine go tbl_ok false ?_
    conv => whnf
    (repeat (refine ⟨by first | omega | (show _ ∧ _; omega) | ((repeat (first | rw [ByteArray.size_append] | rw [bsz] | rw [List.size_toArray] | rw [List.length_cons] | rw [List.length_nil])) <;> omega) | ((repeat rw [Int.toNat_natCast]) <;> first | omega | (show _ ∧ _; omega)) | (simp only [ByteArray.size_append, bsz, List.size_toArray, List.length_cons, List.length_nil]; omega) | (simp only [Int.toNat_natCast]; first | omega | (show _ ∧ _; omega)) | decide, ?_⟩; conv => whnf))
    exact endF
    refine nilF tbl_ok (by kernel_rfl) (by repeat' (first | exact trivial | exact ⟨_, rfl, rfl, huo _ (by simp)⟩ | exact ⟨_, rfl, rfl, fun v hv => huo v (by simp only [List.mem_cons, List.not_mem_nil, or_false] at hv ⊢; rcases hv with h | h | h <;> simp [h])⟩ | refine ⟨?_, ?_⟩)) (GW.out (go tbl_ok false ?_))
    conv => whnf
    exact loopE [(2, 6), (3, 7), (4, 8), (5, 9)] () trivial (by exact Nat.zero_lt_one) ⟨rfl, trivial⟩ ⟨rfl, rfl, rfl, trivial⟩ (by repeat' (first | exact trivial | exact rfl | refine ⟨?_, ?_⟩)) (by kernel_rfl) trivial (by kernel_rfl)
  intro _ _
  refine showBx hp 0 3 3 rfl rfl rfl ?_
  refine showBx hp 0 4 4 rfl rfl rfl ?_
  refine nilB 2 3 8 (fun i => GWorker.c (([] : List GWorker).getD i default)) rfl rfl ?_
  refine nilB 2 4 6 (fun i => GLink.c (([] : List GLink).getD i default)) rfl rfl ?_
  refine go tbl_ok false ?_
  conv => whnf
  refine loopW tbl_ok false [] (fun k : Nat => [(21, .c (vi k))]) (fun k => [⟨2, [.own 3, .c (vi x.graph.workers), .c (vi x.graph.cap), .own 6, .own 7, .own 4, .own 5]⟩, ⟨0, [.c (.val v0), .c (.val v1), .c (.val v2), .c (sGWorker x.workers), .c (sGLink x.links), .c (.val v5), .c (.val v6)]⟩, ⟨1, [.c (.val (.slice none 0 0)), .c (vi 0), .c (vi 0), .c (.val (.slice none 0 0)), .c (.val (.slice none 0 0)), .c (.val (.slice none 0 0)), .c (.val (.slice none 0 0))]⟩]) (fun k => [⟨3, sGNode x.graph.nodes⟩, ⟨4, sGToken x.tokens⟩, ⟨5, sGNews x.news⟩, ⟨6, sGWorker (x.workers.take k)⟩, ⟨7, sGLink []⟩])
    (fun k => k ≤ x.workers.length) (fun k => x.workers.length - k) 0 (Nat.zero_le _) ⟨by first | rfl | simp [nth, ren2, ren1, ren0], trivial⟩ (by repeat' (first | exact trivial | exact rfl | refine ⟨?_, ?_⟩)) ⟨by first | rfl | exact (congrArg (fun l => slC _ _ l) (List.append_nil _)).symm | (show (_ : Cell) = _; simp) | simp, by first | rfl | exact (congrArg (fun l => slC _ _ l) (List.append_nil _)).symm | (show (_ : Cell) = _; simp) | simp, by first | rfl | exact (congrArg (fun l => slC _ _ l) (List.append_nil _)).symm | (show (_ : Cell) = _; simp) | simp, by first | rfl | exact (congrArg (fun l => slC _ _ l) (List.append_nil _)).symm | (show (_ : Cell) = _; simp) | simp, by first | rfl | exact (congrArg (fun l => slC _ _ l) (List.append_nil _)).symm | (show (_ : Cell) = _; simp) | simp, trivial⟩ trivial (by kernel_rfl) (fun k hk => ?_)
  conv => whnf
  refine ⟨fun h' => have h' := of_decide_eq_true h'; ?_, fun h' => have h' := of_decide_eq_false h'; ?_⟩ <;> conv => whnf
  · have h' : k < x.workers.length := by omega
    have hw := GCluster.worker_le h h'
    (repeat (refine ⟨by first | omega | (show _ ∧ _; omega) | ((repeat (first | rw [ByteArray.size_append] | rw [bsz] | rw [List.size_toArray] | rw [List.length_cons] | rw [List.length_nil])) <;> omega) | ((repeat rw [Int.toNat_natCast]) <;> first | omega | (show _ ∧ _; omega)) | (simp only [ByteArray.size_append, bsz, List.size_toArray, List.length_cons, List.length_nil]; omega) | (simp only [Int.toNat_natCast]; first | omega | (show _ ∧ _; omega)) | decide, ?_⟩; conv => whnf))
    first | (refine drawI 1 rfl [0, 1, 3, 4, 6, 7, 2, 5, 8, 9, 10, 11] (by kernel_rfl) (go tbl_ok false ?_); conv => whnf) | (refine drawI 5 rfl [0, 1, 2, 3, 4, 5, 6, 7] (by kernel_rfl) (go tbl_ok false ?_); conv => whnf) | (refine drawI 10 rfl [0, 1, 2, 3, 4, 5, 6, 7] (by kernel_rfl) (go tbl_ok false ?_); conv => whnf)
    (repeat (refine ⟨by first | omega | (show _ ∧ _; omega) | ((repeat (first | rw [ByteArray.size_append] | rw [bsz] | rw [List.size_toArray] | rw [List.length_cons] | rw [List.length_nil])) <;> omega) | ((repeat rw [Int.toNat_natCast]) <;> first | omega | (show _ ∧ _; omega)) | (simp only [ByteArray.size_append, bsz, List.size_toArray, List.length_cons, List.length_nil]; omega) | (simp only [Int.toNat_natCast]; first | omega | (show _ ∧ _; omega)) | decide, ?_⟩; conv => whnf))
    refine callW (implCopyWorker (x.workers.getD k default) hw) rfl (go tbl_ok false ?_)
    conv => whnf
    refine buildW tbl_ok rfl rfl rfl rfl rfl rfl rfl rfl rfl (go tbl_ok false ?_)
    conv => whnf
    refine appW tbl_ok rfl rfl rfl rfl rfl rfl rfl rfl rfl rfl rfl (sGWorker (x.workers.take k ++ [x.workers.getD k default])) (slC_snoc rfl) (by intro h; cases h) (by simp only [List.length_take]; omega) (go tbl_ok false ?_)
    conv => whnf
    (repeat (refine ⟨by first | omega | (show _ ∧ _; omega) | ((repeat (first | rw [ByteArray.size_append] | rw [bsz] | rw [List.size_toArray] | rw [List.length_cons] | rw [List.length_nil])) <;> omega) | ((repeat rw [Int.toNat_natCast]) <;> first | omega | (show _ ∧ _; omega)) | (simp only [ByteArray.size_append, bsz, List.size_toArray, List.length_cons, List.length_nil]; omega) | (simp only [Int.toNat_natCast]; first | omega | (show _ ∧ _; omega)) | decide, ?_⟩; conv => whnf))
    refine loopE [(6, 18)] (k + 1) (by omega) (by omega) ⟨rfl, trivial⟩ ⟨rfl, rfl, rfl, congrArg sGWorker (take_snoc x.workers k h').symm, rfl, trivial⟩ (by repeat' (first | exact trivial | exact rfl | refine ⟨?_, ?_⟩)) (by kernel_rfl) trivial (by kernel_rfl)
  rw [take_all x.workers k (by omega)]
  refine loopW tbl_ok false [] (fun j : Nat => [(36, .c (vi j))]) (fun j => [⟨2, [.own 3, .c (vi x.graph.workers), .c (vi x.graph.cap), .own 6, .own 7, .own 4, .own 5]⟩, ⟨0, [.c (.val v0), .c (.val v1), .c (.val v2), .c (sGWorker x.workers), .c (sGLink x.links), .c (.val v5), .c (.val v6)]⟩, ⟨1, [.c (.val (.slice none 0 0)), .c (vi 0), .c (vi 0), .c (.val (.slice none 0 0)), .c (.val (.slice none 0 0)), .c (.val (.slice none 0 0)), .c (.val (.slice none 0 0))]⟩]) (fun j => [⟨3, sGNode x.graph.nodes⟩, ⟨4, sGToken x.tokens⟩, ⟨5, sGNews x.news⟩, ⟨6, sGWorker x.workers⟩, ⟨7, sGLink (x.links.take j)⟩])
    (fun j => j ≤ x.links.length) (fun j => x.links.length - j) 0 (Nat.zero_le _) ⟨by first | rfl | simp [nth, ren2, ren1, ren0], trivial⟩ (by repeat' (first | exact trivial | exact rfl | refine ⟨?_, ?_⟩)) ⟨by first | rfl | exact (congrArg (fun l => slC _ _ l) (List.append_nil _)).symm | (show (_ : Cell) = _; simp) | simp, by first | rfl | exact (congrArg (fun l => slC _ _ l) (List.append_nil _)).symm | (show (_ : Cell) = _; simp) | simp, by first | rfl | exact (congrArg (fun l => slC _ _ l) (List.append_nil _)).symm | (show (_ : Cell) = _; simp) | simp, by first | rfl | exact (congrArg (fun l => slC _ _ l) (List.append_nil _)).symm | (show (_ : Cell) = _; simp) | simp, by first | rfl | exact (congrArg (fun l => slC _ _ l) (List.append_nil _)).symm | (show (_ : Cell) = _; simp) | simp, trivial⟩ trivial (by kernel_rfl) (fun j hj => ?_)
  conv => whnf
  refine ⟨fun h'' => have h'' := of_decide_eq_true h''; ?_, fun h'' => have h'' := of_decide_eq_false h''; ?_⟩ <;> conv => whnf
  · have h'' : j < x.links.length := by omega
    have hl := GCluster.link_le h h''
    (repeat (refine ⟨by first | omega | (show _ ∧ _; omega) | ((repeat (first | rw [ByteArray.size_append] | rw [bsz] | rw [List.size_toArray] | rw [List.length_cons] | rw [List.length_nil])) <;> omega) | ((repeat rw [Int.toNat_natCast]) <;> first | omega | (show _ ∧ _; omega)) | (simp only [ByteArray.size_append, bsz, List.size_toArray, List.length_cons, List.length_nil]; omega) | (simp only [Int.toNat_natCast]; first | omega | (show _ ∧ _; omega)) | decide, ?_⟩; conv => whnf))
    first | (refine drawI 1 rfl [0, 1, 3, 4, 6, 7, 2, 5, 8, 9, 10, 11] (by kernel_rfl) (go tbl_ok false ?_); conv => whnf) | (refine drawI 5 rfl [0, 1, 2, 3, 4, 5, 6, 7] (by kernel_rfl) (go tbl_ok false ?_); conv => whnf) | (refine drawI 10 rfl [0, 1, 2, 3, 4, 5, 6, 7] (by kernel_rfl) (go tbl_ok false ?_); conv => whnf)
    (repeat (refine ⟨by first | omega | (show _ ∧ _; omega) | ((repeat (first | rw [ByteArray.size_append] | rw [bsz] | rw [List.size_toArray] | rw [List.length_cons] | rw [List.length_nil])) <;> omega) | ((repeat rw [Int.toNat_natCast]) <;> first | omega | (show _ ∧ _; omega)) | (simp only [ByteArray.size_append, bsz, List.size_toArray, List.length_cons, List.length_nil]; omega) | (simp only [Int.toNat_natCast]; first | omega | (show _ ∧ _; omega)) | decide, ?_⟩; conv => whnf))
    refine callW (implCopyLink (x.links.getD j default) hl) rfl (go tbl_ok false ?_)
    conv => whnf
    refine buildW tbl_ok rfl rfl rfl rfl rfl rfl rfl rfl rfl (go tbl_ok false ?_)
    conv => whnf
    refine appW tbl_ok rfl rfl rfl rfl rfl rfl rfl rfl rfl rfl rfl (sGLink (x.links.take j ++ [x.links.getD j default])) (slC_snoc rfl) (by intro h; cases h) (by simp only [List.length_take]; omega) (go tbl_ok false ?_)
    conv => whnf
    (repeat (refine ⟨by first | omega | (show _ ∧ _; omega) | ((repeat (first | rw [ByteArray.size_append] | rw [bsz] | rw [List.size_toArray] | rw [List.length_cons] | rw [List.length_nil])) <;> omega) | ((repeat rw [Int.toNat_natCast]) <;> first | omega | (show _ ∧ _; omega)) | (simp only [ByteArray.size_append, bsz, List.size_toArray, List.length_cons, List.length_nil]; omega) | (simp only [Int.toNat_natCast]; first | omega | (show _ ∧ _; omega)) | decide, ?_⟩; conv => whnf))
    refine loopE [(7, 11)] (j + 1) (by omega) (by omega) ⟨rfl, trivial⟩ ⟨rfl, rfl, rfl, rfl, congrArg sGLink (take_snoc x.links j h'').symm, trivial⟩ (by repeat' (first | exact trivial | exact rfl | refine ⟨?_, ?_⟩)) (by kernel_rfl) trivial (by kernel_rfl)
  · refine retW tbl_ok rfl rfl ⟨⟨rfl, rfl, rfl, rfl, ?_, rfl, rfl, trivial⟩, trivial⟩
    exact congrArg sGLink (take_all _ _ (by omega))
set_option maxHeartbeats 8000000 in
theorem specCopyCluster (x : GCluster) (h : x.w ≤ 16777216) : Meets Tryz.prog 142 [.agg x.c] [.agg x.c] := by
  have hg := GCluster.graph_le h
  have h2 := h
  simp only [GCluster.w, wS] at h2
  refine enterA tbl_ok false Tryz.func142 rfl (by decide) fun W us hul huv huo hp => ?_
  match us, hul with
  | [v0, v1, v2, v3, v4, v5, v6], _ =>
  conv => whnf
  refine bumpW 4 ?_
  refine cutG tbl_ok false (J := Unit) [8, 9, 12, 13, 16, 17] (fun _ => [(3, .box 2 0)]) (fun _ => [⟨2, [.own 3, .c (vi x.graph.workers), .c (vi x.graph.cap), .c (.val (.slice none 0 0)), .c (.val (.slice none 0 0)), .own 4, .own 5]⟩, ⟨0, [.c (.val v0), .c (.val v1), .c (.val v2), .c (.val v3), .c (.val v4), .c (.val v5), .c (.val v6)]⟩, ⟨1, [.c (.val (.slice none 0 0)), .c (vi 0), .c (vi 0), .c (.val (.slice none 0 0)), .c (.val (.slice none 0 0)), .c (.val (.slice none 0 0)), .c (.val (.slice none 0 0))]⟩]) (fun _ => [⟨3, sGNode x.graph.nodes⟩, ⟨4, sGToken x.tokens⟩, ⟨5, sGNews x.news⟩]) (fun _ => True) ?_ ?_
  · conv => whnf
    refine drawF rfl ?_
    refine preF tbl_ok false 0 rfl rfl (by kernel_rfl) rfl (andL_mem (by repeat' (first | exact trivial | refine ⟨?_, ?_⟩ | (show _ ∧ _; omega) | omega))) ?_
    refine preF tbl_ok false 4 rfl rfl (by kernel_rfl) rfl (andL_mem (by repeat' (first | exact trivial | refine ⟨?_, ?_⟩ | (show _ ∧ _; omega) | omega))) ?_
    refine preF tbl_ok false 8 rfl rfl (by kernel_rfl) rfl (andL_mem (by repeat' (first | exact trivial | refine ⟨?_, ?_⟩ | (show _ ∧ _; omega) | omega))) ?_
    refine restF [2, 6, 10, 11, 12, 13] [⟨1, 7, .ra [v0, v1, v2]⟩, ⟨3, 9, .emp 5⟩, ⟨5, 11, .rd v5⟩, ⟨7, 13, .emp 3⟩, ⟨9, 15, .rd v6⟩] (by kernel_rfl) ?_
    refine stepF2 (s1 := ?_) (s2 := ?_) tbl_ok [2, 6, 10, 11, 12, 13] 2 12 [6, 10, 11, 12, 13] [2, 6, 10, 11, 13] rfl rfl (by kernel_rfl) (by repeat' (first | exact trivial | exact ⟨_, rfl, rfl, huo _ (by simp)⟩ | exact ⟨_, rfl, rfl, fun v hv => huo v (by simp only [List.mem_cons, List.not_mem_nil, or_false] at hv ⊢; rcases hv with h | h | h <;> simp [h])⟩ | refine ⟨?_, ?_⟩)) (by decide) (by decide) ?_ ?_ ?_ ?_
    rotate_left 2
    refine go tbl_ok false ?_
    conv => whnf
    refine showCA hp 0 0 0 rfl rfl rfl ?_
    refine showCA hp 0 1 1 rfl rfl rfl ?_
    refine showCA hp 0 2 2 rfl rfl rfl ?_
    refine callW (specCopyGraph x.graph hg) rfl (go tbl_ok false ?_)
    conv => whnf
    exact endF
    refine stepF2 (s1 := ?_) (s2 := ?_) tbl_ok [6, 10, 11, 12, 13] 6 12 [10, 11, 12, 13] [6, 10, 11, 13] rfl rfl (by kernel_rfl) (by repeat' (first | exact trivial | exact ⟨_, rfl, rfl, huo _ (by simp)⟩ | exact ⟨_, rfl, rfl, fun v hv => huo v (by simp only [List.mem_cons, List.not_mem_nil, or_false] at hv ⊢; rcases hv with h | h | h <;> simp [h])⟩ | refine ⟨?_, ?_⟩)) (by decide) (by decide) ?_ ?_ ?_ ?_
    rotate_left 2
    refine go tbl_ok false ?_
    conv => whnf
    refine showP hp 5 rfl 11 rfl ?_
    refine appW tbl_ok rfl rfl rfl rfl rfl rfl rfl rfl rfl rfl rfl (sGToken x.tokens) (nil_app) (fun _ => flat_tokens x.tokens) (by omega) (go tbl_ok false ?_)
    conv => whnf
    exact endF
    refine stepF2 (s1 := ?_) (s2 := ?_) tbl_ok [10, 11, 12, 13] 10 12 [11, 12, 13] [10, 11, 13] rfl rfl (by kernel_rfl) (by repeat' (first | exact trivial | exact ⟨_, rfl, rfl, huo _ (by simp)⟩ | exact ⟨_, rfl, rfl, fun v hv => huo v (by simp only [List.mem_cons, List.not_mem_nil, or_false] at hv ⊢; rcases hv with h | h | h <;> simp [h])⟩ | refine ⟨?_, ?_⟩)) (by decide) (by decide) ?_ ?_ ?_ ?_
    rotate_left 2
    refine go tbl_ok false ?_
    conv => whnf
    refine showP hp 6 rfl 15 rfl ?_
    refine appW tbl_ok rfl rfl rfl rfl rfl rfl rfl rfl rfl rfl rfl (sGNews x.news) (nil_app) (fun _ => flat_news x.news) (by omega) (go tbl_ok false ?_)
    conv => whnf
    exact endF
    refine stepF2 (s1 := ?_) (s2 := ?_) tbl_ok [11, 12, 13] 11 12 [12, 13] [11, 13] rfl rfl (by kernel_rfl) (by repeat' (first | exact trivial | exact ⟨_, rfl, rfl, huo _ (by simp)⟩ | exact ⟨_, rfl, rfl, fun v hv => huo v (by simp only [List.mem_cons, List.not_mem_nil, or_false] at hv ⊢; rcases hv with h | h | h <;> simp [h])⟩ | refine ⟨?_, ?_⟩)) (by decide) (by decide) ?_ ?_ ?_ ?_
    rotate_left 2
    refine go tbl_ok false ?_
    conv => whnf
    (repeat (refine ⟨by first | omega | (show _ ∧ _; omega) | ((repeat (first | rw [ByteArray.size_append] | rw [bsz] | rw [List.size_toArray] | rw [List.length_cons] | rw [List.length_nil])) <;> omega) | ((repeat rw [Int.toNat_natCast]) <;> first | omega | (show _ ∧ _; omega)) | (simp only [ByteArray.size_append, bsz, List.size_toArray, List.length_cons, List.length_nil]; omega) | (simp only [Int.toNat_natCast]; first | omega | (show _ ∧ _; omega)) | decide, ?_⟩; conv => whnf))
    exact endF
    refine stepF (s' := ?_) tbl_ok rfl (by kernel_rfl) (by repeat' (first | exact trivial | exact ⟨_, rfl, rfl, huo _ (by simp)⟩ | exact ⟨_, rfl, rfl, fun v hv => huo v (by simp only [List.mem_cons, List.not_mem_nil, or_false] at hv ⊢; rcases hv with h | h | h <;> simp [h])⟩ | refine ⟨?_, ?_⟩)) ?_ ?_
    rotate_left
    refine go tbl_ok false ?_
    conv => whnf
    (repeat (refine ⟨by first | omega | (show _ ∧ _; omega) | ((repeat (first | rw [ByteArray.size_append] | rw [bsz] | rw [List.size_toArray] | rw [List.length_cons] | rw [List.length_nil])) <;> omega) | ((repeat rw [Int.toNat_natCast]) <;> first | omega | (show _ ∧ _; omega)) | (simp only [ByteArray.size_append, bsz, List.size_toArray, List.length_cons, List.length_nil]; omega) | (simp only [Int.toNat_natCast]; first | omega | (show _ ∧ _; omega)) | decide, ?_⟩; conv => whnf))
    exact endF
    refine stepF (s' := ?_) tbl_ok rfl (by kernel_rfl) (by repeat' (first | exact trivial | exact ⟨_, rfl, rfl, huo _ (by simp)⟩ | exact ⟨_, rfl, rfl, fun v hv => huo v (by simp only [List.mem_cons, List.not_mem_nil, or_false] at hv ⊢; rcases hv with h | h | h <;> simp [h])⟩ | refine ⟨?_, ?_⟩)) ?_ ?_
    rotate_left
    refine go tbl_ok false ?_
    conv => whnf
    (repeat (refine ⟨by first | omega | (show _ ∧ _; omega) | ((repeat (first | rw [ByteArray.size_append] | rw [bsz] | rw [List.size_toArray] | rw [List.length_cons] | rw [List.length_nil])) <;> omega) | ((repeat rw [Int.toNat_natCast]) <;> first | omega | (show _ ∧ _; omega)) | (simp only [ByteArray.size_append, bsz, List.size_toArray, List.length_cons, List.length_nil]; omega) | (simp only [Int.toNat_natCast]; first | omega | (show _ ∧ _; omega)) | decide, ?_⟩; conv => whnf))
    exact endF
    refine nilF tbl_ok (by kernel_rfl) (by repeat' (first | exact trivial | exact ⟨_, rfl, rfl, huo _ (by simp)⟩ | exact ⟨_, rfl, rfl, fun v hv => huo v (by simp only [List.mem_cons, List.not_mem_nil, or_false] at hv ⊢; rcases hv with h | h | h <;> simp [h])⟩ | refine ⟨?_, ?_⟩)) (GW.out (go tbl_ok false ?_))
    conv => whnf
    exact loopE [(2, 11), (3, 6), (4, 8), (5, 10)] () trivial (by exact Nat.zero_lt_one) ⟨rfl, trivial⟩ ⟨rfl, rfl, rfl, trivial⟩ (by repeat' (first | exact trivial | exact rfl | refine ⟨?_, ?_⟩)) (by kernel_rfl) trivial (by kernel_rfl)
    refine go tbl_ok false ?_
    conv => whnf
    (repeat (refine ⟨by first | omega | (show _ ∧ _; omega) | ((repeat (first | rw [ByteArray.size_append] | rw [bsz] | rw [List.size_toArray] | rw [List.length_cons] | rw [List.length_nil])) <;> omega) | ((repeat rw [Int.toNat_natCast]) <;> first | omega | (show _ ∧ _; omega)) | (simp only [ByteArray.size_append, bsz, List.size_toArray, List.length_cons, List.length_nil]; omega) | (simp only [Int.toNat_natCast]; first | omega | (show _ ∧ _; omega)) | decide, ?_⟩; conv => whnf))
    exact endF
    refine stepF (s' := ?_) tbl_ok rfl (by kernel_rfl) (by repeat' (first | exact trivial | exact ⟨_, rfl, rfl, huo _ (by simp)⟩ | exact ⟨_, rfl, rfl, fun v hv => huo v (by simp only [List.mem_cons, List.not_mem_nil, or_false] at hv ⊢; rcases hv with h | h | h <;> simp [h])⟩ | refine ⟨?_, ?_⟩)) ?_ ?_
    rotate_left
    refine go tbl_ok false ?_
    conv => whnf
    (repeat (refine ⟨by first | omega | (show _ ∧ _; omega) | ((repeat (first | rw [ByteArray.size_append] | rw [bsz] | rw [List.size_toArray] | rw [List.length_cons] | rw [List.length_nil])) <;> omega) | ((repeat rw [Int.toNat_natCast]) <;> first | omega | (show _ ∧ _; omega)) | (simp only [ByteArray.size_append, bsz, List.size_toArray, List.length_cons, List.length_nil]; omega) | (simp only [Int.toNat_natCast]; first | omega | (show _ ∧ _; omega)) | decide, ?_⟩; conv => whnf))
    exact endF
    refine stepF (s' := ?_) tbl_ok rfl (by kernel_rfl) (by repeat' (first | exact trivial | exact ⟨_, rfl, rfl, huo _ (by simp)⟩ | exact ⟨_, rfl, rfl, fun v hv => huo v (by simp only [List.mem_cons, List.not_mem_nil, or_false] at hv ⊢; rcases hv with h | h | h <;> simp [h])⟩ | refine ⟨?_, ?_⟩)) ?_ ?_
    rotate_left
    refine go tbl_ok false ?_
    conv => whnf
    (repeat (refine ⟨by first | omega | (show _ ∧ _; omega) | ((repeat (first | rw [ByteArray.size_append] | rw [bsz] | rw [List.size_toArray] | rw [List.length_cons] | rw [List.length_nil])) <;> omega) | ((repeat rw [Int.toNat_natCast]) <;> first | omega | (show _ ∧ _; omega)) | (simp only [ByteArray.size_append, bsz, List.size_toArray, List.length_cons, List.length_nil]; omega) | (simp only [Int.toNat_natCast]; first | omega | (show _ ∧ _; omega)) | decide, ?_⟩; conv => whnf))
    exact endF
    refine nilF tbl_ok (by kernel_rfl) (by repeat' (first | exact trivial | exact ⟨_, rfl, rfl, huo _ (by simp)⟩ | exact ⟨_, rfl, rfl, fun v hv => huo v (by simp only [List.mem_cons, List.not_mem_nil, or_false] at hv ⊢; rcases hv with h | h | h <;> simp [h])⟩ | refine ⟨?_, ?_⟩)) (GW.out (go tbl_ok false ?_))
    conv => whnf
    exact loopE [(2, 11), (3, 6), (4, 8), (5, 10)] () trivial (by exact Nat.zero_lt_one) ⟨rfl, trivial⟩ ⟨rfl, rfl, rfl, trivial⟩ (by repeat' (first | exact trivial | exact rfl | refine ⟨?_, ?_⟩)) (by kernel_rfl) trivial (by kernel_rfl)
    refine go tbl_ok false ?_
    conv => whnf
    (repeat (refine ⟨by first | omega | (show _ ∧ _; omega) | ((repeat (first | rw [ByteArray.size_append] | rw [bsz] | rw [List.size_toArray] | rw [List.length_cons] | rw [List.length_nil])) <;> omega) | ((repeat rw [Int.toNat_natCast]) <;> first | omega | (show _ ∧ _; omega)) | (simp only [ByteArray.size_append, bsz, List.size_toArray, List.length_cons, List.length_nil]; omega) | (simp only [Int.toNat_natCast]; first | omega | (show _ ∧ _; omega)) | decide, ?_⟩; conv => whnf))
    exact endF
    refine stepF (s' := ?_) tbl_ok rfl (by kernel_rfl) (by repeat' (first | exact trivial | exact ⟨_, rfl, rfl, huo _ (by simp)⟩ | exact ⟨_, rfl, rfl, fun v hv => huo v (by simp only [List.mem_cons, List.not_mem_nil, or_false] at hv ⊢; rcases hv with h | h | h <;> simp [h])⟩ | refine ⟨?_, ?_⟩)) ?_ ?_
    rotate_left
    refine go tbl_ok false ?_
    conv => whnf
    refine showP hp 6 rfl 15 rfl ?_
    refine appW tbl_ok rfl rfl rfl rfl rfl rfl rfl rfl rfl rfl rfl (sGNews x.news) (nil_app) (fun _ => flat_news x.news) (by omega) (go tbl_ok false ?_)
    conv => whnf
    exact endF
    refine stepF (s' := ?_) tbl_ok rfl (by kernel_rfl) (by repeat' (first | exact trivial | exact ⟨_, rfl, rfl, huo _ (by simp)⟩ | exact ⟨_, rfl, rfl, fun v hv => huo v (by simp only [List.mem_cons, List.not_mem_nil, or_false] at hv ⊢; rcases hv with h | h | h <;> simp [h])⟩ | refine ⟨?_, ?_⟩)) ?_ ?_
    rotate_left
    refine go tbl_ok false ?_
    conv => whnf
    (repeat (refine ⟨by first | omega | (show _ ∧ _; omega) | ((repeat (first | rw [ByteArray.size_append] | rw [bsz] | rw [List.size_toArray] | rw [List.length_cons] | rw [List.length_nil])) <;> omega) | ((repeat rw [Int.toNat_natCast]) <;> first | omega | (show _ ∧ _; omega)) | (simp only [ByteArray.size_append, bsz, List.size_toArray, List.length_cons, List.length_nil]; omega) | (simp only [Int.toNat_natCast]; first | omega | (show _ ∧ _; omega)) | decide, ?_⟩; conv => whnf))
    exact endF
    refine stepF (s' := ?_) tbl_ok rfl (by kernel_rfl) (by repeat' (first | exact trivial | exact ⟨_, rfl, rfl, huo _ (by simp)⟩ | exact ⟨_, rfl, rfl, fun v hv => huo v (by simp only [List.mem_cons, List.not_mem_nil, or_false] at hv ⊢; rcases hv with h | h | h <;> simp [h])⟩ | refine ⟨?_, ?_⟩)) ?_ ?_
    rotate_left
    refine go tbl_ok false ?_
    conv => whnf
    (repeat (refine ⟨by first | omega | (show _ ∧ _; omega) | ((repeat (first | rw [ByteArray.size_append] | rw [bsz] | rw [List.size_toArray] | rw [List.length_cons] | rw [List.length_nil])) <;> omega) | ((repeat rw [Int.toNat_natCast]) <;> first | omega | (show _ ∧ _; omega)) | (simp only [ByteArray.size_append, bsz, List.size_toArray, List.length_cons, List.length_nil]; omega) | (simp only [Int.toNat_natCast]; first | omega | (show _ ∧ _; omega)) | decide, ?_⟩; conv => whnf))
    exact endF
    refine nilF tbl_ok (by kernel_rfl) (by repeat' (first | exact trivial | exact ⟨_, rfl, rfl, huo _ (by simp)⟩ | exact ⟨_, rfl, rfl, fun v hv => huo v (by simp only [List.mem_cons, List.not_mem_nil, or_false] at hv ⊢; rcases hv with h | h | h <;> simp [h])⟩ | refine ⟨?_, ?_⟩)) (GW.out (go tbl_ok false ?_))
    conv => whnf
    exact loopE [(2, 9), (3, 6), (4, 8), (5, 11)] () trivial (by exact Nat.zero_lt_one) ⟨rfl, trivial⟩ ⟨rfl, rfl, rfl, trivial⟩ (by repeat' (first | exact trivial | exact rfl | refine ⟨?_, ?_⟩)) (by kernel_rfl) trivial (by kernel_rfl)
    refine go tbl_ok false ?_
    conv => whnf
    (repeat (refine ⟨by first | omega | (show _ ∧ _; omega) | ((repeat (first | rw [ByteArray.size_append] | rw [bsz] | rw [List.size_toArray] | rw [List.length_cons] | rw [List.length_nil])) <;> omega) | ((repeat rw [Int.toNat_natCast]) <;> first | omega | (show _ ∧ _; omega)) | (simp only [ByteArray.size_append, bsz, List.size_toArray, List.length_cons, List.length_nil]; omega) | (simp only [Int.toNat_natCast]; first | omega | (show _ ∧ _; omega)) | decide, ?_⟩; conv => whnf))
    exact endF
    refine stepF (s' := ?_) tbl_ok rfl (by kernel_rfl) (by repeat' (first | exact trivial | exact ⟨_, rfl, rfl, huo _ (by simp)⟩ | exact ⟨_, rfl, rfl, fun v hv => huo v (by simp only [List.mem_cons, List.not_mem_nil, or_false] at hv ⊢; rcases hv with h | h | h <;> simp [h])⟩ | refine ⟨?_, ?_⟩)) ?_ ?_
    rotate_left
    refine go tbl_ok false ?_
    conv => whnf
    refine showP hp 5 rfl 11 rfl ?_
    refine appW tbl_ok rfl rfl rfl rfl rfl rfl rfl rfl rfl rfl rfl (sGToken x.tokens) (nil_app) (fun _ => flat_tokens x.tokens) (by omega) (go tbl_ok false ?_)
    conv => whnf
    exact endF
    refine stepF (s' := ?_) tbl_ok rfl (by kernel_rfl) (by repeat' (first | exact trivial | exact ⟨_, rfl, rfl, huo _ (by simp)⟩ | exact ⟨_, rfl, rfl, fun v hv => huo v (by simp only [List.mem_cons, List.not_mem_nil, or_false] at hv ⊢; rcases hv with h | h | h <;> simp [h])⟩ | refine ⟨?_, ?_⟩)) ?_ ?_
    rotate_left
    refine go tbl_ok false ?_
    conv => whnf
    refine showP hp 6 rfl 15 rfl ?_
    refine appW tbl_ok rfl rfl rfl rfl rfl rfl rfl rfl rfl rfl rfl (sGNews x.news) (nil_app) (fun _ => flat_news x.news) (by omega) (go tbl_ok false ?_)
    conv => whnf
    exact endF
    refine stepF (s' := ?_) tbl_ok rfl (by kernel_rfl) (by repeat' (first | exact trivial | exact ⟨_, rfl, rfl, huo _ (by simp)⟩ | exact ⟨_, rfl, rfl, fun v hv => huo v (by simp only [List.mem_cons, List.not_mem_nil, or_false] at hv ⊢; rcases hv with h | h | h <;> simp [h])⟩ | refine ⟨?_, ?_⟩)) ?_ ?_
    rotate_left
    refine go tbl_ok false ?_
    conv => whnf
    (repeat (refine ⟨by first | omega | (show _ ∧ _; omega) | ((repeat (first | rw [ByteArray.size_append] | rw [bsz] | rw [List.size_toArray] | rw [List.length_cons] | rw [List.length_nil])) <;> omega) | ((repeat rw [Int.toNat_natCast]) <;> first | omega | (show _ ∧ _; omega)) | (simp only [ByteArray.size_append, bsz, List.size_toArray, List.length_cons, List.length_nil]; omega) | (simp only [Int.toNat_natCast]; first | omega | (show _ ∧ _; omega)) | decide, ?_⟩; conv => whnf))
    exact endF
    refine stepF (s' := ?_) tbl_ok rfl (by kernel_rfl) (by repeat' (first | exact trivial | exact ⟨_, rfl, rfl, huo _ (by simp)⟩ | exact ⟨_, rfl, rfl, fun v hv => huo v (by simp only [List.mem_cons, List.not_mem_nil, or_false] at hv ⊢; rcases hv with h | h | h <;> simp [h])⟩ | refine ⟨?_, ?_⟩)) ?_ ?_
    rotate_left
    refine go tbl_ok false ?_
    conv => whnf
    (repeat (refine ⟨by first | omega | (show _ ∧ _; omega) | ((repeat (first | rw [ByteArray.size_append] | rw [bsz] | rw [List.size_toArray] | rw [List.length_cons] | rw [List.length_nil])) <;> omega) | ((repeat rw [Int.toNat_natCast]) <;> first | omega | (show _ ∧ _; omega)) | (simp only [ByteArray.size_append, bsz, List.size_toArray, List.length_cons, List.length_nil]; omega) | (simp only [Int.toNat_natCast]; first | omega | (show _ ∧ _; omega)) | decide, ?_⟩; conv => whnf))
    exact endF
    refine nilF tbl_ok (by kernel_rfl) (by repeat' (first | exact trivial | exact ⟨_, rfl, rfl, huo _ (by simp)⟩ | exact ⟨_, rfl, rfl, fun v hv => huo v (by simp only [List.mem_cons, List.not_mem_nil, or_false] at hv ⊢; rcases hv with h | h | h <;> simp [h])⟩ | refine ⟨?_, ?_⟩)) (GW.out (go tbl_ok false ?_))
    conv => whnf
    exact loopE [(2, 7), (3, 6), (4, 9), (5, 11)] () trivial (by exact Nat.zero_lt_one) ⟨rfl, trivial⟩ ⟨rfl, rfl, rfl, trivial⟩ (by repeat' (first | exact trivial | exact rfl | refine ⟨?_, ?_⟩)) (by kernel_rfl) trivial (by kernel_rfl)
    refine go tbl_ok false ?_
    conv => whnf
    (repeat (refine ⟨by first | omega | (show _ ∧ _; omega) | ((repeat (first | rw [ByteArray.size_append] | rw [bsz] | rw [List.size_toArray] | rw [List.length_cons] | rw [List.length_nil])) <;> omega) | ((repeat rw [Int.toNat_natCast]) <;> first | omega | (show _ ∧ _; omega)) | (simp only [ByteArray.size_append, bsz, List.size_toArray, List.length_cons, List.length_nil]; omega) | (simp only [Int.toNat_natCast]; first | omega | (show _ ∧ _; omega)) | decide, ?_⟩; conv => whnf))
    exact endF
    refine stepF (s' := ?_) tbl_ok rfl (by kernel_rfl) (by repeat' (first | exact trivial | exact ⟨_, rfl, rfl, huo _ (by simp)⟩ | exact ⟨_, rfl, rfl, fun v hv => huo v (by simp only [List.mem_cons, List.not_mem_nil, or_false] at hv ⊢; rcases hv with h | h | h <;> simp [h])⟩ | refine ⟨?_, ?_⟩)) ?_ ?_
    rotate_left
    refine go tbl_ok false ?_
    conv => whnf
    refine showCA hp 0 0 0 rfl rfl rfl ?_
    refine showCA hp 0 1 1 rfl rfl rfl ?_
    refine showCA hp 0 2 2 rfl rfl rfl ?_
    refine callW (specCopyGraph x.graph hg) rfl (go tbl_ok false ?_)
    conv => whnf
    exact endF
    refine stepF (s' := ?_) tbl_ok rfl (by kernel_rfl) (by repeat' (first | exact trivial | exact ⟨_, rfl, rfl, huo _ (by simp)⟩ | exact ⟨_, rfl, rfl, fun v hv => huo v (by simp only [List.mem_cons, List.not_mem_nil, or_false] at hv ⊢; rcases hv with h | h | h <;> simp [h])⟩ | refine ⟨?_, ?_⟩)) ?_ ?_
    rotate_left
    refine go tbl_ok false ?_
    conv => whnf
    refine showP hp 5 rfl 11 rfl ?_
    refine appW tbl_ok rfl rfl rfl rfl rfl rfl rfl rfl rfl rfl rfl (sGToken x.tokens) (nil_app) (fun _ => flat_tokens x.tokens) (by omega) (go tbl_ok false ?_)
    conv => whnf
    exact endF
    refine stepF (s' := ?_) tbl_ok rfl (by kernel_rfl) (by repeat' (first | exact trivial | exact ⟨_, rfl, rfl, huo _ (by simp)⟩ | exact ⟨_, rfl, rfl, fun v hv => huo v (by simp only [List.mem_cons, List.not_mem_nil, or_false] at hv ⊢; rcases hv with h | h | h <;> simp [h])⟩ | refine ⟨?_, ?_⟩)) ?_ ?_
    rotate_left
    refine go tbl_ok false ?_
    conv => whnf
    refine showP hp 6 rfl 15 rfl ?_
    refine appW tbl_ok rfl rfl rfl rfl rfl rfl rfl rfl rfl rfl rfl (sGNews x.news) (nil_app) (fun _ => flat_news x.news) (by omega) (go tbl_ok false ?_)
    conv => whnf
    exact endF
    refine stepF (s' := ?_) tbl_ok rfl (by kernel_rfl) (by repeat' (first | exact trivial | exact ⟨_, rfl, rfl, huo _ (by simp)⟩ | exact ⟨_, rfl, rfl, fun v hv => huo v (by simp only [List.mem_cons, List.not_mem_nil, or_false] at hv ⊢; rcases hv with h | h | h <;> simp [h])⟩ | refine ⟨?_, ?_⟩)) ?_ ?_
    rotate_left
    refine go tbl_ok false ?_
    conv => whnf
    (repeat (refine ⟨by first | omega | (show _ ∧ _; omega) | ((repeat (first | rw [ByteArray.size_append] | rw [bsz] | rw [List.size_toArray] | rw [List.length_cons] | rw [List.length_nil])) <;> omega) | ((repeat rw [Int.toNat_natCast]) <;> first | omega | (show _ ∧ _; omega)) | (simp only [ByteArray.size_append, bsz, List.size_toArray, List.length_cons, List.length_nil]; omega) | (simp only [Int.toNat_natCast]; first | omega | (show _ ∧ _; omega)) | decide, ?_⟩; conv => whnf))
    exact endF
    refine stepF (s' := ?_) tbl_ok rfl (by kernel_rfl) (by repeat' (first | exact trivial | exact ⟨_, rfl, rfl, huo _ (by simp)⟩ | exact ⟨_, rfl, rfl, fun v hv => huo v (by simp only [List.mem_cons, List.not_mem_nil, or_false] at hv ⊢; rcases hv with h | h | h <;> simp [h])⟩ | refine ⟨?_, ?_⟩)) ?_ ?_
    rotate_left
    refine go tbl_ok false ?_
    conv => whnf
    (repeat (refine ⟨by first | omega | (show _ ∧ _; omega) | ((repeat (first | rw [ByteArray.size_append] | rw [bsz] | rw [List.size_toArray] | rw [List.length_cons] | rw [List.length_nil])) <;> omega) | ((repeat rw [Int.toNat_natCast]) <;> first | omega | (show _ ∧ _; omega)) | (simp only [ByteArray.size_append, bsz, List.size_toArray, List.length_cons, List.length_nil]; omega) | (simp only [Int.toNat_natCast]; first | omega | (show _ ∧ _; omega)) | decide, ?_⟩; conv => whnf))
    exact endF
    refine nilF tbl_ok (by kernel_rfl) (by repeat' (first | exact trivial | exact ⟨_, rfl, rfl, huo _ (by simp)⟩ | exact ⟨_, rfl, rfl, fun v hv => huo v (by simp only [List.mem_cons, List.not_mem_nil, or_false] at hv ⊢; rcases hv with h | h | h <;> simp [h])⟩ | refine ⟨?_, ?_⟩)) (GW.out (go tbl_ok false ?_))
    conv => whnf
    exact loopE [(2, 6), (3, 7), (4, 9), (5, 11)] () trivial (by exact Nat.zero_lt_one) ⟨rfl, trivial⟩ ⟨rfl, rfl, rfl, trivial⟩ (by repeat' (first | exact trivial | exact rfl | refine ⟨?_, ?_⟩)) (by kernel_rfl) trivial (by kernel_rfl)
  intro _ _
  refine showBx hp 0 3 3 rfl rfl rfl ?_
  refine showBx hp 0 4 4 rfl rfl rfl ?_
  refine nilB 2 3 8 (fun i => GWorker.c (([] : List GWorker).getD i default)) rfl rfl ?_
  refine nilB 2 4 6 (fun i => GLink.c (([] : List GLink).getD i default)) rfl rfl ?_
  refine go tbl_ok false ?_
  conv => whnf
  refine loopW tbl_ok false [] (fun k : Nat => [(4, .c (vi k))]) (fun k => [⟨2, [.own 3, .c (vi x.graph.workers), .c (vi x.graph.cap), .own 6, .own 7, .own 4, .own 5]⟩, ⟨0, [.c (.val v0), .c (.val v1), .c (.val v2), .c (sGWorker x.workers), .c (sGLink x.links), .c (.val v5), .c (.val v6)]⟩, ⟨1, [.c (.val (.slice none 0 0)), .c (vi 0), .c (vi 0), .c (.val (.slice none 0 0)), .c (.val (.slice none 0 0)), .c (.val (.slice none 0 0)), .c (.val (.slice none 0 0))]⟩]) (fun k => [⟨3, sGNode x.graph.nodes⟩, ⟨4, sGToken x.tokens⟩, ⟨5, sGNews x.news⟩, ⟨6, sGWorker (x.workers.take k)⟩, ⟨7, sGLink []⟩])
    (fun k => k ≤ x.workers.length) (fun k => x.workers.length - k) 0 (Nat.zero_le _) ⟨by first | rfl | simp [nth, ren2, ren1, ren0], trivial⟩ (by repeat' (first | exact trivial | exact rfl | refine ⟨?_, ?_⟩)) ⟨by first | rfl | exact (congrArg (fun l => slC _ _ l) (List.append_nil _)).symm | (show (_ : Cell) = _; simp) | simp, by first | rfl | exact (congrArg (fun l => slC _ _ l) (List.append_nil _)).symm | (show (_ : Cell) = _; simp) | simp, by first | rfl | exact (congrArg (fun l => slC _ _ l) (List.append_nil _)).symm | (show (_ : Cell) = _; simp) | simp, by first | rfl | exact (congrArg (fun l => slC _ _ l) (List.append_nil _)).symm | (show (_ : Cell) = _; simp) | simp, by first | rfl | exact (congrArg (fun l => slC _ _ l) (List.append_nil _)).symm | (show (_ : Cell) = _; simp) | simp, trivial⟩ trivial (by kernel_rfl) (fun k hk => ?_)
  conv => whnf
  refine ⟨fun h' => have h' := of_decide_eq_true h'; ?_, fun h' => have h' := of_decide_eq_false h'; ?_⟩ <;> conv => whnf
  · have h' : k < x.workers.length := by omega
    have hw := GCluster.worker_le h h'
    (repeat (refine ⟨by first | omega | (show _ ∧ _; omega) | ((repeat (first | rw [ByteArray.size_append] | rw [bsz] | rw [List.size_toArray] | rw [List.length_cons] | rw [List.length_nil])) <;> omega) | ((repeat rw [Int.toNat_natCast]) <;> first | omega | (show _ ∧ _; omega)) | (simp only [ByteArray.size_append, bsz, List.size_toArray, List.length_cons, List.length_nil]; omega) | (simp only [Int.toNat_natCast]; first | omega | (show _ ∧ _; omega)) | decide, ?_⟩; conv => whnf))
    first | (refine drawI 1 rfl [0, 1, 4, 5, 8, 9, 2, 3, 6, 7, 10, 11, 12, 13] (by kernel_rfl) (go tbl_ok false ?_); conv => whnf) | (refine drawI 5 rfl [0, 1, 2, 3, 4, 5, 6, 7, 8, 9, 10, 11] (by kernel_rfl) (go tbl_ok false ?_); conv => whnf) | (refine drawI 9 rfl [0, 1, 2, 3, 4, 5, 6, 7, 8, 9, 10, 11] (by kernel_rfl) (go tbl_ok false ?_); conv => whnf)
    (repeat (refine ⟨by first | omega | (show _ ∧ _; omega) | ((repeat (first | rw [ByteArray.size_append] | rw [bsz] | rw [List.size_toArray] | rw [List.length_cons] | rw [List.length_nil])) <;> omega) | ((repeat rw [Int.toNat_natCast]) <;> first | omega | (show _ ∧ _; omega)) | (simp only [ByteArray.size_append, bsz, List.size_toArray, List.length_cons, List.length_nil]; omega) | (simp only [Int.toNat_natCast]; first | omega | (show _ ∧ _; omega)) | decide, ?_⟩; conv => whnf))
    refine callW (specCopyWorker (x.workers.getD k default) hw) rfl (go tbl_ok false ?_)
    conv => whnf
    refine buildW tbl_ok rfl rfl rfl rfl rfl rfl rfl rfl rfl (go tbl_ok false ?_)
    conv => whnf
    refine appW tbl_ok rfl rfl rfl rfl rfl rfl rfl rfl rfl rfl rfl (sGWorker (x.workers.take k ++ [x.workers.getD k default])) (slC_snoc rfl) (by intro h; cases h) (by simp only [List.length_take]; omega) (go tbl_ok false ?_)
    conv => whnf
    (repeat (refine ⟨by first | omega | (show _ ∧ _; omega) | ((repeat (first | rw [ByteArray.size_append] | rw [bsz] | rw [List.size_toArray] | rw [List.length_cons] | rw [List.length_nil])) <;> omega) | ((repeat rw [Int.toNat_natCast]) <;> first | omega | (show _ ∧ _; omega)) | (simp only [ByteArray.size_append, bsz, List.size_toArray, List.length_cons, List.length_nil]; omega) | (simp only [Int.toNat_natCast]; first | omega | (show _ ∧ _; omega)) | decide, ?_⟩; conv => whnf))
    refine loopE [(6, 17)] (k + 1) (by omega) (by omega) ⟨rfl, trivial⟩ ⟨rfl, rfl, rfl, congrArg sGWorker (take_snoc x.workers k h').symm, rfl, trivial⟩ (by repeat' (first | exact trivial | exact rfl | refine ⟨?_, ?_⟩)) (by kernel_rfl) trivial (by kernel_rfl)
  rw [take_all x.workers k (by omega)]
  refine loopW tbl_ok false [] (fun j : Nat => [(5, .c (vi j))]) (fun j => [⟨2, [.own 3, .c (vi x.graph.workers), .c (vi x.graph.cap), .own 6, .own 7, .own 4, .own 5]⟩, ⟨0, [.c (.val v0), .c (.val v1), .c (.val v2), .c (sGWorker x.workers), .c (sGLink x.links), .c (.val v5), .c (.val v6)]⟩, ⟨1, [.c (.val (.slice none 0 0)), .c (vi 0), .c (vi 0), .c (.val (.slice none 0 0)), .c (.val (.slice none 0 0)), .c (.val (.slice none 0 0)), .c (.val (.slice none 0 0))]⟩]) (fun j => [⟨3, sGNode x.graph.nodes⟩, ⟨4, sGToken x.tokens⟩, ⟨5, sGNews x.news⟩, ⟨6, sGWorker x.workers⟩, ⟨7, sGLink (x.links.take j)⟩])
    (fun j => j ≤ x.links.length) (fun j => x.links.length - j) 0 (Nat.zero_le _) ⟨by first | rfl | simp [nth, ren2, ren1, ren0], trivial⟩ (by repeat' (first | exact trivial | exact rfl | refine ⟨?_, ?_⟩)) ⟨by first | rfl | exact (congrArg (fun l => slC _ _ l) (List.append_nil _)).symm | (show (_ : Cell) = _; simp) | simp, by first | rfl | exact (congrArg (fun l => slC _ _ l) (List.append_nil _)).symm | (show (_ : Cell) = _; simp) | simp, by first | rfl | exact (congrArg (fun l => slC _ _ l) (List.append_nil _)).symm | (show (_ : Cell) = _; simp) | simp, by first | rfl | exact (congrArg (fun l => slC _ _ l) (List.append_nil _)).symm | (show (_ : Cell) = _; simp) | simp, by first | rfl | exact (congrArg (fun l => slC _ _ l) (List.append_nil _)).symm | (show (_ : Cell) = _; simp) | simp, trivial⟩ trivial (by kernel_rfl) (fun j hj => ?_)
  conv => whnf
  refine ⟨fun h'' => have h'' := of_decide_eq_true h''; ?_, fun h'' => have h'' := of_decide_eq_false h''; ?_⟩ <;> conv => whnf
  · have h'' : j < x.links.length := by omega
    have hl := GCluster.link_le h h''
    (repeat (refine ⟨by first | omega | (show _ ∧ _; omega) | ((repeat (first | rw [ByteArray.size_append] | rw [bsz] | rw [List.size_toArray] | rw [List.length_cons] | rw [List.length_nil])) <;> omega) | ((repeat rw [Int.toNat_natCast]) <;> first | omega | (show _ ∧ _; omega)) | (simp only [ByteArray.size_append, bsz, List.size_toArray, List.length_cons, List.length_nil]; omega) | (simp only [Int.toNat_natCast]; first | omega | (show _ ∧ _; omega)) | decide, ?_⟩; conv => whnf))
    first | (refine drawI 1 rfl [0, 1, 4, 5, 8, 9, 2, 3, 6, 7, 10, 11, 12, 13] (by kernel_rfl) (go tbl_ok false ?_); conv => whnf) | (refine drawI 5 rfl [0, 1, 2, 3, 4, 5, 6, 7, 8, 9, 10, 11] (by kernel_rfl) (go tbl_ok false ?_); conv => whnf) | (refine drawI 9 rfl [0, 1, 2, 3, 4, 5, 6, 7, 8, 9, 10, 11] (by kernel_rfl) (go tbl_ok false ?_); conv => whnf)
    (repeat (refine ⟨by first | omega | (show _ ∧ _; omega) | ((repeat (first | rw [ByteArray.size_append] | rw [bsz] | rw [List.size_toArray] | rw [List.length_cons] | rw [List.length_nil])) <;> omega) | ((repeat rw [Int.toNat_natCast]) <;> first | omega | (show _ ∧ _; omega)) | (simp only [ByteArray.size_append, bsz, List.size_toArray, List.length_cons, List.length_nil]; omega) | (simp only [Int.toNat_natCast]; first | omega | (show _ ∧ _; omega)) | decide, ?_⟩; conv => whnf))
    refine callW (specCopyLink (x.links.getD j default) hl) rfl (go tbl_ok false ?_)
    conv => whnf
    refine buildW tbl_ok rfl rfl rfl rfl rfl rfl rfl rfl rfl (go tbl_ok false ?_)
    conv => whnf
    refine appW tbl_ok rfl rfl rfl rfl rfl rfl rfl rfl rfl rfl rfl (sGLink (x.links.take j ++ [x.links.getD j default])) (slC_snoc rfl) (by intro h; cases h) (by simp only [List.length_take]; omega) (go tbl_ok false ?_)
    conv => whnf
    (repeat (refine ⟨by first | omega | (show _ ∧ _; omega) | ((repeat (first | rw [ByteArray.size_append] | rw [bsz] | rw [List.size_toArray] | rw [List.length_cons] | rw [List.length_nil])) <;> omega) | ((repeat rw [Int.toNat_natCast]) <;> first | omega | (show _ ∧ _; omega)) | (simp only [ByteArray.size_append, bsz, List.size_toArray, List.length_cons, List.length_nil]; omega) | (simp only [Int.toNat_natCast]; first | omega | (show _ ∧ _; omega)) | decide, ?_⟩; conv => whnf))
    refine loopE [(7, 10)] (j + 1) (by omega) (by omega) ⟨rfl, trivial⟩ ⟨rfl, rfl, rfl, rfl, congrArg sGLink (take_snoc x.links j h'').symm, trivial⟩ (by repeat' (first | exact trivial | exact rfl | refine ⟨?_, ?_⟩)) (by kernel_rfl) trivial (by kernel_rfl)
  · refine retW tbl_ok rfl rfl ⟨⟨rfl, rfl, rfl, rfl, ?_, rfl, rfl, trivial⟩, trivial⟩
    exact congrArg sGLink (take_all _ _ (by omega))

end Go.Proofs.YtlbmkgkmbjadcaaGreat
