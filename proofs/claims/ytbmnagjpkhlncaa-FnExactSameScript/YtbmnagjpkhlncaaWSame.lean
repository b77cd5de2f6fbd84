/- Texts for the law FnExactSameScript: WSame. No conditions. -/
import Derived.Test.YtbmnagjpkhlncaaH2

set_option maxRecDepth 100000
namespace Go.Proofs.Ytbmnagjpkhlncaa
open Go.Sx
theorem eqlRecord (a b : List GRecord) (ha : a.length ≤ 1048576) (hb : b.length ≤ 1048576) : Meets Try.prog 68 [.one (sGRecord a), .one (sGRecord b)] [.one (vb (decide (a = b)))] := by
  refine enterW tbl_ok false Try.func68 rfl (by decide) fun W => ?_
  conv => whnf
  refine ⟨fun hn => have hn := bne_iff_ne.1 hn; ?_, fun hn => have hn := bne_eq_false_iff_eq.1 hn; ?_⟩ <;> conv => whnf
  · exact retW tbl_ok rfl rfl ⟨congrArg vb (decide_eq_false fun e => hn (by rw [e])), trivial⟩
  refine loopW tbl_ok false [] (fun k : Nat => [(13, .c (vi k))]) (fun k => []) (fun k => [])
    (fun k => k ≤ a.length ∧ a.take k = b.take k) (fun k => a.length - k) 0 ⟨Nat.zero_le _, by first | rfl | simp⟩ ⟨by first | rfl | simp [nth, ren2, ren1, ren0], trivial⟩ trivial trivial trivial (by kernel_rfl) (fun k hk => ?_)
  obtain ⟨hk, he⟩ := hk
  conv => whnf
  refine ⟨fun h => have h := of_decide_eq_true h; ?_, fun h => have h := of_decide_eq_false h; ?_⟩ <;> conv => whnf
  · have h : k < a.length := by omega
    have hs := take_eq_succ a b k he h (by omega)
    (repeat (refine ⟨by first | omega | (show _ ∧ _; omega) | (simp only [Int.toNat_natCast]; first | omega | (show _ ∧ _; omega)) | decide, ?_⟩; conv => whnf))
    first | (refine drawI 6 rfl [0, 1, 2, 3, 4, 5, 6, 7, 8] (by kernel_rfl) (go tbl_ok false ?_); conv => whnf)
    (repeat (refine ⟨by first | omega | (show _ ∧ _; omega) | (simp only [Int.toNat_natCast]; first | omega | (show _ ∧ _; omega)) | decide, ?_⟩; conv => whnf))
    refine ⟨fun hc => ?_, fun hc => ?_⟩ <;> conv => whnf
    · have hc : (!decide (a.getD k default = b.getD k default)) = true := by rw [← GRecord.eqv]; exact hc
      exact retW tbl_ok rfl rfl ⟨congrArg vb (decide_eq_false fun e => by subst e; simp at hc), trivial⟩
    · have hc : (!decide (a.getD k default = b.getD k default)) = false := by rw [← GRecord.eqv]; exact hc
      (repeat (refine ⟨by first | omega | (show _ ∧ _; omega) | (simp only [Int.toNat_natCast]; first | omega | (show _ ∧ _; omega)) | decide, ?_⟩; conv => whnf))
      refine loopE [] (k + 1) ⟨by omega, hs.2 (by simpa using hc)⟩ (by omega) ⟨rfl, trivial⟩ trivial trivial (by kernel_rfl) trivial (by kernel_rfl)
  · exact retW tbl_ok rfl rfl ⟨congrArg vb (decide_eq_true (by rw [← take_all a k (by omega), he, take_all b k (by omega)])), trivial⟩

theorem eqlPick (a b : List GPick) (ha : a.length ≤ 1048576) (hb : b.length ≤ 1048576) : Meets Try.prog 69 [.one (sGPick a), .one (sGPick b)] [.one (vb (decide (a = b)))] := by
  refine enterW tbl_ok false Try.func69 rfl (by decide) fun W => ?_
  conv => whnf
  refine ⟨fun hn => have hn := bne_iff_ne.1 hn; ?_, fun hn => have hn := bne_eq_false_iff_eq.1 hn; ?_⟩ <;> conv => whnf
  · exact retW tbl_ok rfl rfl ⟨congrArg vb (decide_eq_false fun e => hn (by rw [e])), trivial⟩
  refine loopW tbl_ok false [] (fun k : Nat => [(13, .c (vi k))]) (fun k => []) (fun k => [])
    (fun k => k ≤ a.length ∧ a.take k = b.take k) (fun k => a.length - k) 0 ⟨Nat.zero_le _, by first | rfl | simp⟩ ⟨by first | rfl | simp [nth, ren2, ren1, ren0], trivial⟩ trivial trivial trivial (by kernel_rfl) (fun k hk => ?_)
  obtain ⟨hk, he⟩ := hk
  conv => whnf
  refine ⟨fun h => have h := of_decide_eq_true h; ?_, fun h => have h := of_decide_eq_false h; ?_⟩ <;> conv => whnf
  · have h : k < a.length := by omega
    have hs := take_eq_succ a b k he h (by omega)
    (repeat (refine ⟨by first | omega | (show _ ∧ _; omega) | (simp only [Int.toNat_natCast]; first | omega | (show _ ∧ _; omega)) | decide, ?_⟩; conv => whnf))
    first | (refine drawI 6 rfl [0, 1, 2, 3, 4, 5, 6, 7, 8] (by kernel_rfl) (go tbl_ok false ?_); conv => whnf)
    (repeat (refine ⟨by first | omega | (show _ ∧ _; omega) | (simp only [Int.toNat_natCast]; first | omega | (show _ ∧ _; omega)) | decide, ?_⟩; conv => whnf))
    refine ⟨fun hc => ?_, fun hc => ?_⟩ <;> conv => whnf
    · have hc : (!decide (a.getD k default = b.getD k default)) = true := by rw [← GPick.eqv]; exact hc
      exact retW tbl_ok rfl rfl ⟨congrArg vb (decide_eq_false fun e => by subst e; simp at hc), trivial⟩
    · have hc : (!decide (a.getD k default = b.getD k default)) = false := by rw [← GPick.eqv]; exact hc
      (repeat (refine ⟨by first | omega | (show _ ∧ _; omega) | (simp only [Int.toNat_natCast]; first | omega | (show _ ∧ _; omega)) | decide, ?_⟩; conv => whnf))
      refine loopE [] (k + 1) ⟨by omega, hs.2 (by simpa using hc)⟩ (by omega) ⟨rfl, trivial⟩ trivial trivial (by kernel_rfl) trivial (by kernel_rfl)
  · exact retW tbl_ok rfl rfl ⟨congrArg vb (decide_eq_true (by rw [← take_all a k (by omega), he, take_all b k (by omega)])), trivial⟩

theorem eqlInt (a b : List Int) (ha : a.length ≤ 1048576) (hb : b.length ≤ 1048576) : Meets Try.prog 84 [.one (sInt a), .one (sInt b)] [.one (vb (decide (a = b)))] := by
  refine enterW tbl_ok false Try.func84 rfl (by decide) fun W => ?_
  conv => whnf
  refine ⟨fun hn => have hn := bne_iff_ne.1 hn; ?_, fun hn => have hn := bne_eq_false_iff_eq.1 hn; ?_⟩ <;> conv => whnf
  · exact retW tbl_ok rfl rfl ⟨congrArg vb (decide_eq_false fun e => hn (by rw [e])), trivial⟩
  refine loopW tbl_ok false [] (fun k : Nat => [(13, .c (vi k))]) (fun k => []) (fun k => [])
    (fun k => k ≤ a.length ∧ a.take k = b.take k) (fun k => a.length - k) 0 ⟨Nat.zero_le _, by first | rfl | simp⟩ ⟨by first | rfl | simp [nth, ren2, ren1, ren0], trivial⟩ trivial trivial trivial (by kernel_rfl) (fun k hk => ?_)
  obtain ⟨hk, he⟩ := hk
  conv => whnf
  refine ⟨fun h => have h := of_decide_eq_true h; ?_, fun h => have h := of_decide_eq_false h; ?_⟩ <;> conv => whnf
  · have h : k < a.length := by omega
    have hs := take_eq_succ a b k he h (by omega)
    (repeat (refine ⟨by first | omega | (show _ ∧ _; omega) | (simp only [Int.toNat_natCast]; first | omega | (show _ ∧ _; omega)) | decide, ?_⟩; conv => whnf))
    first | (refine drawI 6 rfl [0, 1, 2, 3, 4, 5, 6, 7, 8] (by kernel_rfl) (go tbl_ok false ?_); conv => whnf)
    (repeat (refine ⟨by first | omega | (show _ ∧ _; omega) | (simp only [Int.toNat_natCast]; first | omega | (show _ ∧ _; omega)) | decide, ?_⟩; conv => whnf))
    refine ⟨fun hc => ?_, fun hc => ?_⟩ <;> conv => whnf
    · have hc : (!decide (a.getD k default = b.getD k default)) = true := by rw [← int_eqv]; exact hc
      exact retW tbl_ok rfl rfl ⟨congrArg vb (decide_eq_false fun e => by subst e; simp at hc), trivial⟩
    · have hc : (!decide (a.getD k default = b.getD k default)) = false := by rw [← int_eqv]; exact hc
      (repeat (refine ⟨by first | omega | (show _ ∧ _; omega) | (simp only [Int.toNat_natCast]; first | omega | (show _ ∧ _; omega)) | decide, ?_⟩; conv => whnf))
      refine loopE [] (k + 1) ⟨by omega, hs.2 (by simpa using hc)⟩ (by omega) ⟨rfl, trivial⟩ trivial trivial (by kernel_rfl) trivial (by kernel_rfl)
  · exact retW tbl_ok rfl rfl ⟨congrArg vb (decide_eq_true (by rw [← take_all a k (by omega), he, take_all b k (by omega)])), trivial⟩

theorem l05Same (a b : List GRecord) (ha : a.length ≤ 1048576) (hb : b.length ≤ 1048576) : Meets Try.prog 66 [.one (sGRecord a), .one (sGRecord b)] [.one (vb (decide (a = b)))] := by
  refine enterW tbl_ok false Try.func66 rfl (by decide) fun W => ?_
  conv => whnf
  refine ⟨fun hn => have hn := bne_iff_ne.1 hn; ?_, fun hn => have hn := bne_eq_false_iff_eq.1 hn; ?_⟩ <;> conv => whnf
  · exact retW tbl_ok rfl rfl ⟨congrArg vb (decide_eq_false fun e => hn (by rw [e])), trivial⟩
  refine loopW tbl_ok false [] (fun k : Nat => [(5, .c (vi k))]) (fun k => []) (fun k => [])
    (fun k => k ≤ a.length ∧ a.take k = b.take k) (fun k => a.length - k) 0 ⟨Nat.zero_le _, by first | rfl | simp⟩ ⟨by first | rfl | simp [nth, ren2, ren1, ren0], trivial⟩ trivial trivial trivial (by kernel_rfl) (fun k hk => ?_)
  obtain ⟨hk, he⟩ := hk
  conv => whnf
  refine ⟨fun h => have h := of_decide_eq_true h; ?_, fun h => have h := of_decide_eq_false h; ?_⟩ <;> conv => whnf
  · have h : k < a.length := by omega
    have hs := take_eq_succ a b k he h (by omega)
    (repeat (refine ⟨by first | omega | (show _ ∧ _; omega) | (simp only [Int.toNat_natCast]; first | omega | (show _ ∧ _; omega)) | decide, ?_⟩; conv => whnf))
    first | (refine drawI 6 rfl [0, 1, 2, 3, 4, 5, 6, 7, 8] (by kernel_rfl) (go tbl_ok false ?_); conv => whnf)
    (repeat (refine ⟨by first | omega | (show _ ∧ _; omega) | (simp only [Int.toNat_natCast]; first | omega | (show _ ∧ _; omega)) | decide, ?_⟩; conv => whnf))
    refine ⟨fun hc => ?_, fun hc => ?_⟩ <;> conv => whnf
    · have hc : (!decide (a.getD k default = b.getD k default)) = true := by rw [← GRecord.eqv]; exact hc
      exact retW tbl_ok rfl rfl ⟨congrArg vb (decide_eq_false fun e => by subst e; simp at hc), trivial⟩
    · have hc : (!decide (a.getD k default = b.getD k default)) = false := by rw [← GRecord.eqv]; exact hc
      (repeat (refine ⟨by first | omega | (show _ ∧ _; omega) | (simp only [Int.toNat_natCast]; first | omega | (show _ ∧ _; omega)) | decide, ?_⟩; conv => whnf))
      refine loopE [] (k + 1) ⟨by omega, hs.2 (by simpa using hc)⟩ (by omega) ⟨rfl, trivial⟩ trivial trivial (by kernel_rfl) trivial (by kernel_rfl)
  · exact retW tbl_ok rfl rfl ⟨congrArg vb (decide_eq_true (by rw [← take_all a k (by omega), he, take_all b k (by omega)])), trivial⟩

theorem l08Ints (a b : List Int) (ha : a.length ≤ 1048576) (hb : b.length ≤ 1048576) : Meets Try.prog 78 [.one (sInt a), .one (sInt b)] [.one (vb (decide (a = b)))] := by
  refine enterW tbl_ok false Try.func78 rfl (by decide) fun W => ?_
  conv => whnf
  refine ⟨fun hn => have hn := bne_iff_ne.1 hn; ?_, fun hn => have hn := bne_eq_false_iff_eq.1 hn; ?_⟩ <;> conv => whnf
  · exact retW tbl_ok rfl rfl ⟨congrArg vb (decide_eq_false fun e => hn (by rw [e])), trivial⟩
  refine loopW tbl_ok false [] (fun k : Nat => [(5, .c (vi k))]) (fun k => []) (fun k => [])
    (fun k => k ≤ a.length ∧ a.take k = b.take k) (fun k => a.length - k) 0 ⟨Nat.zero_le _, by first | rfl | simp⟩ ⟨by first | rfl | simp [nth, ren2, ren1, ren0], trivial⟩ trivial trivial trivial (by kernel_rfl) (fun k hk => ?_)
  obtain ⟨hk, he⟩ := hk
  conv => whnf
  refine ⟨fun h => have h := of_decide_eq_true h; ?_, fun h => have h := of_decide_eq_false h; ?_⟩ <;> conv => whnf
  · have h : k < a.length := by omega
    have hs := take_eq_succ a b k he h (by omega)
    (repeat (refine ⟨by first | omega | (show _ ∧ _; omega) | (simp only [Int.toNat_natCast]; first | omega | (show _ ∧ _; omega)) | decide, ?_⟩; conv => whnf))
    first | (refine drawI 6 rfl [0, 1, 2, 3, 4, 5, 6, 7, 8] (by kernel_rfl) (go tbl_ok false ?_); conv => whnf)
    (repeat (refine ⟨by first | omega | (show _ ∧ _; omega) | (simp only [Int.toNat_natCast]; first | omega | (show _ ∧ _; omega)) | decide, ?_⟩; conv => whnf))
    refine ⟨fun hc => ?_, fun hc => ?_⟩ <;> conv => whnf
    · have hc : (!decide (a.getD k default = b.getD k default)) = true := by rw [← int_eqv]; exact hc
      exact retW tbl_ok rfl rfl ⟨congrArg vb (decide_eq_false fun e => by subst e; simp at hc), trivial⟩
    · have hc : (!decide (a.getD k default = b.getD k default)) = false := by rw [← int_eqv]; exact hc
      (repeat (refine ⟨by first | omega | (show _ ∧ _; omega) | (simp only [Int.toNat_natCast]; first | omega | (show _ ∧ _; omega)) | decide, ?_⟩; conv => whnf))
      refine loopE [] (k + 1) ⟨by omega, hs.2 (by simpa using hc)⟩ (by omega) ⟨rfl, trivial⟩ trivial trivial (by kernel_rfl) trivial (by kernel_rfl)
  · exact retW tbl_ok rfl rfl ⟨congrArg vb (decide_eq_true (by rw [← take_all a k (by omega), he, take_all b k (by omega)])), trivial⟩

theorem sameNode (x y : GNode) (hx : x.outs.length ≤ 1048576) (hy : y.outs.length ≤ 1048576) : Meets Try.prog 80 [.agg x.c, .agg y.c] [.one (vb (decide (x = y)))] := by
  rw [GNode.eqv]
  refine enterW tbl_ok false Try.func80 rfl (by decide) fun W => ?_
  conv => whnf
  repeat' (first | (refine ite_f (by first | with_reducible rfl | assumption) ?_; conv => whnf) | (refine ite_t (by first | with_reducible rfl | assumption) ?_; conv => whnf) | (refine ⟨fun h => ?_, fun h => ?_⟩ <;> conv => whnf) | (refine ⟨by first | omega | (show _ ∧ _; omega) | (simp only [Int.toNat_natCast]; first | omega | (show _ ∧ _; omega)) | decide, ?_⟩; conv => whnf) | fail)
  all_goals first
    | (refine retW tbl_ok rfl rfl ⟨?_, trivial⟩; (conv => whnf); refine congrArg vb ?_; simp only [*, Bool.false_and, Bool.and_false, Bool.true_and])
    | (refine callR (eqlInt x.outs y.outs hx hy) rfl (go tbl_ok false ?_); conv => whnf)
  repeat' (first | (refine ite_f (by first | with_reducible rfl | assumption) ?_; conv => whnf) | (refine ite_t (by first | with_reducible rfl | assumption) ?_; conv => whnf) | (refine ⟨fun h => ?_, fun h => ?_⟩ <;> conv => whnf) | (refine ⟨by first | omega | (show _ ∧ _; omega) | (simp only [Int.toNat_natCast]; first | omega | (show _ ∧ _; omega)) | decide, ?_⟩; conv => whnf) | fail)
  all_goals (refine retW tbl_ok rfl rfl ⟨?_, trivial⟩; (conv => whnf); refine congrArg vb ?_; simp only [*, Bool.false_and, Bool.and_false, Bool.true_and])

theorem eqfNode (a b : List GNode) (ha : wS GNode.w a ≤ 1048576) (hb : wS GNode.w b ≤ 1048576) :
    Meets Try.prog 79 [.one (sGNode a), .one (sGNode b), .fn 80 []] [.one (vb (decide (a = b)))] := by
  simp only [wS] at ha hb
  refine enterW tbl_ok false Try.func79 rfl (by decide) fun W => ?_
  conv => whnf
  refine ⟨fun hn => have hn := bne_iff_ne.1 hn; ?_, fun hn => have hn := bne_eq_false_iff_eq.1 hn; ?_⟩ <;> conv => whnf
  · exact retW tbl_ok rfl rfl ⟨congrArg vb (decide_eq_false fun e => hn (by rw [e])), trivial⟩
  refine loopW tbl_ok false [] (fun k : Nat => [(17, .c (vi k))]) (fun k => []) (fun k => [])
    (fun k => k ≤ a.length ∧ a.take k = b.take k) (fun k => a.length - k) 0 ⟨Nat.zero_le _, by first | rfl | simp⟩ ⟨by first | rfl | simp [nth, ren2, ren1, ren0], trivial⟩ trivial trivial trivial (by kernel_rfl) (fun k hk => ?_)
  obtain ⟨hk, he⟩ := hk
  conv => whnf
  refine ⟨fun h => have h := of_decide_eq_true h; ?_, fun h => have h := of_decide_eq_false h; ?_⟩ <;> conv => whnf
  · have h : k < a.length := by omega
    have hs := take_eq_succ a b k he h (by omega)
    have h1 := wS_take_le GNode.w a k h
    have h2 := wS_take_le GNode.w b k (by omega)
    (repeat (refine ⟨by first | omega | (show _ ∧ _; omega) | (simp only [Int.toNat_natCast]; first | omega | (show _ ∧ _; omega)) | decide, ?_⟩; conv => whnf))
    refine callR (sameNode (a.getD k default) (b.getD k default) (by simp only [GNode.w] at h1; omega) (by simp only [GNode.w] at h2; omega)) rfl (go tbl_ok false ?_)
    conv => whnf
    refine ⟨fun hc => ?_, fun hc => ?_⟩ <;> conv => whnf
    · exact retW tbl_ok rfl rfl ⟨congrArg vb (decide_eq_false fun e => by subst e; simp at hc), trivial⟩
    · (repeat (refine ⟨by first | omega | (show _ ∧ _; omega) | (simp only [Int.toNat_natCast]; first | omega | (show _ ∧ _; omega)) | decide, ?_⟩; conv => whnf))
      refine loopE [] (k + 1) ⟨by omega, hs.2 (by simpa using hc)⟩ (by omega) ⟨rfl, trivial⟩ trivial trivial (by kernel_rfl) trivial (by kernel_rfl)
  · exact retW tbl_ok rfl rfl ⟨congrArg vb (decide_eq_true (by rw [← take_all a k (by omega), he, take_all b k (by omega)])), trivial⟩

theorem implSameGraph (x y : GGraph) (hx : x.w ≤ 1048576) (hy : y.w ≤ 1048576) : Meets Try.prog 67 [.agg x.c, .agg y.c] [.one (vb (decide (x = y)))] := by
  rw [GGraph.eqv]
  refine enterW tbl_ok false Try.func67 rfl (by decide) fun W => ?_
  conv => whnf
  refine callR (eqfNode x.nodes y.nodes hx hy) rfl (go tbl_ok false ?_)
  conv => whnf
  repeat' (first | (refine ite_f (by first | with_reducible rfl | assumption) ?_; conv => whnf) | (refine ite_t (by first | with_reducible rfl | assumption) ?_; conv => whnf) | (refine ⟨fun h => ?_, fun h => ?_⟩ <;> conv => whnf) | (refine ⟨by first | omega | (show _ ∧ _; omega) | (simp only [Int.toNat_natCast]; first | omega | (show _ ∧ _; omega)) | decide, ?_⟩; conv => whnf) | fail)
  all_goals (refine retW tbl_ok rfl rfl ⟨?_, trivial⟩; (conv => whnf); refine congrArg vb ?_; simp only [*, Bool.false_and, Bool.and_false, Bool.true_and])

theorem specSameGraph (x y : GGraph) (hx : x.w ≤ 1048576) (hy : y.w ≤ 1048576) : Meets Try.prog 65 [.agg x.c, .agg y.c] [.one (vb (decide (x = y)))] := by
  have hx : x.nodes.length + (x.nodes.map GNode.w).sum ≤ 1048576 := hx
  have hy : y.nodes.length + (y.nodes.map GNode.w).sum ≤ 1048576 := hy
  refine enterW tbl_ok false Try.func65 rfl (by decide) fun W => ?_
  conv => whnf
  repeat' (first | (refine ite_f (by first | with_reducible rfl | assumption) ?_; conv => whnf) | (refine ite_t (by first | with_reducible rfl | assumption) ?_; conv => whnf) | (refine ⟨fun h => ?_, fun h => ?_⟩ <;> conv => whnf) | (refine ⟨by first | omega | (show _ ∧ _; omega) | (simp only [Int.toNat_natCast]; first | omega | (show _ ∧ _; omega)) | decide, ?_⟩; conv => whnf) | fail)
  all_goals try exact retW tbl_ok rfl rfl ⟨congrArg vb (decide_eq_false fun e => by subst e; simp at h), trivial⟩
  rename_i h1 h2
  have h1 : x.workers = y.workers := by simpa using h1
  have h2 : x.cap = y.cap := by simpa using h2
  have h3 : x.nodes.length = y.nodes.length := by simp at h; omega
  refine loopW tbl_ok false [] (fun k : Nat => [(5, .c (vi k))]) (fun k => [⟨0, [.c (sGNode x.nodes), .c (vi x.workers), .c (vi x.cap)]⟩, ⟨1, [.c (sGNode y.nodes), .c (vi y.workers), .c (vi y.cap)]⟩]) (fun k => [])
    (fun k => k ≤ x.nodes.length ∧ x.nodes.take k = y.nodes.take k) (fun k => x.nodes.length - k) 0 ⟨Nat.zero_le _, by first | rfl | simp⟩ ⟨by first | rfl | simp [nth, ren2, ren1, ren0], trivial⟩ (by repeat' (first | exact trivial | exact rfl | refine ⟨?_, ?_⟩)) trivial trivial (by kernel_rfl) (fun k hk => ?_)
  obtain ⟨hk, he⟩ := hk
  conv => whnf
  refine ⟨fun h => have h := of_decide_eq_true h; ?_, fun h => have h := of_decide_eq_false h; ?_⟩ <;> conv => whnf
  · have h : k < x.nodes.length := by omega
    have hs := take_eq_succ x.nodes y.nodes k he h (by omega)
    have hp := wS_take_le GNode.w x.nodes k h
    have hq := wS_take_le GNode.w y.nodes k (by omega)
    have hd : decide (x.nodes.getD k default = y.nodes.getD k default) = false → x ≠ y := fun hd e => by subst e; simp at hd
    (repeat (refine ⟨by first | omega | (show _ ∧ _; omega) | (simp only [Int.toNat_natCast]; first | omega | (show _ ∧ _; omega)) | decide, ?_⟩; conv => whnf))
    simp only [Int.toNat_natCast]
    generalize x.nodes.getD k default = u at hs hp hd
    generalize y.nodes.getD k default = v at hs hq hd
    rw [GNode.eqv] at hd
    repeat' (first | (refine ite_f (by first | with_reducible rfl | assumption) ?_; conv => whnf) | (refine ite_t (by first | with_reducible rfl | assumption) ?_; conv => whnf) | (refine ⟨fun h => ?_, fun h => ?_⟩ <;> conv => whnf) | (refine ⟨by first | omega | (show _ ∧ _; omega) | (simp only [Int.toNat_natCast]; first | omega | (show _ ∧ _; omega)) | decide, ?_⟩; conv => whnf) | fail)
    all_goals first
      | (refine retW tbl_ok rfl rfl ⟨congrArg vb (decide_eq_false (hd ?_)), trivial⟩; simp_all; done)
      | (refine callR (l08Ints u.outs v.outs (by simp only [GNode.w] at hp; omega) (by simp only [GNode.w] at hq; omega)) rfl (go tbl_ok false ?_); conv => whnf)
    repeat' (first | (refine ite_f (by first | with_reducible rfl | assumption) ?_; conv => whnf) | (refine ite_t (by first | with_reducible rfl | assumption) ?_; conv => whnf) | (refine ⟨fun h => ?_, fun h => ?_⟩ <;> conv => whnf) | (refine ⟨by first | omega | (show _ ∧ _; omega) | (simp only [Int.toNat_natCast]; first | omega | (show _ ∧ _; omega)) | decide, ?_⟩; conv => whnf) | fail)
    · exact retW tbl_ok rfl rfl ⟨congrArg vb (decide_eq_false (hd (by simp_all))), trivial⟩
    have huv : u = v := by
      have e := GNode.eqv u v
      clear hd hs hp hq he hx hy
      simp_all
    refine loopE [] (k + 1) ⟨by omega, hs.2 huv⟩ (by omega) ⟨rfl, trivial⟩ trivial (by repeat' (first | exact trivial | exact rfl | refine ⟨?_, ?_⟩)) (by kernel_rfl) trivial (by kernel_rfl)
  · have e : x = y := by
      obtain ⟨a, b, c⟩ := x
      obtain ⟨a', b', c'⟩ := y
      have h1 : b = b' := h1
      have h2 : c = c' := h2
      have h3 : a.length = a'.length := h3
      have he : a.take k = a'.take k := he
      have hk : ¬ (k : Int) < a.length := by assumption
      rw [← take_all a k (by omega), he, take_all a' k (by omega), h1, h2]
    exact retW tbl_ok rfl rfl ⟨congrArg vb (decide_eq_true e), trivial⟩

theorem implSameScript (x y : GScript) (hx : x.w ≤ 1048576) (hy : y.w ≤ 1048576) : Meets Try.prog 45 [.agg x.c, .agg y.c] [.one (vb (decide (x = y)))] := by
  simp only [GScript.w] at hx hy
  rw [GScript.eqv]
  refine enterW tbl_ok false Try.func45 rfl (by decide) fun W => ?_
  conv => whnf
  refine callR (implSameGraph x.graph y.graph (by omega) (by omega)) rfl (go tbl_ok false ?_)
  conv => whnf
  repeat' (first | (refine ite_f (by first | with_reducible rfl | assumption) ?_; conv => whnf) | (refine ite_t (by first | with_reducible rfl | assumption) ?_; conv => whnf) | (refine ⟨fun h => ?_, fun h => ?_⟩ <;> conv => whnf) | (refine ⟨by first | omega | (show _ ∧ _; omega) | (simp only [Int.toNat_natCast]; first | omega | (show _ ∧ _; omega)) | decide, ?_⟩; conv => whnf) | fail)
  all_goals first
    | (refine retW tbl_ok rfl rfl ⟨?_, trivial⟩; (conv => whnf); refine congrArg vb ?_; simp only [*, Bool.false_and, Bool.and_false, Bool.true_and]; done)
    | (refine callR (eqlRecord x.inputs y.inputs (by omega) (by omega)) rfl (go tbl_ok false ?_); conv => whnf)
  repeat' (first | (refine ite_f (by first | with_reducible rfl | assumption) ?_; conv => whnf) | (refine ite_t (by first | with_reducible rfl | assumption) ?_; conv => whnf) | (refine ⟨fun h => ?_, fun h => ?_⟩ <;> conv => whnf) | (refine ⟨by first | omega | (show _ ∧ _; omega) | (simp only [Int.toNat_natCast]; first | omega | (show _ ∧ _; omega)) | decide, ?_⟩; conv => whnf) | fail)
  all_goals first
    | (refine retW tbl_ok rfl rfl ⟨?_, trivial⟩; (conv => whnf); refine congrArg vb ?_; simp only [*, Bool.false_and, Bool.and_false, Bool.true_and]; done)
    | (refine callR (eqlPick x.picks y.picks (by omega) (by omega)) rfl (go tbl_ok false ?_); conv => whnf)
  repeat' (first | (refine ite_f (by first | with_reducible rfl | assumption) ?_; conv => whnf) | (refine ite_t (by first | with_reducible rfl | assumption) ?_; conv => whnf) | (refine ⟨fun h => ?_, fun h => ?_⟩ <;> conv => whnf) | (refine ⟨by first | omega | (show _ ∧ _; omega) | (simp only [Int.toNat_natCast]; first | omega | (show _ ∧ _; omega)) | decide, ?_⟩; conv => whnf) | fail)
  all_goals (refine retW tbl_ok rfl rfl ⟨?_, trivial⟩; (conv => whnf); refine congrArg vb ?_; simp only [*, Bool.false_and, Bool.and_false, Bool.true_and])

theorem specSameScript (x y : GScript) (hx : x.w ≤ 1048576) (hy : y.w ≤ 1048576) : Meets Try.prog 43 [.agg x.c, .agg y.c] [.one (vb (decide (x = y)))] := by
  simp only [GScript.w] at hx hy
  refine enterW tbl_ok false Try.func43 rfl (by decide) fun W => ?_
  conv => whnf
  refine callR (specSameGraph x.graph y.graph (by omega) (by omega)) rfl (go tbl_ok false ?_)
  conv => whnf
  repeat' (first | (refine ite_f (by first | with_reducible rfl | assumption) ?_; conv => whnf) | (refine ite_t (by first | with_reducible rfl | assumption) ?_; conv => whnf) | (refine ⟨fun h => ?_, fun h => ?_⟩ <;> conv => whnf) | (refine ⟨by first | omega | (show _ ∧ _; omega) | (simp only [Int.toNat_natCast]; first | omega | (show _ ∧ _; omega)) | decide, ?_⟩; conv => whnf) | fail)
  all_goals first
    | exact retW tbl_ok rfl rfl ⟨congrArg vb (decide_eq_false fun e => by subst e; simp at h), trivial⟩
    | (refine callR (l05Same x.inputs y.inputs (by omega) (by omega)) rfl (go tbl_ok false ?_); conv => whnf)
  repeat' (first | (refine ite_f (by first | with_reducible rfl | assumption) ?_; conv => whnf) | (refine ite_t (by first | with_reducible rfl | assumption) ?_; conv => whnf) | (refine ⟨fun h => ?_, fun h => ?_⟩ <;> conv => whnf) | (refine ⟨by first | omega | (show _ ∧ _; omega) | (simp only [Int.toNat_natCast]; first | omega | (show _ ∧ _; omega)) | decide, ?_⟩; conv => whnf) | fail)
  all_goals try exact retW tbl_ok rfl rfl ⟨congrArg vb (decide_eq_false fun e => by subst e; simp at h), trivial⟩
  rename_i h1 h2 h3
  have h1 : x.graph = y.graph := by simpa using h1
  have h2 : x.inputs = y.inputs := by simpa using h2
  have h3 : x.picks.length = y.picks.length := by simp at h3; omega
  have h4 : x.rounds = y.rounds := by simpa using h
  refine loopW tbl_ok false [] (fun k : Nat => [(5, .c (vi k))]) (fun k => [⟨0, [.c (sGNode x.graph.nodes), .c (vi x.graph.workers), .c (vi x.graph.cap), .c (sGRecord x.inputs), .c (sGPick x.picks), .c (vi x.rounds)]⟩, ⟨1, [.c (sGNode y.graph.nodes), .c (vi y.graph.workers), .c (vi y.graph.cap), .c (sGRecord y.inputs), .c (sGPick y.picks), .c (vi y.rounds)]⟩]) (fun k => [])
    (fun k => k ≤ x.picks.length ∧ x.picks.take k = y.picks.take k) (fun k => x.picks.length - k) 0 ⟨Nat.zero_le _, by first | rfl | simp⟩ ⟨by first | rfl | simp [nth, ren2, ren1, ren0], trivial⟩ (by repeat' (first | exact trivial | exact rfl | refine ⟨?_, ?_⟩)) trivial trivial (by kernel_rfl) (fun k hk => ?_)
  obtain ⟨hk, he⟩ := hk
  conv => whnf
  refine ⟨fun h => have h := of_decide_eq_true h; ?_, fun h => have h := of_decide_eq_false h; ?_⟩ <;> conv => whnf
  · have h : k < x.picks.length := by omega
    have hs := take_eq_succ x.picks y.picks k he h (by omega)
    (repeat (refine ⟨by first | omega | (show _ ∧ _; omega) | (simp only [Int.toNat_natCast]; first | omega | (show _ ∧ _; omega)) | decide, ?_⟩; conv => whnf))
    first | (refine drawI 6 rfl [0, 1, 2, 3, 4, 5, 6, 7, 8, 9, 10] (by kernel_rfl) (go tbl_ok false ?_); conv => whnf)
    (repeat (refine ⟨by first | omega | (show _ ∧ _; omega) | (simp only [Int.toNat_natCast]; first | omega | (show _ ∧ _; omega)) | decide, ?_⟩; conv => whnf))
    refine ⟨fun hc => ?_, fun hc => ?_⟩ <;> conv => whnf
    · have hc : (!decide (x.picks.getD k default = y.picks.getD k default)) = true := by rw [← GPick.eqv]; exact hc
      exact retW tbl_ok rfl rfl ⟨congrArg vb (decide_eq_false fun e => by subst e; simp at hc), trivial⟩
    · have hc : (!decide (x.picks.getD k default = y.picks.getD k default)) = false := by rw [← GPick.eqv]; exact hc
      (repeat (refine ⟨by first | omega | (show _ ∧ _; omega) | (simp only [Int.toNat_natCast]; first | omega | (show _ ∧ _; omega)) | decide, ?_⟩; conv => whnf))
      refine loopE [] (k + 1) ⟨by omega, hs.2 (by simpa using hc)⟩ (by omega) ⟨rfl, trivial⟩ trivial (by repeat' (first | exact trivial | exact rfl | refine ⟨?_, ?_⟩)) (by kernel_rfl) trivial (by kernel_rfl)
  · have e : x.picks = y.picks := by rw [← take_all x.picks k (by omega), he, take_all y.picks k (by omega)]
    have e : x = y := by
      obtain ⟨a, b, c, d⟩ := x
      obtain ⟨a', b', c', d'⟩ := y
      have h1 : a = a' := h1
      have h2 : b = b' := h2
      have h4 : d = d' := h4
      have e : c = c' := e
      rw [h1, h2, h4, e]
    exact retW tbl_ok rfl rfl ⟨congrArg vb (decide_eq_true e), trivial⟩

end Go.Proofs.Ytbmnagjpkhlncaa
