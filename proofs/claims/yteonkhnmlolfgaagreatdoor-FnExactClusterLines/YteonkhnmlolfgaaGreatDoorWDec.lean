/- Texts for the law FnExactClusterLines: WDec. No conditions. -/
import Derived.Test.YteonkhnmlolfgaaGreatDoorWItoa

set_option maxRecDepth 100000
namespace Go.Proofs.YteonkhnmlolfgaaGreatDoor
open Go.Sx
theorem figure (z : Int) (d : Nat) (hz : z = d) (h : d < 10) : Meets Tryz.prog 82 [.one (vi z)] [.one (vy (UInt8.ofNat (48 + d)))] := by
  refine enterW tbl_ok false Tryz.func82 rfl (by decide) fun W => ?_
  conv => whnf
  refine ⟨fun h' => have h' := of_decide_eq_true h'; ?_, fun h' => have h' := of_decide_eq_false h'; ?_⟩ <;> conv => whnf
  · (repeat (refine need1 ?_; conv => whnf))
    exact retW tbl_ok rfl rfl ⟨congrArg Cell.val (congrArg (Value.int .u8) (by rw [hz, UInt8.toNat_ofNat']; omega)), trivial⟩
  · omega

theorem specDecAux (σ : Int) (hσ : σ = 1 ∨ σ = -1) (u : Nat) (hu : 0 < u) (hb : u ≤ 9223372036854775808) (hn : inR .i64 (σ * u)) : Meets Tryz.prog 50 [.one (vi (σ * u))] [.one (vs (dec (σ * u)))] := by
  have hd0 := decI_zero hu
  refine enterW tbl_ok false Tryz.func50 rfl (by decide) fun W => ?_
  conv => whnf
  refine ⟨fun h0 => have h0 := eq_of_beq h0; ?_, fun h0 => have h0 := beq_eq_false_iff_ne.1 h0; ?_⟩ <;> conv => whnf
  · exfalso; rcases hσ with rfl | rfl <;> omega
  refine loopW tbl_ok false [] (fun k : Nat => [(0, .c (vi (σ * mk10 u k))), (4, .c (vs ⟨(sk10 u k).toArray⟩))]) (fun k => []) (fun k => [])
    (fun k => k ≤ 19 ∧ DecI u k) (fun k => 19 - k) 0 ⟨Nat.zero_le _, by first | rfl | assumption | simp⟩ ⟨by first | rfl | simp [nth, ren2, ren1, ren0], by first | rfl | simp [nth, ren2, ren1, ren0], trivial⟩ trivial trivial (by first | exact trivial | exact ⟨rfl, trivial⟩ | repeat' (first | exact trivial | exact rfl | refine ⟨?_, ?_⟩)) (by kernel_rfl) (fun k hk => ?_)
  obtain ⟨hk, he⟩ := hk
  conv => whnf
  refine ⟨fun hq => have hq := bne_iff_ne.1 hq; ?_, fun hq => have hq := bne_eq_false_iff_eq.1 hq; ?_⟩ <;> conv => whnf
  · have hm : 0 < mk10 u k := by
      by_cases h : 0 < mk10 u k
      · exact h
      · exfalso; apply hq; rw [show mk10 u k = 0 by omega]; simp
    have hk' := mk10_k hb hm
    have hr := tmod10 hσ (mk10 u k)
    have hdv := tdiv10 hσ (mk10 u k)
    have ho := hn.1
    have ho := hn.2
    have hss := sk10_len u k
    have hle := mk10_le u k
    have hmm := Nat.mod_lt (mk10 u k) (show 10 > 0 by decide)
    (repeat (refine need1 ?_; conv => whnf))
    refine ⟨fun hneg => have hneg := of_decide_eq_true hneg; ?_, fun hneg => have hneg := of_decide_eq_false hneg; ?_⟩ <;> conv => whnf
    · refine ⟨by (show _ ∧ _; rcases hσ with rfl | rfl <;> omega), ?_⟩
      conv => whnf
      refine callR (figure (0 - ((σ * mk10 u k).tmod 10)) (mk10 u k % 10) (by rcases hσ with rfl | rfl <;> omega) hmm) rfl (go tbl_ok false ?_)
      conv => whnf
      refine castW 0 (sByte [UInt8.ofNat (48 + mk10 u k % 10)]) rfl (cast_one rfl) ?_
      refine strW tbl_ok rfl rfl rfl rfl rfl rfl rfl rfl rfl [UInt8.ofNat (48 + mk10 u k % 10)] rfl (go tbl_ok false ?_)
      conv => whnf
      (repeat (refine need1 ?_; conv => whnf))
      refine ⟨by (show _ ∧ _; rw [hdv]; rcases hσ with rfl | rfl <;> omega), ?_⟩
      conv => whnf
      refine loopE [] (k + 1) ⟨by omega, decI_succ he hm⟩ (by omega) ⟨congrArg (fun z => AV.c (vi z)) hdv, congrArg (fun z => AV.c (vs z)) (ba_cons _ _), trivial⟩ trivial trivial (by kernel_rfl) (by first | exact trivial | exact ⟨rfl, trivial⟩ | repeat' (first | exact trivial | exact rfl | refine ⟨?_, ?_⟩)) (by kernel_rfl)
    · refine callR (figure ((σ * mk10 u k).tmod 10) (mk10 u k % 10) (by rcases hσ with rfl | rfl <;> omega) hmm) rfl (go tbl_ok false ?_)
      conv => whnf
      refine castW 0 (sByte [UInt8.ofNat (48 + mk10 u k % 10)]) rfl (cast_one rfl) ?_
      refine strW tbl_ok rfl rfl rfl rfl rfl rfl rfl rfl rfl [UInt8.ofNat (48 + mk10 u k % 10)] rfl (go tbl_ok false ?_)
      conv => whnf
      (repeat (refine need1 ?_; conv => whnf))
      refine ⟨by (show _ ∧ _; rw [hdv]; rcases hσ with rfl | rfl <;> omega), ?_⟩
      conv => whnf
      refine loopE [] (k + 1) ⟨by omega, decI_succ he hm⟩ (by omega) ⟨congrArg (fun z => AV.c (vi z)) hdv, congrArg (fun z => AV.c (vs z)) (ba_cons _ _), trivial⟩ trivial trivial (by kernel_rfl) (by first | exact trivial | exact ⟨rfl, trivial⟩ | repeat' (first | exact trivial | exact rfl | refine ⟨?_, ?_⟩)) (by kernel_rfl)
  · have hm : mk10 u k = 0 := by rcases hσ with rfl | rfl <;> omega
    have hd : Lib.decDigits u = sk10 u k := by
      rcases he with ⟨h, _⟩ | ⟨_, h⟩
      · omega
      · exact h
    have hss := sk10_len u k
    refine ⟨fun hb' => ?_, fun hb' => ?_⟩ <;> conv => whnf
    · (repeat (refine need1 ?_; conv => whnf))
      refine retW tbl_ok rfl rfl ⟨?_, trivial⟩
      have hs : σ * (u : Int) < 0 := of_decide_eq_true hb'
      exact congrArg vs (by rw [dec, Lib.itoa, if_pos hs, ← hd, show (σ * (u : Int)).natAbs = u by rcases hσ with rfl | rfl <;> omega]; exact ba_cons _ _)
    · refine retW tbl_ok rfl rfl ⟨?_, trivial⟩
      have hs : ¬ σ * (u : Int) < 0 := of_decide_eq_false hb'
      exact congrArg vs (by rw [dec, Lib.itoa, if_neg hs, ← hd, show (σ * (u : Int)).toNat = u by rcases hσ with rfl | rfl <;> omega])

theorem specDecimal (n : Int) (h : inR .i64 n) : Meets Tryz.prog 50 [.one (vi n)] [.one (vs (dec n))] := by
  rcases Int.lt_trichotomy n 0 with h0 | rfl | h0
  · have e : n = (-1) * ((n.natAbs : Nat) : Int) := by omega
    have := specDecAux (-1) (.inr rfl) n.natAbs (by omega) (by have := h.1; omega) (by rw [← e]; exact h)
    rwa [← e] at this
  · refine enterW tbl_ok false Tryz.func50 rfl (by decide) fun W => ?_
    conv => whnf
    refine ⟨fun h0 => have h0 := eq_of_beq h0; ?_, fun h0 => have h0 := beq_eq_false_iff_ne.1 h0; ?_⟩ <;> conv => whnf
    · exact retW tbl_ok rfl rfl ⟨congrArg vs (by rw [dec, Lib.itoa, if_neg (by decide), Lib.decDigits, dif_pos (by decide)]; rfl), trivial⟩
    · exact absurd rfl h0
  · have e : n = 1 * ((n.natAbs : Nat) : Int) := by omega
    have := specDecAux 1 (.inl rfl) n.natAbs (by omega) (by have := h.2; omega) (by rw [← e]; exact h)
    rwa [← e] at this

end Go.Proofs.YteonkhnmlolfgaaGreatDoor
