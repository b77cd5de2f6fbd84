/- Texts for the law FnSchedules: WSch2. No conditions. -/
import Derived.Test.YtcpjpkcahnldfaaWSch

set_option maxRecDepth 100000
namespace Go.Proofs.Ytcpjpkcahnldfaa
open Go.Sx
set_option maxHeartbeats 1600000 in
theorem fnSchedules (xs : List UInt8) : Meets Try.prog 3 [.one (sByte xs)] [.one (vb true)] := by
  refine enterV tbl_ok false Try.func3 rfl (by decide) fun W a cp hp => ?_
  conv => whnf
  have hH : ∀ w, Base.rel ⟨W, fun _ => False⟩ w → HT w := fun _ _ => trivial
  refine callR (lawBig a xs.length cp) rfl (go tbl_ok false ?_)
  conv => whnf
  refine ⟨fun hb => ?_, fun hb => ?_⟩ <;> conv => whnf
  · exact retW tbl_ok rfl rfl ⟨rfl, trivial⟩
  have hb : (xs.length : Int) ≤ 1048576 := by have := of_decide_eq_false hb; omega
  let d : DCode := ⟨a, xs.length, cp, fun i => (xs.getD i default).toNat, fun i => by have := (xs.getD i default).toNat_lt; omega, by omega⟩
  have hp : Pins ⟨W, fun _ => False⟩ d.pins := hp
  refine callC1 (drawRR d) hH hp rfl (fun r _ => go tbl_ok false ?_)
  conv => whnf
  have hl1 : (rr (pN r.1) (brought r.2 0 40).toNat).length ≤ 2080 := by have := rr_len (pN r.1) (brought r.2 0 40).toNat (pN_le _); have := brought_range r.2 0 40 (by decide); omega
  have hb0 := brought_range r.2 0 40 (by decide)
  refine callR (implRoundRobin r.1 r.2) rfl (go tbl_ok false ?_)
  conv => whnf
  refine callR (specAllPicks r.1) rfl (go tbl_ok false ?_)
  conv => whnf
  refine callR (specRoundRobin r.1 r.2) rfl (go tbl_ok false ?_)
  conv => whnf
  refine callR (samePicks _ _ (by omega) (by omega)) rfl (go tbl_ok false ?_)
  conv => whnf
  repeat (first | (refine ite_f (by first | with_reducible rfl | assumption | (simp; done) | fail) ?_; conv => whnf) | (refine ite_t (by first | with_reducible rfl | assumption | (simp; done) | fail) ?_; conv => whnf) | (refine ⟨by first | omega | (simp only [ByteArray.size_append, bsz, List.size_toArray, List.length_cons, List.length_nil]; omega) | (show _ ∧ _; omega) | (simp only [Int.toNat_natCast]; first | omega | (show _ ∧ _; omega)) | decide, ?_⟩; conv => whnf))
  refine callR (specBrought r.2 0 40) rfl (go tbl_ok false ?_)
  conv => whnf
  have hN : (allP (brought r.1.graph.workers 0 4).toNat).length ≤ 52 := allP_len _ (pN_le r.1)
  have hlen : ((rr (pN r.1) (brought r.2 0 40).toNat).length : Int) = ((allP (brought r.1.graph.workers 0 4).toNat).length : Int) * brought r.2 0 40 := by
    rw [rr_length, Int.natCast_mul, Int.toNat_of_nonneg hb0.1]; rfl
  repeat (first | (refine ite_f (by first | with_reducible rfl | assumption | (simp; done) | fail) ?_; conv => whnf) | (refine ite_t (by first | with_reducible rfl | assumption | (simp; done) | fail) ?_; conv => whnf) | (refine ⟨by first | omega | (simp only [ByteArray.size_append, bsz, List.size_toArray, List.length_cons, List.length_nil]; omega) | (show _ ∧ _; omega) | (simp only [Int.toNat_natCast]; first | omega | (show _ ∧ _; omega)) | decide, ?_⟩; conv => whnf))
  refine ite_f (by rw [bne_eq_false_iff_eq]; exact hlen) ?_
  conv => whnf
  refine callC1 (drawPF d) hH hp rfl (fun r2 h2 => go tbl_ok false ?_)
  conv => whnf
  refine callC1 (drawWW d) hH hp rfl (fun r3 h3 => go tbl_ok false ?_)
  conv => whnf
  refine callR (implWithoutWorker r3.1 r3.2 (by omega)) rfl (go tbl_ok false ?_)
  conv => whnf
  refine callC1 (drawIF d) hH hp rfl (fun r4 h4 => go tbl_ok false ?_)
  conv => whnf
  first | (refine drawI 12 rfl [0, 1, 3, 4, 2, 5, 6, 7, 8, 9, 10, 11, 12, 13, 14, 15, 16, 17, 18, 19, 21, 22, 23, 20, 24, 25, 26, 27, 28, 29, 31, 32, 30, 33, 34, 35] (by kernel_rfl) (go tbl_ok false ?_); conv => whnf) | (refine drawI 16 rfl [0, 1, 2, 3, 4, 5, 6, 7, 8, 9, 10, 11, 12, 13, 14, 15, 16, 17, 18, 19, 20, 21, 22, 23, 24, 25, 26] (by kernel_rfl) (go tbl_ok false ?_); conv => whnf)
  refine callR (implPicksFrom r2.1 r2.2 (by omega)) rfl (go tbl_ok false ?_)
  conv => whnf
  refine callR (specPicksFrom r2.1 r2.2 (by omega)) rfl (go tbl_ok false ?_)
  conv => whnf
  refine callR (samePicks _ _ (by rw [pf_len]; omega) (by rw [pf_len]; omega)) rfl (go tbl_ok false ?_)
  conv => whnf
  repeat (first | (refine ite_f (by first | with_reducible rfl | assumption | (simp; done) | fail) ?_; conv => whnf) | (refine ite_t (by first | with_reducible rfl | assumption | (simp; done) | fail) ?_; conv => whnf) | (refine ⟨by first | omega | (simp only [ByteArray.size_append, bsz, List.size_toArray, List.length_cons, List.length_nil]; omega) | (show _ ∧ _; omega) | (simp only [Int.toNat_natCast]; first | omega | (show _ ∧ _; omega)) | decide, ?_⟩; conv => whnf))
  refine callR (specWithoutWorker r3.1 r3.2 (by omega)) rfl (go tbl_ok false ?_)
  conv => whnf
  repeat (first | (refine ite_f (by first | with_reducible rfl | assumption | (simp; done) | fail) ?_; conv => whnf) | (refine ite_t (by first | with_reducible rfl | assumption | (simp; done) | fail) ?_; conv => whnf) | (refine ⟨by first | omega | (simp only [ByteArray.size_append, bsz, List.size_toArray, List.length_cons, List.length_nil]; omega) | (show _ ∧ _; omega) | (simp only [Int.toNat_natCast]; first | omega | (show _ ∧ _; omega)) | decide, ?_⟩; conv => whnf))
  have hwl := without_le r3.1 r3.2
  refine callR (samePicks (without r3.1 r3.2) (without r3.1 r3.2) (by omega) (by omega)) rfl (go tbl_ok false ?_)
  conv => whnf
  repeat (first | (refine ite_f (by first | with_reducible rfl | assumption | (simp; done) | fail) ?_; conv => whnf) | (refine ite_t (by first | with_reducible rfl | assumption | (simp; done) | fail) ?_; conv => whnf) | (refine ⟨by first | omega | (simp only [ByteArray.size_append, bsz, List.size_toArray, List.length_cons, List.length_nil]; omega) | (show _ ∧ _; omega) | (simp only [Int.toNat_natCast]; first | omega | (show _ ∧ _; omega)) | decide, ?_⟩; conv => whnf))
  refine callR (implIsFair r4.1 r4.2.1 r4.2.2 (by omega) (by show _ ∧ _; omega)) rfl (go tbl_ok false ?_)
  conv => whnf
  repeat (first | (refine ite_f (by first | with_reducible rfl | assumption | (simp; done) | fail) ?_; conv => whnf) | (refine ite_t (by first | with_reducible rfl | assumption | (simp; done) | fail) ?_; conv => whnf) | (refine ⟨by first | omega | (simp only [ByteArray.size_append, bsz, List.size_toArray, List.length_cons, List.length_nil]; omega) | (show _ ∧ _; omega) | (simp only [Int.toNat_natCast]; first | omega | (show _ ∧ _; omega)) | decide, ?_⟩; conv => whnf))
  refine callR (specIsFair r4.1 r4.2.1 r4.2.2 (by omega) (by show _ ∧ _; omega)) rfl (go tbl_ok false ?_)
  conv => whnf
  repeat (first | (refine ite_f (by first | with_reducible rfl | assumption | (simp; done) | fail) ?_; conv => whnf) | (refine ite_t (by first | with_reducible rfl | assumption | (simp; done) | fail) ?_; conv => whnf) | (refine ⟨by first | omega | (simp only [ByteArray.size_append, bsz, List.size_toArray, List.length_cons, List.length_nil]; omega) | (show _ ∧ _; omega) | (simp only [Int.toNat_natCast]; first | omega | (show _ ∧ _; omega)) | decide, ?_⟩; conv => whnf))
  refine callR (implNameEach r4.1 r4.2.1 (by omega)) rfl (go tbl_ok false ?_)
  conv => whnf
  repeat (first | (refine ite_f (by first | with_reducible rfl | assumption | (simp; done) | fail) ?_; conv => whnf) | (refine ite_t (by first | with_reducible rfl | assumption | (simp; done) | fail) ?_; conv => whnf) | (refine ⟨by first | omega | (simp only [ByteArray.size_append, bsz, List.size_toArray, List.length_cons, List.length_nil]; omega) | (show _ ∧ _; omega) | (simp only [Int.toNat_natCast]; first | omega | (show _ ∧ _; omega)) | decide, ?_⟩; conv => whnf))
  refine callR (specNameEach r4.1 r4.2.1 (by omega)) rfl (go tbl_ok false ?_)
  conv => whnf
  repeat (first | (refine ite_f (by first | with_reducible rfl | assumption | (simp; done) | fail) ?_; conv => whnf) | (refine ite_t (by first | with_reducible rfl | assumption | (simp; done) | fail) ?_; conv => whnf) | (refine ⟨by first | omega | (simp only [ByteArray.size_append, bsz, List.size_toArray, List.length_cons, List.length_nil]; omega) | (show _ ∧ _; omega) | (simp only [Int.toNat_natCast]; first | omega | (show _ ∧ _; omega)) | decide, ?_⟩; conv => whnf))
  refine castC 21 (sGNode [⟨1, 0, 0, []⟩]) rfl (cast_rowsC rfl (by repeat' (first | exact trivial | exact .inl rfl | exact .inr ⟨rfl, _, _, rfl⟩ | refine ⟨?_, ?_⟩))) ?_
  refine nilC 1 5 (fun i => GRecord.c (([] : List GRecord).getD i default)) rfl ?_
  refine callC0 (clusterNew0 ⟨[⟨1, 0, 0, []⟩], 2, 1⟩ (by decide)) rfl (fun r5 _ => go tbl_ok false ?_)
  conv => whnf
  first | (refine drawI 12 rfl [0, 1, 3, 4, 2, 5, 6, 7, 8, 9, 10, 11, 12, 13, 14, 15, 16, 17, 18, 19, 21, 22, 23, 20, 24, 25, 26, 27, 28, 29, 31, 32, 30, 33, 34, 35] (by kernel_rfl) (go tbl_ok false ?_); conv => whnf) | (refine drawI 16 rfl [0, 1, 2, 3, 4, 5, 6, 7, 8, 9, 10, 11, 12, 13, 14, 15, 16, 17, 18, 19, 20, 21, 22, 23, 24, 25, 26] (by kernel_rfl) (go tbl_ok false ?_); conv => whnf)
  have h5 := allP_ge (brought r.1.graph.workers 0 4).toNat
  refine ite_f (by rw [beq_eq_false_iff_ne]; omega) ?_
  conv => whnf
  repeat (first | (refine ite_f (by first | with_reducible rfl | assumption | (simp; done) | fail) ?_; conv => whnf) | (refine ite_t (by first | with_reducible rfl | assumption | (simp; done) | fail) ?_; conv => whnf) | (refine ⟨by first | omega | (simp only [ByteArray.size_append, bsz, List.size_toArray, List.length_cons, List.length_nil]; omega) | (show _ ∧ _; omega) | (simp only [Int.toNat_natCast]; first | omega | (show _ ∧ _; omega)) | decide, ?_⟩; conv => whnf))
  refine callR (implIsFair r.1 (rr (pN r.1) (brought r.2 0 40).toNat) ((allP (brought r.1.graph.workers 0 4).toNat).length : Int) (by omega) (by show _ ∧ _; omega)) rfl (go tbl_ok false ?_)
  conv => whnf
  have hf := rr_fair (pN r.1) (brought r.2 0 40).toNat
  repeat (first | (refine ite_f (by first | with_reducible rfl | assumption | (simp; done) | fail) ?_; conv => whnf) | (refine ite_t (by first | with_reducible rfl | assumption | (simp; done) | fail) ?_; conv => whnf) | (refine ⟨by first | omega | (simp only [ByteArray.size_append, bsz, List.size_toArray, List.length_cons, List.length_nil]; omega) | (show _ ∧ _; omega) | (simp only [Int.toNat_natCast]; first | omega | (show _ ∧ _; omega)) | decide, ?_⟩; conv => whnf))
  refine ite_t (decide_eq_true (by omega)) ?_
  conv => whnf
  repeat (first | (refine ite_f (by first | with_reducible rfl | assumption | (simp; done) | fail) ?_; conv => whnf) | (refine ite_t (by first | with_reducible rfl | assumption | (simp; done) | fail) ?_; conv => whnf) | (refine ⟨by first | omega | (simp only [ByteArray.size_append, bsz, List.size_toArray, List.length_cons, List.length_nil]; omega) | (show _ ∧ _; omega) | (simp only [Int.toNat_natCast]; first | omega | (show _ ∧ _; omega)) | decide, ?_⟩; conv => whnf))
  refine callR (implRoundRobin r5.1 1) rfl (go tbl_ok false ?_)
  conv => whnf
  have hn := rr_one (pN r5.1)
  have hl5 := rr_len (pN r5.1) (brought 1 0 40).toNat (pN_le _)
  have h15 : (brought 1 0 40).toNat = 1 := by decide
  repeat (first | (refine ite_f (by first | with_reducible rfl | assumption | (simp; done) | fail) ?_; conv => whnf) | (refine ite_t (by first | with_reducible rfl | assumption | (simp; done) | fail) ?_; conv => whnf) | (refine ⟨by first | omega | (simp only [ByteArray.size_append, bsz, List.size_toArray, List.length_cons, List.length_nil]; omega) | (show _ ∧ _; omega) | (simp only [Int.toNat_natCast]; first | omega | (show _ ∧ _; omega)) | decide, ?_⟩; conv => whnf))
  refine callR (implNameEach r5.1 (rr (pN r5.1) (brought 1 0 40).toNat) (by omega)) rfl (go tbl_ok false ?_)
  conv => whnf
  repeat (first | (refine ite_f (by first | with_reducible rfl | assumption | (simp; done) | fail) ?_; conv => whnf) | (refine ite_t (by first | with_reducible rfl | assumption | (simp; done) | fail) ?_; conv => whnf) | (refine ⟨by first | omega | (simp only [ByteArray.size_append, bsz, List.size_toArray, List.length_cons, List.length_nil]; omega) | (show _ ∧ _; omega) | (simp only [Int.toNat_natCast]; first | omega | (show _ ∧ _; omega)) | decide, ?_⟩; conv => whnf))
  refine nilC 1 3 (fun i => GPick.c (([] : List GPick).getD i default)) rfl ?_
  refine callR (implNameEach r5.1 [] (by decide)) rfl (go tbl_ok false ?_)
  conv => whnf
  repeat (first | (refine ite_f (by first | with_reducible rfl | assumption | (simp; done) | fail) ?_; conv => whnf) | (refine ite_t (by first | with_reducible rfl | assumption | (simp; done) | fail) ?_; conv => whnf) | (refine ⟨by first | omega | (simp only [ByteArray.size_append, bsz, List.size_toArray, List.length_cons, List.length_nil]; omega) | (show _ ∧ _; omega) | (simp only [Int.toNat_natCast]; first | omega | (show _ ∧ _; omega)) | decide, ?_⟩; conv => whnf))
  exact retW tbl_ok rfl rfl ⟨congrArg vb (by rw [name_nil]; rfl), trivial⟩

end Go.Proofs.Ytcpjpkcahnldfaa
