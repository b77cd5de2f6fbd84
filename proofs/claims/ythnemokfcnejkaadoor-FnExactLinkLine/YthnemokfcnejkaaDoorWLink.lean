/- Texts for the law FnExactLinkLine: WLink. No conditions. -/
import Derived.Test.YthnemokfcnejkaaDoorWDec

set_option maxRecDepth 100000
namespace Go.Proofs.YthnemokfcnejkaaDoor
open Go.Sx
theorem specIn (n lo hi : Int) : Meets Tryd.prog 47 [.one (vi n), .one (vi lo), .one (vi hi)] [.one (vb (within n lo hi))] := by
  refine enterW tbl_ok false Tryd.func47 rfl (by decide) fun W => ?_
  conv => whnf
  repeat' (first | (refine ite_f (by first | with_reducible rfl | assumption) ?_; conv => whnf) | (refine ite_t (by first | with_reducible rfl | assumption) ?_; conv => whnf) | (refine ⟨fun h => ?_, fun h => ?_⟩ <;> conv => whnf) | (refine retW tbl_ok rfl rfl ⟨?_, trivial⟩; conv => whnf) | (refine ⟨by first | omega | (simp only [ByteArray.size_append, bsz, List.size_toArray, List.length_cons, List.length_nil]; omega) | (show _ ∧ _; omega) | (simp only [Int.toNat_natCast]; first | omega | (show _ ∧ _; omega)) | decide, ?_⟩; conv => whnf) | fail)
  all_goals (refine congrArg vb ?_; simp_all [within] <;> omega)
theorem implIn (n lo hi : Int) : Meets Tryd.prog 53 [.one (vi n), .one (vi lo), .one (vi hi)] [.one (vb (within n lo hi))] := by
  refine enterW tbl_ok false Tryd.func53 rfl (by decide) fun W => ?_
  conv => whnf
  repeat' (first | (refine ite_f (by first | with_reducible rfl | assumption) ?_; conv => whnf) | (refine ite_t (by first | with_reducible rfl | assumption) ?_; conv => whnf) | (refine ⟨fun h => ?_, fun h => ?_⟩ <;> conv => whnf) | (refine retW tbl_ok rfl rfl ⟨?_, trivial⟩; conv => whnf) | (refine ⟨by first | omega | (simp only [ByteArray.size_append, bsz, List.size_toArray, List.length_cons, List.length_nil]; omega) | (show _ ∧ _; omega) | (simp only [Int.toNat_natCast]; first | omega | (show _ ∧ _; omega)) | decide, ?_⟩; conv => whnf) | fail)
  all_goals (refine congrArg vb ?_; simp_all [within] <;> omega)


def linkPlace (w f t : Int) : Int := if 0 ≤ min f t ∧ max f t < w then IntKind.wrap .i64 (IntKind.wrap .i64 (f * w) + t) else -1
theorem linkPlace_inR (w f t : Int) : inR .i64 (linkPlace w f t) := by
  unfold linkPlace; split
  · exact wrap_in _
  · exact ⟨by decide, by decide⟩

theorem specLinkPlace (g : GGraph) (f t : Int) (hg : inR .i64 g.workers) : Meets Tryd.prog 46 [.agg g.c, .one (vi f), .one (vi t)] [.one (vi (linkPlace g.workers f t))] := by
  have hw : g.workers ≤ 9223372036854775807 := hg.2
  have hw1 : 1 ≤ g.workers → IntKind.wrap .i64 (g.workers - 1) = g.workers - 1 := fun h => wrap_inR (by show _ ∧ _; omega)
  refine enterW tbl_ok true Tryd.func46 rfl (by decide) fun W => ?_
  conv => whnf
  repeat' (first | (refine ite_f (by first | with_reducible rfl | assumption) ?_; conv => whnf) | (refine ite_t (by first | with_reducible rfl | assumption) ?_; conv => whnf) | (refine ⟨fun h => ?_, fun h => ?_⟩ <;> conv => whnf) | (refine callR (specIn _ _ _) rfl (go tbl_ok true ?_); conv => whnf) | (refine ⟨by first | omega | (simp only [ByteArray.size_append, bsz, List.size_toArray, List.length_cons, List.length_nil]; omega) | (show _ ∧ _; omega) | (simp only [Int.toNat_natCast]; first | omega | (show _ ∧ _; omega)) | decide, ?_⟩; conv => whnf) | fail)
  all_goals (refine retW tbl_ok rfl rfl ⟨congrArg vi ?_, trivial⟩; simp only [Bool.not_eq_true', Bool.not_eq_false', Go.Sx.within_iff, Go.Sx.within_f, decide_eq_true_eq, decide_eq_false_iff_not] at *; unfold linkPlace)
  · by_cases h1 : 1 ≤ g.workers
    · have h2 := hw1 h1; rw [if_neg (by omega)]
    · rw [if_neg (by omega)]
  · by_cases h1 : 1 ≤ g.workers
    · have h2 := hw1 h1; rw [if_neg (by omega)]
    · rw [if_neg (by omega)]
  · rw [if_neg (by omega)]
  · have h2 := hw1 (by omega); rw [if_pos (by omega)]
theorem implLinkPlace (g : GGraph) (f t : Int) : Meets Tryd.prog 52 [.agg g.c, .one (vi f), .one (vi t)] [.one (vi (linkPlace g.workers f t))] := by
  refine enterW tbl_ok true Tryd.func52 rfl (by decide) fun W => ?_
  conv => whnf
  repeat' (first | (refine ite_f (by first | with_reducible rfl | assumption) ?_; conv => whnf) | (refine ite_t (by first | with_reducible rfl | assumption) ?_; conv => whnf) | (refine ⟨fun h => ?_, fun h => ?_⟩ <;> conv => whnf) | (refine ⟨by first | omega | (simp only [ByteArray.size_append, bsz, List.size_toArray, List.length_cons, List.length_nil]; omega) | (show _ ∧ _; omega) | (simp only [Int.toNat_natCast]; first | omega | (show _ ∧ _; omega)) | decide, ?_⟩; conv => whnf) | fail)
  all_goals (refine retW tbl_ok rfl rfl ⟨congrArg vi ?_, trivial⟩; simp only [decide_eq_true_eq, decide_eq_false_iff_not] at *; unfold linkPlace)
  · rw [if_neg (by omega)]
  · rw [if_neg (by omega)]
  · rw [if_pos (by omega)]

def linkLine (x : GCluster) (f t : Int) : ByteArray :=
  if within (linkPlace x.graph.workers f t) 0 (x.links.length - 1) then
    let l := x.links.getD (linkPlace x.graph.workers f t).toNat default
    dec l.queue.length ++ (⟨#[32]⟩ : ByteArray) ++ dec l.credits ++ (⟨#[32]⟩ : ByteArray) ++ dec l.back
  else (⟨#[]⟩ : ByteArray)

theorem specLinkLine (x : GCluster) (f t : Int) (hx : x.w ≤ 1048576) (ox : x.ok) : Meets Tryd.prog 15 [.agg x.c, .one (vi f), .one (vi t)] [.one (vs (linkLine x f t))] := by
  have hl := GCluster.links_le hx
  refine enterW tbl_ok false Tryd.func15 rfl (by decide) fun W => ?_
  conv => whnf
  have hi := linkPlace_inR x.graph.workers f t
  repeat' (first | (refine ite_f (by first | with_reducible rfl | assumption) ?_; conv => whnf) | (refine ite_t (by first | with_reducible rfl | assumption) ?_; conv => whnf) | (refine ⟨fun h => ?_, fun h => ?_⟩ <;> conv => whnf) | (refine callR (specLinkPlace x.graph f t ox.1.2.1) rfl (go tbl_ok false ?_); conv => whnf) | (refine callR (specIn _ _ _) rfl (go tbl_ok false ?_); conv => whnf) | (refine ⟨by first | omega | (simp only [ByteArray.size_append, bsz, List.size_toArray, List.length_cons, List.length_nil]; omega) | (show _ ∧ _; omega) | (simp only [Int.toNat_natCast]; first | omega | (show _ ∧ _; omega)) | decide, ?_⟩; conv => whnf) | fail)
  · exact retW tbl_ok rfl rfl ⟨congrArg vs (by rw [linkLine, if_neg]; simpa using h), trivial⟩
  have hw : within (linkPlace x.graph.workers f t) 0 (x.links.length - 1) = true := by simpa using h
  have hb := Go.Sx.within_iff.1 hw
  have hk : (linkPlace x.graph.workers f t).toNat < x.links.length := by omega
  have hle := GCluster.link_le hx hk
  have hq : (x.links.getD (linkPlace x.graph.workers f t).toNat default).queue.length ≤ 1048576 := by simp only [GLink.w] at hle; omega
  have ho := ox.2.2.1.2 _ (getD_mem (d := default) hk)
  have d1 : inR .i64 ((x.links.getD (linkPlace x.graph.workers f t).toNat default).queue.length : Int) := by show _ ∧ _; omega
  have e1 := dec_size d1
  have e2 := dec_size ho.2.2.1
  have e3 := dec_size ho.2.2.2.1
  (repeat (refine ⟨by first | omega | (simp only [ByteArray.size_append, bsz, List.size_toArray, List.length_cons, List.length_nil]; omega) | (show _ ∧ _; omega) | (simp only [Int.toNat_natCast]; first | omega | (show _ ∧ _; omega)) | decide, ?_⟩; conv => whnf))
  first | (refine drawI 5 rfl [0, 1, 2, 5, 6, 10, 11, 3, 4, 7, 8, 9, 12, 13, 14] (by kernel_rfl) (go tbl_ok false ?_); conv => whnf)
  repeat' (first | (refine ite_f (by first | with_reducible rfl | assumption) ?_; conv => whnf) | (refine ite_t (by first | with_reducible rfl | assumption) ?_; conv => whnf) | (refine ⟨fun h => ?_, fun h => ?_⟩ <;> conv => whnf) | (refine callR (specDecimal _ d1) rfl (go tbl_ok false ?_); conv => whnf) | (refine callR (specDecimal _ ho.2.2.1) rfl (go tbl_ok false ?_); conv => whnf) | (refine callR (specDecimal _ ho.2.2.2.1) rfl (go tbl_ok false ?_); conv => whnf) | (refine ⟨by first | omega | (simp only [ByteArray.size_append, bsz, List.size_toArray, List.length_cons, List.length_nil]; omega) | (show _ ∧ _; omega) | (simp only [Int.toNat_natCast]; first | omega | (show _ ∧ _; omega)) | decide, ?_⟩; conv => whnf) | fail)
  exact retW tbl_ok rfl rfl ⟨congrArg vs (by rw [linkLine, if_pos hw]), trivial⟩

theorem implLinkLine (x : GCluster) (f t : Int) (hx : x.w ≤ 1048576) (ox : x.ok) : MeetsT Tryd.prog Tab 17 [.agg x.c, .one (vi f), .one (vi t)] [.one (vs (linkLine x f t))] := by
  have hl := GCluster.links_le hx
  refine enterT tbl_ok false Tryd.func17 rfl (by decide) fun W hW => ?_
  conv => whnf
  have hi := linkPlace_inR x.graph.workers f t
  repeat' (first | (refine ite_f (by first | with_reducible rfl | assumption) ?_; conv => whnf) | (refine ite_t (by first | with_reducible rfl | assumption) ?_; conv => whnf) | (refine ⟨fun h => ?_, fun h => ?_⟩ <;> conv => whnf) | (refine callR (implLinkPlace x.graph f t) rfl (go tbl_ok false ?_); conv => whnf) | (refine callR (implIn _ _ _) rfl (go tbl_ok false ?_); conv => whnf) | (refine ⟨by first | omega | (simp only [ByteArray.size_append, bsz, List.size_toArray, List.length_cons, List.length_nil]; omega) | (show _ ∧ _; omega) | (simp only [Int.toNat_natCast]; first | omega | (show _ ∧ _; omega)) | decide, ?_⟩; conv => whnf) | fail)
  · exact retW tbl_ok rfl rfl ⟨congrArg vs (by rw [linkLine, if_neg]; simpa using h), trivial⟩
  have hw : within (linkPlace x.graph.workers f t) 0 (x.links.length - 1) = true := by simpa using h
  have hb := Go.Sx.within_iff.1 hw
  have hk : (linkPlace x.graph.workers f t).toNat < x.links.length := by omega
  have hle := GCluster.link_le hx hk
  have hq : (x.links.getD (linkPlace x.graph.workers f t).toNat default).queue.length ≤ 1048576 := by simp only [GLink.w] at hle; omega
  have ho := ox.2.2.1.2 _ (getD_mem (d := default) hk)
  have d1 : inR .i64 ((x.links.getD (linkPlace x.graph.workers f t).toNat default).queue.length : Int) := by show _ ∧ _; omega
  have e1 := dec_size d1
  have e2 := dec_size ho.2.2.1
  have e3 := dec_size ho.2.2.2.1
  (repeat (refine ⟨by first | omega | (simp only [ByteArray.size_append, bsz, List.size_toArray, List.length_cons, List.length_nil]; omega) | (show _ ∧ _; omega) | (simp only [Int.toNat_natCast]; first | omega | (show _ ∧ _; omega)) | decide, ?_⟩; conv => whnf))
  first | (refine drawI 5 rfl [0, 1, 2, 5, 6, 10, 11, 3, 4, 7, 8, 9, 12, 13, 14] (by kernel_rfl) (go tbl_ok false ?_); conv => whnf)
  repeat' (first | (refine ite_f (by first | with_reducible rfl | assumption) ?_; conv => whnf) | (refine ite_t (by first | with_reducible rfl | assumption) ?_; conv => whnf) | (refine ⟨fun h => ?_, fun h => ?_⟩ <;> conv => whnf) | (refine callRT (implDecimal _ d1) tabStays hW rfl (go tbl_ok false ?_); conv => whnf) | (refine callRT (implDecimal _ ho.2.2.1) tabStays hW rfl (go tbl_ok false ?_); conv => whnf) | (refine callRT (implDecimal _ ho.2.2.2.1) tabStays hW rfl (go tbl_ok false ?_); conv => whnf) | (refine ⟨by first | omega | (simp only [ByteArray.size_append, bsz, List.size_toArray, List.length_cons, List.length_nil]; omega) | (show _ ∧ _; omega) | (simp only [Int.toNat_natCast]; first | omega | (show _ ∧ _; omega)) | decide, ?_⟩; conv => whnf) | fail)
  exact retW tbl_ok rfl rfl ⟨congrArg vs (by rw [linkLine, if_pos hw]), trivial⟩

end Go.Proofs.YthnemokfcnejkaaDoor
