/- Texts for the law FnSchedules: WRounds. No conditions. -/
import Derived.Test.YtcpjpkcahnldfaaWNames

set_option maxRecDepth 100000
namespace Go.Proofs.Ytcpjpkcahnldfaa
open Go.Sx
theorem specOwnerOf (key n : Int) (hn : n ≤ 9223372036854775807) : Meets Try.prog 32 [.one (vi key), .one (vi n)] [.one (vi (ownerOf key n))] := by
  refine enterW tbl_ok false Try.func32 rfl (by decide) fun W => ?_
  conv => whnf
  refine ⟨fun h => have h := of_decide_eq_true h; ?_, fun h => have h := of_decide_eq_false h; ?_⟩ <;> conv => whnf
  · exact retW tbl_ok rfl rfl ⟨congrArg vi (by rw [ownerOf, if_pos h]), trivial⟩
  have h1 := Int.tmod_lt_of_pos key (show 0 < n by omega)
  have h2 := Int.lt_tmod_of_pos key (show 0 < n by omega)
  (repeat (refine ⟨by first | omega | (simp only [ByteArray.size_append, bsz, List.size_toArray, List.length_cons, List.length_nil]; omega) | (show _ ∧ _; omega) | (simp only [Int.toNat_natCast]; first | omega | (show _ ∧ _; omega)) | decide, ?_⟩; conv => whnf))
  refine ⟨fun h' => have h' := of_decide_eq_true h'; ?_, fun h' => have h' := of_decide_eq_false h'; ?_⟩ <;> conv => whnf
  · (repeat (refine ⟨by first | omega | (simp only [ByteArray.size_append, bsz, List.size_toArray, List.length_cons, List.length_nil]; omega) | (show _ ∧ _; omega) | (simp only [Int.toNat_natCast]; first | omega | (show _ ∧ _; omega)) | decide, ?_⟩; conv => whnf))
    exact retW tbl_ok rfl rfl ⟨congrArg vi (by rw [ownerOf, if_neg h, if_pos h']), trivial⟩
  · exact retW tbl_ok rfl rfl ⟨congrArg vi (by rw [ownerOf, if_neg h, if_neg h']), trivial⟩

theorem implOwnerOf (key n : Int) (hn : n ≤ 9223372036854775807) : Meets Try.prog 31 [.one (vi key), .one (vi n)] [.one (vi (ownerOf key n))] := by
  refine enterW tbl_ok false Try.func31 rfl (by decide) fun W => ?_
  conv => whnf
  refine ⟨fun h => have h := of_decide_eq_true h; ?_, fun h => have h := of_decide_eq_false h; ?_⟩ <;> conv => whnf
  · exact retW tbl_ok rfl rfl ⟨congrArg vi (by rw [ownerOf, if_pos h]), trivial⟩
  have h1 := Int.tmod_lt_of_pos key (show 0 < n by omega)
  have h2 := Int.lt_tmod_of_pos key (show 0 < n by omega)
  (repeat (refine ⟨by first | omega | (simp only [ByteArray.size_append, bsz, List.size_toArray, List.length_cons, List.length_nil]; omega) | (show _ ∧ _; omega) | (simp only [Int.toNat_natCast]; first | omega | (show _ ∧ _; omega)) | decide, ?_⟩; conv => whnf))
  refine ⟨fun h' => have h' := of_decide_eq_true h'; ?_, fun h' => have h' := of_decide_eq_false h'; ?_⟩ <;> conv => whnf
  · (repeat (refine ⟨by first | omega | (simp only [ByteArray.size_append, bsz, List.size_toArray, List.length_cons, List.length_nil]; omega) | (show _ ∧ _; omega) | (simp only [Int.toNat_natCast]; first | omega | (show _ ∧ _; omega)) | decide, ?_⟩; conv => whnf))
    exact retW tbl_ok rfl rfl ⟨congrArg vi (by rw [ownerOf, if_neg h, if_pos h']), trivial⟩
  · exact retW tbl_ok rfl rfl ⟨congrArg vi (by rw [ownerOf, if_neg h, if_neg h']), trivial⟩

def rr (n m : Nat) : List GPick := (List.range m).flatMap fun _ => allP n
theorem rr_succ (n k : Nat) : rr n (k + 1) = rr n k ++ allP n := flatMap_succ _ _
theorem rr_len (n k : Nat) (hn : n ≤ 4) : (rr n k).length ≤ 52 * k := by
  induction k with
  | zero => exact Nat.le_refl _
  | succ k ih => rw [rr_succ, List.length_append]; have := allP_len n hn; omega

theorem specRoundRobin (x : GCluster) (r : Int) : Meets Try.prog 9 [.agg x.c, .one (vi r)] [.one (sGPick (rr (pN x) (brought r 0 40).toNat))] := by
  have hb := brought_range r 0 40 (by decide)
  obtain ⟨n, hn⟩ : ∃ n : Nat, brought r 0 40 = n := ⟨(brought r 0 40).toNat, by omega⟩
  refine enterW tbl_ok false Try.func9 rfl (by decide) fun W => ?_
  conv => whnf
  refine callR (specBrought r 0 40) rfl (go tbl_ok false ?_)
  conv => whnf
  rw [hn]
  refine castW 1 (sGPick []) rfl nil_cast ?_
  refine loopW tbl_ok false [7] (fun k : Nat => [(6, .c (vi (n - k)))]) (fun k => [⟨0, [.c (sGNode x.graph.nodes), .c (vi x.graph.workers), .c (vi x.graph.cap), .c (sGWorker x.workers), .c (sGLink x.links), .c (sGToken x.tokens), .c (sGNews x.news)]⟩]) (fun k => [⟨1, sGPick (rr (pN x) k)⟩])
    (fun k => k ≤ n) (fun k => n - k) 0 (Nat.zero_le _) ⟨by first | rfl | simp [nth, ren2, ren1, ren0], trivial⟩ (by repeat' (first | exact trivial | exact rfl | refine ⟨?_, ?_⟩)) ⟨by first | rfl | exact (congrArg (fun l => slC _ _ l) (List.append_nil _)).symm | (show (_ : Cell) = _; simp) | simp, trivial⟩ trivial (by kernel_rfl) (fun k hk => ?_)
  conv => whnf
  refine ⟨fun h => have h := of_decide_eq_true h; ?_, fun h => have h := of_decide_eq_false h; ?_⟩ <;> conv => whnf
  · have h : k < n := by omega
    have hl := rr_len (pN x) k (pN_le x)
    have ha := allP_len (pN x) (pN_le x)
    (repeat (refine ⟨by first | omega | (simp only [ByteArray.size_append, bsz, List.size_toArray, List.length_cons, List.length_nil]; omega) | (show _ ∧ _; omega) | (simp only [Int.toNat_natCast]; first | omega | (show _ ∧ _; omega)) | decide, ?_⟩; conv => whnf))
    refine callW (show Meets Try.prog 7 [.agg x.c] [.one (sGPick (allP (pN x)))] from specAllPicks x) rfl (go tbl_ok false ?_)
    conv => whnf
    refine appW tbl_ok rfl rfl rfl rfl rfl rfl rfl rfl rfl rfl rfl (sGPick (rr (pN x) k ++ allP (pN x))) (slC_app 3 GPick.c (rr (pN x) k) (allP (pN x))) (by intro h; cases h) (by omega) (go tbl_ok false ?_)
    conv => whnf
    (repeat (refine ⟨by first | omega | (simp only [ByteArray.size_append, bsz, List.size_toArray, List.length_cons, List.length_nil]; omega) | (show _ ∧ _; omega) | (simp only [Int.toNat_natCast]; first | omega | (show _ ∧ _; omega)) | decide, ?_⟩; conv => whnf))
    refine loopE [(1, 3)] (k + 1) (by omega) (by omega) ⟨congrArg (fun n => AV.c (vi n)) (by omega), trivial⟩ ⟨congrArg sGPick (rr_succ (pN x) k).symm, trivial⟩ (by repeat' (first | exact trivial | exact rfl | refine ⟨?_, ?_⟩)) (by kernel_rfl) trivial (by kernel_rfl)
  · refine retW tbl_ok rfl rfl ⟨?_, trivial⟩
    exact congrArg (fun k => sGPick (rr (pN x) k)) (by omega)
theorem implRoundRobin (x : GCluster) (r : Int) : Meets Try.prog 6 [.agg x.c, .one (vi r)] [.one (sGPick (rr (pN x) (brought r 0 40).toNat))] := by
  have hb := brought_range r 0 40 (by decide)
  obtain ⟨n, hn⟩ : ∃ n : Nat, brought r 0 40 = n := ⟨(brought r 0 40).toNat, by omega⟩
  rw [hn]
  refine enterW tbl_ok false Try.func6 rfl (by decide) fun W => ?_
  conv => whnf
  refine nilW 5 3 (fun i => GPick.c (([] : List GPick).getD i default)) rfl ?_
  refine loopW tbl_ok false [] (fun k : Nat => [(6, .c (vi k))]) (fun k => [⟨0, [.c (sGNode x.graph.nodes), .c (vi x.graph.workers), .c (vi x.graph.cap), .c (sGWorker x.workers), .c (sGLink x.links), .c (sGToken x.tokens), .c (sGNews x.news)]⟩]) (fun k => [⟨1, sGPick (rr (pN x) k)⟩])
    (fun k => k ≤ n) (fun k => n - k) 0 (Nat.zero_le _) ⟨by first | rfl | simp [nth, ren2, ren1, ren0], trivial⟩ (by repeat' (first | exact trivial | exact rfl | refine ⟨?_, ?_⟩)) ⟨by first | rfl | exact (congrArg (fun l => slC _ _ l) (List.append_nil _)).symm | (show (_ : Cell) = _; simp) | simp, trivial⟩ trivial (by kernel_rfl) (fun k hk => ?_)
  conv => whnf
  refine callR (implBrought r 0 40) rfl (go tbl_ok false ?_)
  conv => whnf
  rw [hn]
  refine ⟨fun h => have h := of_decide_eq_true h; ?_, fun h => have h := of_decide_eq_false h; ?_⟩ <;> conv => whnf
  · have h : k < n := by omega
    have hl := rr_len (pN x) k (pN_le x)
    have ha := allP_len (pN x) (pN_le x)
    (repeat (refine ⟨by first | omega | (simp only [ByteArray.size_append, bsz, List.size_toArray, List.length_cons, List.length_nil]; omega) | (show _ ∧ _; omega) | (simp only [Int.toNat_natCast]; first | omega | (show _ ∧ _; omega)) | decide, ?_⟩; conv => whnf))
    refine callW (show Meets Try.prog 27 [.agg x.c] [.one (sGPick (allP (pN x)))] from implAllPicks x) rfl (go tbl_ok false ?_)
    conv => whnf
    refine appW tbl_ok rfl rfl rfl rfl rfl rfl rfl rfl rfl rfl rfl (sGPick (rr (pN x) k ++ allP (pN x))) (slC_app 3 GPick.c (rr (pN x) k) (allP (pN x))) (by intro h; cases h) (by omega) (go tbl_ok false ?_)
    conv => whnf
    (repeat (refine ⟨by first | omega | (simp only [ByteArray.size_append, bsz, List.size_toArray, List.length_cons, List.length_nil]; omega) | (show _ ∧ _; omega) | (simp only [Int.toNat_natCast]; first | omega | (show _ ∧ _; omega)) | decide, ?_⟩; conv => whnf))
    refine loopE [(1, 3)] (k + 1) (by omega) (by omega) ⟨rfl, trivial⟩ ⟨congrArg sGPick (rr_succ (pN x) k).symm, trivial⟩ (by repeat' (first | exact trivial | exact rfl | refine ⟨?_, ?_⟩)) (by kernel_rfl) trivial (by kernel_rfl)
  · refine retW tbl_ok rfl rfl ⟨?_, trivial⟩
    exact congrArg (fun k => sGPick (rr (pN x) k)) (show k = (n : Int).toNat by omega)

def pf (n : Nat) (ns : List Int) : List GPick := ns.map fun m => (allP n).getD (ownerOf m (allP n).length).toNat default
theorem pf_take (n : Nat) (ns : List Int) (k : Nat) (h : k < ns.length) : pf n (ns.take (k + 1)) = pf n (ns.take k) ++ [(allP n).getD (ownerOf (ns.getD k default) (allP n).length).toNat default] := map_take _ _ _ h
theorem pf_len (n : Nat) (ns : List Int) : (pf n ns).length = ns.length := by simp [pf]
theorem allP_pos (n : Nat) : 0 < (allP n).length := by simp only [allP, List.length_append, pE_len]; omega

theorem specPicksFrom (x : GCluster) (ns : List Int) (hx : ns.length ≤ 1048576) : Meets Try.prog 16 [.agg x.c, .one (sInt ns)] [.one (sGPick (pf (pN x) ns))] := by
  have ha := allP_len (pN x) (pN_le x)
  have hp := allP_pos (pN x)
  refine enterW tbl_ok false Try.func16 rfl (by decide) fun W => ?_
  conv => whnf
  refine callW (show Meets Try.prog 7 [.agg x.c] [.one (sGPick (allP (pN x)))] from specAllPicks x) rfl (go tbl_ok false ?_)
  conv => whnf
  refine castW 1 (sGPick []) rfl nil_cast ?_
  refine loopW tbl_ok false [8] (fun k : Nat => [(7, .c (vi k))]) (fun k => []) (fun k => [⟨1, sGPick (pf (pN x) (ns.take k))⟩, ⟨2, sGPick (allP (pN x))⟩])
    (fun k => k ≤ ns.length) (fun k => ns.length - k) 0 (Nat.zero_le _) ⟨by first | rfl | simp [nth, ren2, ren1, ren0], trivial⟩ trivial ⟨by first | rfl | exact (congrArg (fun l => slC _ _ l) (List.append_nil _)).symm | (show (_ : Cell) = _; simp) | simp, by first | rfl | exact (congrArg (fun l => slC _ _ l) (List.append_nil _)).symm | (show (_ : Cell) = _; simp) | simp, trivial⟩ trivial (by kernel_rfl) (fun k hk => ?_)
  conv => whnf
  refine ⟨fun h => have h := of_decide_eq_true h; ?_, fun h => have h := of_decide_eq_false h; ?_⟩ <;> conv => whnf
  · have h : k < ns.length := by omega
    have ht := pf_take (pN x) ns k h
    have hl := pf_len (pN x) (ns.take k)
    have hm : (ns.take k).length ≤ k := List.length_take_le _ _
    have hr := ownerOf_range (ns.getD k default) (allP (pN x)).length (by omega)
    repeat' (first | (refine ite_f (by first | with_reducible rfl | assumption) ?_; conv => whnf) | (refine ite_t (by first | with_reducible rfl | assumption) ?_; conv => whnf) | (refine ⟨fun h => ?_, fun h => ?_⟩ <;> conv => whnf) | (refine ⟨by first | omega | (simp only [ByteArray.size_append, bsz, List.size_toArray, List.length_cons, List.length_nil]; omega) | (show _ ∧ _; omega) | (simp only [Int.toNat_natCast]; first | omega | (show _ ∧ _; omega)) | decide, ?_⟩; conv => whnf) | fail)
    · refine callR (specOwnerOf (ns.getD k default) (allP (pN x)).length (by omega)) rfl (go tbl_ok false ?_)
      conv => whnf
      (repeat (refine ⟨by first | omega | (simp only [ByteArray.size_append, bsz, List.size_toArray, List.length_cons, List.length_nil]; omega) | (show _ ∧ _; omega) | (simp only [Int.toNat_natCast]; first | omega | (show _ ∧ _; omega)) | decide, ?_⟩; conv => whnf))
      refine appW tbl_ok rfl rfl rfl rfl rfl rfl rfl rfl rfl rfl rfl (sGPick (pf (pN x) (ns.take k) ++ [(allP (pN x)).getD (ownerOf (ns.getD k default) (allP (pN x)).length).toNat default])) (slC_snoc rfl) (by intro h; cases h) (by omega) (go tbl_ok false ?_)
      conv => whnf
      (repeat (refine ⟨by first | omega | (simp only [ByteArray.size_append, bsz, List.size_toArray, List.length_cons, List.length_nil]; omega) | (show _ ∧ _; omega) | (simp only [Int.toNat_natCast]; first | omega | (show _ ∧ _; omega)) | decide, ?_⟩; conv => whnf))
      refine loopE [(1, 4)] (k + 1) (by omega) (by omega) ⟨rfl, trivial⟩ ⟨congrArg sGPick ht.symm, rfl, trivial⟩ trivial (by kernel_rfl) trivial (by kernel_rfl)
    · exact absurd (of_decide_eq_false h) (by omega)
  · repeat' (first | (refine ite_f (by first | with_reducible rfl | assumption) ?_; conv => whnf) | (refine ite_t (by first | with_reducible rfl | assumption) ?_; conv => whnf) | (refine ⟨fun h => ?_, fun h => ?_⟩ <;> conv => whnf) | (refine ⟨by first | omega | (simp only [ByteArray.size_append, bsz, List.size_toArray, List.length_cons, List.length_nil]; omega) | (show _ ∧ _; omega) | (simp only [Int.toNat_natCast]; first | omega | (show _ ∧ _; omega)) | decide, ?_⟩; conv => whnf) | fail)
    refine retW tbl_ok rfl rfl ⟨?_, trivial⟩
    exact congrArg (fun l => sGPick (pf (pN x) l)) (take_all ns k (by omega))
theorem implPicksFrom (x : GCluster) (ns : List Int) (hx : ns.length ≤ 1048576) : Meets Try.prog 15 [.agg x.c, .one (sInt ns)] [.one (sGPick (pf (pN x) ns))] := by
  have ha := allP_len (pN x) (pN_le x)
  have hp := allP_pos (pN x)
  refine enterW tbl_ok false Try.func15 rfl (by decide) fun W => ?_
  conv => whnf
  refine callW (show Meets Try.prog 27 [.agg x.c] [.one (sGPick (allP (pN x)))] from implAllPicks x) rfl (go tbl_ok false ?_)
  conv => whnf
  refine nilW 6 3 (fun i => GPick.c (([] : List GPick).getD i default)) rfl ?_
  refine loopW tbl_ok false [] (fun k : Nat => [(13, .c (vi k))]) (fun k => []) (fun k => [⟨2, sGPick (pf (pN x) (ns.take k))⟩, ⟨1, sGPick (allP (pN x))⟩])
    (fun k => k ≤ ns.length) (fun k => ns.length - k) 0 (Nat.zero_le _) ⟨by first | rfl | simp [nth, ren2, ren1, ren0], trivial⟩ trivial ⟨by first | rfl | exact (congrArg (fun l => slC _ _ l) (List.append_nil _)).symm | (show (_ : Cell) = _; simp) | simp, by first | rfl | exact (congrArg (fun l => slC _ _ l) (List.append_nil _)).symm | (show (_ : Cell) = _; simp) | simp, trivial⟩ trivial (by kernel_rfl) (fun k hk => ?_)
  conv => whnf
  refine ⟨fun h => have h := of_decide_eq_true h; ?_, fun h => have h := of_decide_eq_false h; ?_⟩ <;> conv => whnf
  · have h : k < ns.length := by omega
    have ht := pf_take (pN x) ns k h
    have hl := pf_len (pN x) (ns.take k)
    have hm : (ns.take k).length ≤ k := List.length_take_le _ _
    have hr := ownerOf_range (ns.getD k default) (allP (pN x)).length (by omega)
    (repeat (refine ⟨by first | omega | (simp only [ByteArray.size_append, bsz, List.size_toArray, List.length_cons, List.length_nil]; omega) | (show _ ∧ _; omega) | (simp only [Int.toNat_natCast]; first | omega | (show _ ∧ _; omega)) | decide, ?_⟩; conv => whnf))
    refine callR (implOwnerOf (ns.getD k default) (allP (pN x)).length (by omega)) rfl (go tbl_ok false ?_)
    conv => whnf
    (repeat (refine ⟨by first | omega | (simp only [ByteArray.size_append, bsz, List.size_toArray, List.length_cons, List.length_nil]; omega) | (show _ ∧ _; omega) | (simp only [Int.toNat_natCast]; first | omega | (show _ ∧ _; omega)) | decide, ?_⟩; conv => whnf))
    refine appW tbl_ok rfl rfl rfl rfl rfl rfl rfl rfl rfl rfl rfl (sGPick (pf (pN x) (ns.take k) ++ [(allP (pN x)).getD (ownerOf (ns.getD k default) (allP (pN x)).length).toNat default])) (slC_snoc rfl) (by intro h; cases h) (by omega) (go tbl_ok false ?_)
    conv => whnf
    (repeat (refine ⟨by first | omega | (simp only [ByteArray.size_append, bsz, List.size_toArray, List.length_cons, List.length_nil]; omega) | (show _ ∧ _; omega) | (simp only [Int.toNat_natCast]; first | omega | (show _ ∧ _; omega)) | decide, ?_⟩; conv => whnf))
    refine loopE [(2, 4)] (k + 1) (by omega) (by omega) ⟨rfl, trivial⟩ ⟨congrArg sGPick ht.symm, rfl, trivial⟩ trivial (by kernel_rfl) trivial (by kernel_rfl)
  · refine retW tbl_ok rfl rfl ⟨?_, trivial⟩
    exact congrArg (fun l => sGPick (pf (pN x) l)) (take_all ns k (by omega))

end Go.Proofs.Ytcpjpkcahnldfaa
