/- Texts for the law FnSchedules: WClN2. No conditions. -/
import Derived.Test.YtcpjpkcahnldfaaWGr
import Derived.Test.YtcpjpkcahnldfaaWClN
import Derived.Test.YtcpjpkcahnldfaaWCur

set_option maxRecDepth 100000
namespace Go.Proofs.Ytcpjpkcahnldfaa
open Go.Sx
theorem specCopyGraph (x : GGraph) (h : x.w ≤ 1048576) : Meets Try.prog 38 [.agg x.c] [.agg x.c] := by
  have h : x.nodes.length + (x.nodes.map GNode.w).sum ≤ 1048576 := h
  refine enterW tbl_ok false Try.func38 rfl (by decide) fun W => ?_
  conv => whnf
  refine castW 3 (sGNode []) rfl nil_cast ?_
  refine loopW tbl_ok false [7] (fun k : Nat => [(4, .c (vi k))]) (fun _ => [⟨0, [.c (sGNode x.nodes), .c (vi x.workers), .c (vi x.cap)]⟩, ⟨2, [.own 3, .c (vi x.workers), .c (vi x.cap)]⟩, ⟨1, [.any, .any, .any]⟩]) (fun k => [⟨3, sGNode (x.nodes.take k)⟩])
    (fun k => k ≤ x.nodes.length) (fun k => x.nodes.length - k) 0 (Nat.zero_le _) ⟨rfl, trivial⟩ (by repeat' (first | exact trivial | exact rfl | refine ⟨?_, ?_⟩)) ⟨rfl, trivial⟩ trivial (by kernel_rfl) (fun k hk => ?_)
  conv => whnf
  refine ⟨fun h => have h := of_decide_eq_true h; ?_, fun h => have h := of_decide_eq_false h; ?_⟩ <;> conv => whnf
  · have h : k < x.nodes.length := by omega
    have hle := wS_take_le GNode.w x.nodes k h
    have ho : (x.nodes.getD k default).outs.length ≤ 1048576 := by simp only [GNode.w] at hle; omega
    (repeat (refine ⟨by first | omega | (simp only [ByteArray.size_append, bsz, List.size_toArray, List.length_cons, List.length_nil]; omega) | (show _ ∧ _; omega) | (simp only [Int.toNat_natCast]; first | omega | (show _ ∧ _; omega)) | decide, ?_⟩; conv => whnf))
    refine appW tbl_ok rfl rfl rfl rfl rfl rfl rfl rfl rfl rfl rfl (sInt (x.nodes.getD k default).outs) (nil_app) (fun _ => flat_ints _) (by first | omega | (simp only [Int.toNat_natCast]; omega)) (go tbl_ok false ?_)
    conv => whnf
    refine buildW tbl_ok rfl rfl rfl rfl rfl rfl rfl rfl rfl (go tbl_ok false ?_)
    conv => whnf
    refine appW tbl_ok rfl rfl rfl rfl rfl rfl rfl rfl rfl rfl rfl (sGNode (x.nodes.take k ++ [x.nodes.getD k default])) (slC_snoc rfl) (by intro h; cases h) (by simp only [List.length_take]; omega) (go tbl_ok false ?_)
    conv => whnf
    (repeat (refine ⟨by first | omega | (simp only [ByteArray.size_append, bsz, List.size_toArray, List.length_cons, List.length_nil]; omega) | (show _ ∧ _; omega) | (simp only [Int.toNat_natCast]; first | omega | (show _ ∧ _; omega)) | decide, ?_⟩; conv => whnf))
    refine loopE [(3, 8)] (k + 1) (by omega) (by omega) ⟨rfl, trivial⟩ ⟨?_, trivial⟩ (by repeat' (first | exact trivial | exact rfl | refine ⟨?_, ?_⟩)) (by kernel_rfl) trivial (by kernel_rfl)
    exact congrArg sGNode (take_snoc x.nodes k h).symm
  · refine retW tbl_ok rfl rfl ⟨⟨?_, rfl, rfl, trivial⟩, trivial⟩
    exact congrArg sGNode (take_all _ _ (by omega))

structure JCl where
  k : Nat
  j : Nat
  ws : List GWorker
  ls : List GLink

theorem mk4_token : (Cell.sl 4 5 fun _ => [.val (.bool false), .val (.int .i64 0), .val (.int .i64 0), .val (.bool false), .val (.bool false)]) = sGToken (List.replicate 4 default) := congrArg (Cell.sl 4 5) (funext fun i => by rw [getD_rep (default : GToken) 4 i rfl]; rfl)

theorem clusterNew0 (g : GGraph) (hg : g.w ≤ 1048576) : MeetsC Try.prog HT 22 [] [] [.agg g.c, .one (sGRecord [])] (fun _ : GCluster × Bool => True) (fun r => [.agg r.1.c, .one (vb r.2)]) := by
  refine enterC tbl_ok false Try.func22 rfl (by decide) fun B hH hp => ?_
  conv => whnf
  refine callR (specGraphOk g hg) rfl (go tbl_ok false ?_)
  conv => whnf
  refine ⟨fun hok => ?_, fun hok => ?_⟩ <;> conv => whnf
  · repeat' (first | (refine ite_f (by first | with_reducible rfl | assumption) ?_; conv => whnf) | (refine ite_t (by first | with_reducible rfl | assumption) ?_; conv => whnf) | (refine ⟨fun h => ?_, fun h => ?_⟩ <;> conv => whnf) | (refine ⟨by first | omega | (simp only [ByteArray.size_append, bsz, List.size_toArray, List.length_cons, List.length_nil]; omega) | (show _ ∧ _; omega) | (simp only [Int.toNat_natCast]; first | omega | (show _ ∧ _; omega)) | decide, ?_⟩; conv => whnf) | fail)
    exact retC tbl_ok (⟨⟨[], 0, 0⟩, [], [], [], []⟩, false) trivial rfl rfl (by repeat' (first | exact trivial | exact outC_val _ _ | exact rfl | exact .inr ⟨rfl, rfl, _, _, rfl⟩ | refine ⟨?_, ?_⟩))
  · have hp1 : GraphP g := by simpa [graphOk] using hok
    obtain ⟨_, hw1, hw2, _⟩ := hp1
    repeat' (first | (refine ite_f (by first | with_reducible rfl | assumption) ?_; conv => whnf) | (refine ite_t (by first | with_reducible rfl | assumption) ?_; conv => whnf) | (refine ⟨fun h => ?_, fun h => ?_⟩ <;> conv => whnf) | (refine ⟨by first | omega | (simp only [ByteArray.size_append, bsz, List.size_toArray, List.length_cons, List.length_nil]; omega) | (show _ ∧ _; omega) | (simp only [Int.toNat_natCast]; first | omega | (show _ ∧ _; omega)) | decide, ?_⟩; conv => whnf) | fail)
    · exact retC tbl_ok (⟨⟨[], 0, 0⟩, [], [], [], []⟩, false) trivial rfl rfl (by repeat' (first | exact trivial | exact outC_val _ _ | exact rfl | exact .inr ⟨rfl, rfl, _, _, rfl⟩ | refine ⟨?_, ?_⟩))
    refine loopW tbl_ok false [] (fun k : Nat => [(6, .c (vi k))]) (fun k => [⟨0, [.c (sGNode g.nodes), .c (vi g.workers), .c (vi g.cap)]⟩, ⟨1, [.c (.val (.slice none 0 0)), .c (vi 0), .c (vi 0), .c (.val (.slice none 0 0)), .c (.val (.slice none 0 0)), .c (.val (.slice none 0 0)), .c (.val (.slice none 0 0))]⟩]) (fun k => [])
      (fun k => k ≤ 0) (fun k => 0 - k) 0 (Nat.zero_le _) ⟨by first | rfl | simp [nth, ren2, ren1, ren0], trivial⟩ (by repeat' (first | exact trivial | exact rfl | refine ⟨?_, ?_⟩)) trivial trivial (by kernel_rfl) (fun k hk => ?_)
    conv => whnf
    refine ite_f (by first | with_reducible rfl | assumption | (simp only [decide_eq_false_iff_not]; omega) | simp) ?_
    conv => whnf
    refine bumpW 3 ?_
    refine cutW tbl_ok false (J := Unit) [49, 50, 51, 52] (fun _ => [(7, .box 2 0)]) (fun _ => [⟨2, [.own 3, .c (vi g.workers), .c (vi g.cap), .c (.val (.slice none 0 0)), .c (.val (.slice none 0 0)), .own 4, .c (.val (.slice none 0 0))]⟩, ⟨0, [.c (sGNode g.nodes), .c (vi g.workers), .c (vi g.cap)]⟩, ⟨1, [.c (.val (.slice none 0 0)), .c (vi 0), .c (vi 0), .c (.val (.slice none 0 0)), .c (.val (.slice none 0 0)), .c (.val (.slice none 0 0)), .c (.val (.slice none 0 0))]⟩]) (fun _ => [⟨3, sGNode g.nodes⟩, ⟨4, sGToken (List.replicate 4 default)⟩]) (fun _ => True) ?_ (fun _ _ => ?_)
    · conv => whnf
      refine drawA rfl ?_
      refine splitA [0, 2, 4] (by kernel_rfl) ⟨?_, ?_, ?_, trivial⟩
      focus
        refine go tbl_ok false ?_
        conv => whnf
        refine loopA ?_
        refine splitA [1, 2, 4] (by kernel_rfl) ⟨?_, ?_, ?_, trivial⟩
        focus
          refine go tbl_ok false ?_
          conv => whnf
          refine callW (specCopyGraph g hg) rfl (go tbl_ok false ?_)
          conv => whnf
          refine loopA ?_
          refine splitA [2, 4] (by kernel_rfl) ⟨?_, ?_, trivial⟩
          focus
            refine go tbl_ok false ?_
            conv => whnf
            (repeat (refine ⟨by first | omega | (simp only [ByteArray.size_append, bsz, List.size_toArray, List.length_cons, List.length_nil]; omega) | (show _ ∧ _; omega) | (simp only [Int.toNat_natCast]; first | omega | (show _ ∧ _; omega)) | decide, ?_⟩; conv => whnf))
            refine loopA ?_
            refine splitA [3, 4] (by kernel_rfl) ⟨?_, ?_, trivial⟩
            focus
              refine go tbl_ok false ?_
              conv => whnf
              refine loopA ?_
              refine splitA [4] (by kernel_rfl) ⟨?_, trivial⟩
              refine go tbl_ok false ?_
              conv => whnf
              refine loopA ?_
              refine splitA [5] (by kernel_rfl) ⟨?_, trivial⟩
              refine go tbl_ok false ?_
              conv => whnf
              refine loopA ?_
              refine doneA (by kernel_rfl) (go tbl_ok false ?_)
              conv => whnf
            rotate_left 1
            focus
              refine go tbl_ok false ?_
              conv => whnf
              refine loopA ?_
              refine splitA [3] (by kernel_rfl) ⟨?_, trivial⟩
              refine go tbl_ok false ?_
              conv => whnf
              refine loopA ?_
              refine splitA [5] (by kernel_rfl) ⟨?_, trivial⟩
              refine go tbl_ok false ?_
              conv => whnf
              refine loopA ?_
              refine doneA (by kernel_rfl) (go tbl_ok false ?_)
              conv => whnf
          rotate_left 2
          focus
            refine go tbl_ok false ?_
            conv => whnf
            refine loopA ?_
            refine splitA [2] (by kernel_rfl) ⟨?_, trivial⟩
            refine go tbl_ok false ?_
            conv => whnf
            (repeat (refine ⟨by first | omega | (simp only [ByteArray.size_append, bsz, List.size_toArray, List.length_cons, List.length_nil]; omega) | (show _ ∧ _; omega) | (simp only [Int.toNat_natCast]; first | omega | (show _ ∧ _; omega)) | decide, ?_⟩; conv => whnf))
            refine loopA ?_
            refine splitA [3] (by kernel_rfl) ⟨?_, trivial⟩
            refine go tbl_ok false ?_
            conv => whnf
            refine loopA ?_
            refine splitA [5] (by kernel_rfl) ⟨?_, trivial⟩
            refine go tbl_ok false ?_
            conv => whnf
            refine loopA ?_
            refine doneA (by kernel_rfl) (go tbl_ok false ?_)
            conv => whnf
        rotate_left 3
        focus
          refine go tbl_ok false ?_
          conv => whnf
          (repeat (refine ⟨by first | omega | (simp only [ByteArray.size_append, bsz, List.size_toArray, List.length_cons, List.length_nil]; omega) | (show _ ∧ _; omega) | (simp only [Int.toNat_natCast]; first | omega | (show _ ∧ _; omega)) | decide, ?_⟩; conv => whnf))
          refine loopA ?_
          refine splitA [1, 4] (by kernel_rfl) ⟨?_, ?_, trivial⟩
          focus
            refine go tbl_ok false ?_
            conv => whnf
            refine callW (specCopyGraph g hg) rfl (go tbl_ok false ?_)
            conv => whnf
            refine loopA ?_
            refine splitA [3, 4] (by kernel_rfl) ⟨?_, ?_, trivial⟩
            focus
              refine go tbl_ok false ?_
              conv => whnf
              refine loopA ?_
              refine splitA [4] (by kernel_rfl) ⟨?_, trivial⟩
              refine go tbl_ok false ?_
              conv => whnf
              refine loopA ?_
              refine splitA [5] (by kernel_rfl) ⟨?_, trivial⟩
              refine go tbl_ok false ?_
              conv => whnf
              refine loopA ?_
              refine doneA (by kernel_rfl) (go tbl_ok false ?_)
              conv => whnf
            rotate_left 1
            focus
              refine go tbl_ok false ?_
              conv => whnf
              refine loopA ?_
              refine splitA [3] (by kernel_rfl) ⟨?_, trivial⟩
              refine go tbl_ok false ?_
              conv => whnf
              refine loopA ?_
              refine splitA [5] (by kernel_rfl) ⟨?_, trivial⟩
              refine go tbl_ok false ?_
              conv => whnf
              refine loopA ?_
              refine doneA (by kernel_rfl) (go tbl_ok false ?_)
              conv => whnf
          rotate_left 2
          focus
            refine go tbl_ok false ?_
            conv => whnf
            refine loopA ?_
            refine splitA [1] (by kernel_rfl) ⟨?_, trivial⟩
            refine go tbl_ok false ?_
            conv => whnf
            refine callW (specCopyGraph g hg) rfl (go tbl_ok false ?_)
            conv => whnf
            refine loopA ?_
            refine splitA [3] (by kernel_rfl) ⟨?_, trivial⟩
            refine go tbl_ok false ?_
            conv => whnf
            refine loopA ?_
            refine splitA [5] (by kernel_rfl) ⟨?_, trivial⟩
            refine go tbl_ok false ?_
            conv => whnf
            refine loopA ?_
            refine doneA (by kernel_rfl) (go tbl_ok false ?_)
            conv => whnf
        rotate_left 3
        focus
          refine go tbl_ok false ?_
          conv => whnf
          refine loopA ?_
          refine splitA [1, 2] (by kernel_rfl) ⟨?_, ?_, trivial⟩
          focus
            refine go tbl_ok false ?_
            conv => whnf
            refine callW (specCopyGraph g hg) rfl (go tbl_ok false ?_)
            conv => whnf
            refine loopA ?_
            refine splitA [2] (by kernel_rfl) ⟨?_, trivial⟩
            refine go tbl_ok false ?_
            conv => whnf
            (repeat (refine ⟨by first | omega | (simp only [ByteArray.size_append, bsz, List.size_toArray, List.length_cons, List.length_nil]; omega) | (show _ ∧ _; omega) | (simp only [Int.toNat_natCast]; first | omega | (show _ ∧ _; omega)) | decide, ?_⟩; conv => whnf))
            refine loopA ?_
            refine splitA [3] (by kernel_rfl) ⟨?_, trivial⟩
            refine go tbl_ok false ?_
            conv => whnf
            refine loopA ?_
            refine splitA [5] (by kernel_rfl) ⟨?_, trivial⟩
            refine go tbl_ok false ?_
            conv => whnf
            refine loopA ?_
            refine doneA (by kernel_rfl) (go tbl_ok false ?_)
            conv => whnf
          rotate_left 1
          focus
            refine go tbl_ok false ?_
            conv => whnf
            (repeat (refine ⟨by first | omega | (simp only [ByteArray.size_append, bsz, List.size_toArray, List.length_cons, List.length_nil]; omega) | (show _ ∧ _; omega) | (simp only [Int.toNat_natCast]; first | omega | (show _ ∧ _; omega)) | decide, ?_⟩; conv => whnf))
            refine loopA ?_
            refine splitA [1] (by kernel_rfl) ⟨?_, trivial⟩
            refine go tbl_ok false ?_
            conv => whnf
            refine callW (specCopyGraph g hg) rfl (go tbl_ok false ?_)
            conv => whnf
            refine loopA ?_
            refine splitA [3] (by kernel_rfl) ⟨?_, trivial⟩
            refine go tbl_ok false ?_
            conv => whnf
            refine loopA ?_
            refine splitA [5] (by kernel_rfl) ⟨?_, trivial⟩
            refine go tbl_ok false ?_
            conv => whnf
            refine loopA ?_
            refine doneA (by kernel_rfl) (go tbl_ok false ?_)
            conv => whnf
      rotate_left 8
      focus
        refine go tbl_ok false ?_
        conv => whnf
        (repeat (refine ⟨by first | omega | (simp only [ByteArray.size_append, bsz, List.size_toArray, List.length_cons, List.length_nil]; omega) | (show _ ∧ _; omega) | (simp only [Int.toNat_natCast]; first | omega | (show _ ∧ _; omega)) | decide, ?_⟩; conv => whnf))
        refine loopA ?_
        refine splitA [0, 4] (by kernel_rfl) ⟨?_, ?_, trivial⟩
        focus
          refine go tbl_ok false ?_
          conv => whnf
          refine loopA ?_
          refine splitA [1, 4] (by kernel_rfl) ⟨?_, ?_, trivial⟩
          focus
            refine go tbl_ok false ?_
            conv => whnf
            refine callW (specCopyGraph g hg) rfl (go tbl_ok false ?_)
            conv => whnf
            refine loopA ?_
            refine splitA [3, 4] (by kernel_rfl) ⟨?_, ?_, trivial⟩
            focus
              refine go tbl_ok false ?_
              conv => whnf
              refine loopA ?_
              refine splitA [4] (by kernel_rfl) ⟨?_, trivial⟩
              refine go tbl_ok false ?_
              conv => whnf
              refine loopA ?_
              refine splitA [5] (by kernel_rfl) ⟨?_, trivial⟩
              refine go tbl_ok false ?_
              conv => whnf
              refine loopA ?_
              refine doneA (by kernel_rfl) (go tbl_ok false ?_)
              conv => whnf
            rotate_left 1
            focus
              refine go tbl_ok false ?_
              conv => whnf
              refine loopA ?_
              refine splitA [3] (by kernel_rfl) ⟨?_, trivial⟩
              refine go tbl_ok false ?_
              conv => whnf
              refine loopA ?_
              refine splitA [5] (by kernel_rfl) ⟨?_, trivial⟩
              refine go tbl_ok false ?_
              conv => whnf
              refine loopA ?_
              refine doneA (by kernel_rfl) (go tbl_ok false ?_)
              conv => whnf
          rotate_left 2
          focus
            refine go tbl_ok false ?_
            conv => whnf
            refine loopA ?_
            refine splitA [1] (by kernel_rfl) ⟨?_, trivial⟩
            refine go tbl_ok false ?_
            conv => whnf
            refine callW (specCopyGraph g hg) rfl (go tbl_ok false ?_)
            conv => whnf
            refine loopA ?_
            refine splitA [3] (by kernel_rfl) ⟨?_, trivial⟩
            refine go tbl_ok false ?_
            conv => whnf
            refine loopA ?_
            refine splitA [5] (by kernel_rfl) ⟨?_, trivial⟩
            refine go tbl_ok false ?_
            conv => whnf
            refine loopA ?_
            refine doneA (by kernel_rfl) (go tbl_ok false ?_)
            conv => whnf
        rotate_left 3
        focus
          refine go tbl_ok false ?_
          conv => whnf
          refine loopA ?_
          refine splitA [0] (by kernel_rfl) ⟨?_, trivial⟩
          refine go tbl_ok false ?_
          conv => whnf
          refine loopA ?_
          refine splitA [1] (by kernel_rfl) ⟨?_, trivial⟩
          refine go tbl_ok false ?_
          conv => whnf
          refine callW (specCopyGraph g hg) rfl (go tbl_ok false ?_)
          conv => whnf
          refine loopA ?_
          refine splitA [3] (by kernel_rfl) ⟨?_, trivial⟩
          refine go tbl_ok false ?_
          conv => whnf
          refine loopA ?_
          refine splitA [5] (by kernel_rfl) ⟨?_, trivial⟩
          refine go tbl_ok false ?_
          conv => whnf
          refine loopA ?_
          refine doneA (by kernel_rfl) (go tbl_ok false ?_)
          conv => whnf
      rotate_left 4
      focus
        refine go tbl_ok false ?_
        conv => whnf
        refine loopA ?_
        refine splitA [0, 2] (by kernel_rfl) ⟨?_, ?_, trivial⟩
        focus
          refine go tbl_ok false ?_
          conv => whnf
          refine loopA ?_
          refine splitA [1, 2] (by kernel_rfl) ⟨?_, ?_, trivial⟩
          focus
            refine go tbl_ok false ?_
            conv => whnf
            refine callW (specCopyGraph g hg) rfl (go tbl_ok false ?_)
            conv => whnf
            refine loopA ?_
            refine splitA [2] (by kernel_rfl) ⟨?_, trivial⟩
            refine go tbl_ok false ?_
            conv => whnf
            (repeat (refine ⟨by first | omega | (simp only [ByteArray.size_append, bsz, List.size_toArray, List.length_cons, List.length_nil]; omega) | (show _ ∧ _; omega) | (simp only [Int.toNat_natCast]; first | omega | (show _ ∧ _; omega)) | decide, ?_⟩; conv => whnf))
            refine loopA ?_
            refine splitA [3] (by kernel_rfl) ⟨?_, trivial⟩
            refine go tbl_ok false ?_
            conv => whnf
            refine loopA ?_
            refine splitA [5] (by kernel_rfl) ⟨?_, trivial⟩
            refine go tbl_ok false ?_
            conv => whnf
            refine loopA ?_
            refine doneA (by kernel_rfl) (go tbl_ok false ?_)
            conv => whnf
          rotate_left 1
          focus
            refine go tbl_ok false ?_
            conv => whnf
            (repeat (refine ⟨by first | omega | (simp only [ByteArray.size_append, bsz, List.size_toArray, List.length_cons, List.length_nil]; omega) | (show _ ∧ _; omega) | (simp only [Int.toNat_natCast]; first | omega | (show _ ∧ _; omega)) | decide, ?_⟩; conv => whnf))
            refine loopA ?_
            refine splitA [1] (by kernel_rfl) ⟨?_, trivial⟩
            refine go tbl_ok false ?_
            conv => whnf
            refine callW (specCopyGraph g hg) rfl (go tbl_ok false ?_)
            conv => whnf
            refine loopA ?_
            refine splitA [3] (by kernel_rfl) ⟨?_, trivial⟩
            refine go tbl_ok false ?_
            conv => whnf
            refine loopA ?_
            refine splitA [5] (by kernel_rfl) ⟨?_, trivial⟩
            refine go tbl_ok false ?_
            conv => whnf
            refine loopA ?_
            refine doneA (by kernel_rfl) (go tbl_ok false ?_)
            conv => whnf
        rotate_left 2
        focus
          refine go tbl_ok false ?_
          conv => whnf
          (repeat (refine ⟨by first | omega | (simp only [ByteArray.size_append, bsz, List.size_toArray, List.length_cons, List.length_nil]; omega) | (show _ ∧ _; omega) | (simp only [Int.toNat_natCast]; first | omega | (show _ ∧ _; omega)) | decide, ?_⟩; conv => whnf))
          refine loopA ?_
          refine splitA [0] (by kernel_rfl) ⟨?_, trivial⟩
          refine go tbl_ok false ?_
          conv => whnf
          refine loopA ?_
          refine splitA [1] (by kernel_rfl) ⟨?_, trivial⟩
          refine go tbl_ok false ?_
          conv => whnf
          refine callW (specCopyGraph g hg) rfl (go tbl_ok false ?_)
          conv => whnf
          refine loopA ?_
          refine splitA [3] (by kernel_rfl) ⟨?_, trivial⟩
          refine go tbl_ok false ?_
          conv => whnf
          refine loopA ?_
          refine splitA [5] (by kernel_rfl) ⟨?_, trivial⟩
          refine go tbl_ok false ?_
          conv => whnf
          refine loopA ?_
          refine doneA (by kernel_rfl) (go tbl_ok false ?_)
          conv => whnf
      all_goals first | exact loopE [(2, 5), (3, 6), (4, 7)] (()) (trivial) (by exact Nat.zero_lt_one) ⟨rfl, trivial⟩ ⟨rfl, mk4_token, trivial⟩ (by repeat' (first | exact trivial | exact rfl | refine ⟨?_, ?_⟩)) (by kernel_rfl) (by first | exact trivial | exact ⟨rfl, trivial⟩) (by kernel_rfl) | exact loopE [(2, 5), (3, 7), (4, 6)] (()) (trivial) (by exact Nat.zero_lt_one) ⟨rfl, trivial⟩ ⟨rfl, mk4_token, trivial⟩ (by repeat' (first | exact trivial | exact rfl | refine ⟨?_, ?_⟩)) (by kernel_rfl) (by first | exact trivial | exact ⟨rfl, trivial⟩) (by kernel_rfl) | exact loopE [(2, 6), (3, 5), (4, 7)] (()) (trivial) (by exact Nat.zero_lt_one) ⟨rfl, trivial⟩ ⟨rfl, mk4_token, trivial⟩ (by repeat' (first | exact trivial | exact rfl | refine ⟨?_, ?_⟩)) (by kernel_rfl) (by first | exact trivial | exact ⟨rfl, trivial⟩) (by kernel_rfl) | exact loopE [(2, 6), (3, 7), (4, 5)] (()) (trivial) (by exact Nat.zero_lt_one) ⟨rfl, trivial⟩ ⟨rfl, mk4_token, trivial⟩ (by repeat' (first | exact trivial | exact rfl | refine ⟨?_, ?_⟩)) (by kernel_rfl) (by first | exact trivial | exact ⟨rfl, trivial⟩) (by kernel_rfl) | exact loopE [(2, 7), (3, 5), (4, 6)] (()) (trivial) (by exact Nat.zero_lt_one) ⟨rfl, trivial⟩ ⟨rfl, mk4_token, trivial⟩ (by repeat' (first | exact trivial | exact rfl | refine ⟨?_, ?_⟩)) (by kernel_rfl) (by first | exact trivial | exact ⟨rfl, trivial⟩) (by kernel_rfl) | exact loopE [(2, 7), (3, 6), (4, 5)] (()) (trivial) (by exact Nat.zero_lt_one) ⟨rfl, trivial⟩ ⟨rfl, mk4_token, trivial⟩ (by repeat' (first | exact trivial | exact rfl | refine ⟨?_, ?_⟩)) (by kernel_rfl) (by first | exact trivial | exact ⟨rfl, trivial⟩) (by kernel_rfl)
    · refine nilB 2 3 8 (fun i => GWorker.c (([] : List GWorker).getD i default)) rfl rfl ?_
      refine nilB 2 4 6 (fun i => GLink.c (([] : List GLink).getD i default)) rfl rfl ?_
      refine loopW tbl_ok false [9, 53, 54, 55, 56, 57, 58, 59, 60, 61, 62, 63, 64, 65, 66, 67, 68, 69, 70, 71, 72, 73, 74, 75, 76, 77, 78, 79, 80, 81, 82, 83] (fun j : JCl => [(8, .c (vi j.k))]) (fun j => [⟨2, [.own 3, .c (vi g.workers), .c (vi g.cap), .own 5, .own 6, .own 4, .c (.val (.slice none 0 0))]⟩, ⟨0, [.c (sGNode g.nodes), .c (vi g.workers), .c (vi g.cap)]⟩, ⟨1, [.c (.val (.slice none 0 0)), .c (vi 0), .c (vi 0), .c (.val (.slice none 0 0)), .c (.val (.slice none 0 0)), .c (.val (.slice none 0 0)), .c (.val (.slice none 0 0))]⟩]) (fun j => [⟨3, sGNode g.nodes⟩, ⟨4, sGToken (List.replicate 4 default)⟩, ⟨5, sGWorker j.ws⟩, ⟨6, sGLink j.ls⟩]) (fun j => (j.k : Int) ≤ g.workers ∧ j.ws.length = j.k ∧ j.ls.length ≤ 4 * j.k) (fun j => 4 - j.k) (⟨0, 0, [], []⟩) (⟨by show (0 : Int) ≤ _; omega, rfl, Nat.le_refl _⟩) ⟨by first | rfl | simp [nth, ren2, ren1, ren0], trivial⟩ (by repeat' (first | exact trivial | exact rfl | refine ⟨?_, ?_⟩)) ⟨by first | rfl | exact (congrArg (fun l => slC _ _ l) (List.append_nil _)).symm | (show (_ : Cell) = _; simp) | simp, by first | rfl | exact (congrArg (fun l => slC _ _ l) (List.append_nil _)).symm | (show (_ : Cell) = _; simp) | simp, by first | rfl | exact (congrArg (fun l => slC _ _ l) (List.append_nil _)).symm | (show (_ : Cell) = _; simp) | simp, by first | rfl | exact (congrArg (fun l => slC _ _ l) (List.append_nil _)).symm | (show (_ : Cell) = _; simp) | simp, trivial⟩ (by first | exact trivial | exact ⟨rfl, trivial⟩) (by kernel_rfl) (fun j hj => ?_)
      conv => whnf
      obtain ⟨jk, jj, ws, ls⟩ := j
      obtain ⟨j1, j2, j3⟩ : (jk : Int) ≤ g.workers ∧ ws.length = jk ∧ ls.length ≤ 4 * jk := hj
      refine ⟨fun hlt => have hlt := of_decide_eq_true hlt; ?_, fun hlt => have hlt := of_decide_eq_false hlt; ?_⟩ <;> conv => whnf
      · have hlt : (jk : Int) < g.workers := hlt
        first | (refine drawI 8 rfl [0, 1, 2, 3, 4, 5] (by kernel_rfl) (go tbl_ok false ?_); conv => whnf) | (refine drawI 12 rfl [0, 1, 2, 3, 4, 5, 6, 7, 8, 9, 10] (by kernel_rfl) (go tbl_ok false ?_); conv => whnf) | (refine drawI 16 rfl [0, 1, 2, 3, 4, 5, 6, 7, 8] (by kernel_rfl) (go tbl_ok false ?_); conv => whnf)
        refine callR (ownNil g _) rfl (go tbl_ok false ?_)
        conv => whnf
        refine callW (specWorkerNew [] (by decide)) rfl (go tbl_ok false ?_)
        conv => whnf
        refine buildW tbl_ok rfl rfl rfl rfl rfl rfl rfl rfl rfl (go tbl_ok false ?_)
        conv => whnf
        refine appW tbl_ok rfl rfl rfl rfl rfl rfl rfl rfl rfl rfl rfl (sGWorker (ws ++ [workerNew []])) (slC_snoc rfl) (by intro h; cases h) (by show ws.length + 1 ≤ _; omega) (go tbl_ok false ?_)
        conv => whnf
        refine loopW tbl_ok false [69, 70, 71, 72, 73, 74, 75, 76, 77, 78, 79, 80, 81, 82] (fun j : JCl => [(9, .c (vi j.j))]) (fun j => [⟨2, [.own 3, .c (vi g.workers), .c (vi g.cap), .own 16, .own 6, .own 4, .c (.val (.slice none 0 0))]⟩, ⟨0, [.c (sGNode g.nodes), .c (vi g.workers), .c (vi g.cap)]⟩, ⟨1, [.c (.val (.slice none 0 0)), .c (vi 0), .c (vi 0), .c (.val (.slice none 0 0)), .c (.val (.slice none 0 0)), .c (.val (.slice none 0 0)), .c (.val (.slice none 0 0))]⟩]) (fun j => [⟨3, sGNode g.nodes⟩, ⟨4, sGToken (List.replicate 4 default)⟩, ⟨16, sGWorker (ws ++ [workerNew []])⟩, ⟨6, sGLink j.ls⟩]) (fun j => (j.j : Int) ≤ g.workers ∧ j.ls.length ≤ 4 * jk + j.j) (fun j => 4 - j.j) (⟨0, 0, [], ls⟩) (⟨by show (0 : Int) ≤ _; omega, by show ls.length ≤ 4 * jk + 0; omega⟩) ⟨by first | rfl | simp [nth, ren2, ren1, ren0], trivial⟩ (by repeat' (first | exact trivial | exact rfl | refine ⟨?_, ?_⟩)) ⟨by first | rfl | exact (congrArg (fun l => slC _ _ l) (List.append_nil _)).symm | (show (_ : Cell) = _; simp) | simp, by first | rfl | exact (congrArg (fun l => slC _ _ l) (List.append_nil _)).symm | (show (_ : Cell) = _; simp) | simp, by first | rfl | exact (congrArg (fun l => slC _ _ l) (List.append_nil _)).symm | (show (_ : Cell) = _; simp) | simp, by first | rfl | exact (congrArg (fun l => slC _ _ l) (List.append_nil _)).symm | (show (_ : Cell) = _; simp) | simp, trivial⟩ (by first | exact trivial | exact ⟨rfl, trivial⟩) (by kernel_rfl) (fun j hj => ?_)
        conv => whnf
        obtain ⟨_, ij, _, ils⟩ := j
        obtain ⟨i1, i2⟩ : (ij : Int) ≤ g.workers ∧ ils.length ≤ 4 * jk + ij := hj
        refine ⟨fun hlt2 => have hlt2 := of_decide_eq_true hlt2; ?_, fun hlt2 => have hlt2 := of_decide_eq_false hlt2; ?_⟩ <;> conv => whnf
        · have hlt2 : (ij : Int) < g.workers := hlt2
          first | (refine drawI 8 rfl [0, 1, 2, 3, 4, 5] (by kernel_rfl) (go tbl_ok false ?_); conv => whnf) | (refine drawI 12 rfl [0, 1, 2, 3, 4, 5, 6, 7, 8, 9, 10] (by kernel_rfl) (go tbl_ok false ?_); conv => whnf) | (refine drawI 16 rfl [0, 1, 2, 3, 4, 5, 6, 7, 8] (by kernel_rfl) (go tbl_ok false ?_); conv => whnf)
          refine callW (linkNew g.cap) rfl (go tbl_ok false ?_)
          conv => whnf
          refine buildW tbl_ok rfl rfl rfl rfl rfl rfl rfl rfl rfl (go tbl_ok false ?_)
          conv => whnf
          refine appW tbl_ok rfl rfl rfl rfl rfl rfl rfl rfl rfl rfl rfl (sGLink (ils ++ [⟨brought g.cap 1 4, [], brought g.cap 1 4, 0, 0, 0⟩])) (slC_snoc rfl) (by intro h; cases h) (by show ils.length + 1 ≤ _; omega) (go tbl_ok false ?_)
          conv => whnf
          (repeat (refine ⟨by first | omega | (simp only [ByteArray.size_append, bsz, List.size_toArray, List.length_cons, List.length_nil]; omega) | (show _ ∧ _; omega) | (simp only [Int.toNat_natCast]; first | omega | (show _ ∧ _; omega)) | decide, ?_⟩; conv => whnf))
          refine loopE [(6, 19)] (⟨0, ij + 1, [], ils ++ [⟨brought g.cap 1 4, [], brought g.cap 1 4, 0, 0, 0⟩]⟩) (⟨by show ((ij + 1 : Nat) : Int) ≤ _; omega, by show (ils ++ _).length ≤ 4 * jk + (ij + 1); simp; omega⟩) (by show 4 - (ij + 1) < 4 - ij; omega) ⟨rfl, trivial⟩ ⟨rfl, rfl, rfl, rfl, trivial⟩ (by repeat' (first | exact trivial | exact rfl | refine ⟨?_, ?_⟩)) (by kernel_rfl) (by first | exact trivial | exact ⟨rfl, trivial⟩) (by kernel_rfl)
        · have hlt2 : ¬ (ij : Int) < g.workers := hlt2
          (repeat (refine ⟨by first | omega | (simp only [ByteArray.size_append, bsz, List.size_toArray, List.length_cons, List.length_nil]; omega) | (show _ ∧ _; omega) | (simp only [Int.toNat_natCast]; first | omega | (show _ ∧ _; omega)) | decide, ?_⟩; conv => whnf))
          refine loopE [(5, 16)] (⟨jk + 1, 0, ws ++ [workerNew []], ils⟩) (⟨by show ((jk + 1 : Nat) : Int) ≤ _; omega, by show (ws ++ _).length = jk + 1; simp [j2], by show ils.length ≤ 4 * (jk + 1); omega⟩) (by show 4 - (jk + 1) < 4 - jk; omega) ⟨rfl, trivial⟩ ⟨rfl, rfl, rfl, rfl, trivial⟩ (by repeat' (first | exact trivial | exact rfl | refine ⟨?_, ?_⟩)) (by kernel_rfl) (by first | exact trivial | exact ⟨rfl, trivial⟩) (by kernel_rfl)
      · exact retC tbl_ok (⟨⟨g.nodes, g.workers, g.cap⟩, ws, ls, List.replicate 4 default, []⟩, true) trivial rfl rfl (by repeat' (first | exact trivial | exact outC_val _ _ | exact rfl | exact .inr ⟨rfl, rfl, _, _, rfl⟩ | refine ⟨?_, ?_⟩))

end Go.Proofs.Ytcpjpkcahnldfaa
