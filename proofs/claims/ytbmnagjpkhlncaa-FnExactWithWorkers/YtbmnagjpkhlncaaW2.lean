/- Texts for the law FnExactWithWorkers: W2. No conditions. -/
import Derived.Test.YtbmnagjpkhlncaaH2

set_option maxRecDepth 100000
namespace Go.Proofs.Ytbmnagjpkhlncaa
open Go.Sx
theorem copyNode (x : GNode) (h : x.w ≤ 1048576) : Meets Try.prog 74 [.agg x.c] [.agg x.c] := by
  have h : x.outs.length ≤ 1048576 := h
  refine enterW tbl_ok false Try.func74 rfl (by decide) fun W => ?_
  conv => whnf
  refine appW tbl_ok rfl rfl rfl rfl rfl rfl rfl rfl rfl rfl rfl (sInt x.outs) (nil_app) (fun _ => flat_ints x.outs) (by omega) (go tbl_ok false ?_)
  conv => whnf
  exact retW tbl_ok rfl rfl ⟨⟨rfl, rfl, rfl, rfl, trivial⟩, trivial⟩

theorem implCopyGraph (x : GGraph) (h : x.w ≤ 1048576) : Meets Try.prog 61 [.agg x.c] [.agg x.c] := by
  have h : x.nodes.length + (x.nodes.map GNode.w).sum ≤ 1048576 := h
  refine enterW tbl_ok false Try.func61 rfl (by decide) fun W => ?_
  conv => whnf
  refine nilB 2 0 4 (fun i => GNode.c (([] : List GNode).getD i default)) rfl rfl ?_
  refine loopW tbl_ok false [] (fun k : Nat => [(14, .c (vi k))]) (fun _ => [⟨0, [.c (sGNode x.nodes), .c (vi x.workers), .c (vi x.cap)]⟩, ⟨2, [.own 3, .c (vi x.workers), .c (vi x.cap)]⟩, ⟨1, [.any, .any, .any]⟩]) (fun k => [⟨3, sGNode (x.nodes.take k)⟩])
    (fun k => k ≤ x.nodes.length) (fun k => x.nodes.length - k) 0 (Nat.zero_le _) ⟨rfl, trivial⟩ (by repeat' (first | exact trivial | exact rfl | refine ⟨?_, ?_⟩)) ⟨rfl, trivial⟩ trivial (by kernel_rfl) (fun k hk => ?_)
  conv => whnf
  refine ⟨fun h => have h := of_decide_eq_true h; ?_, fun h => have h := of_decide_eq_false h; ?_⟩ <;> conv => whnf
  · have h : k < x.nodes.length := by omega
    have hle := wS_take_le GNode.w x.nodes k h
    (repeat (refine ⟨by first | omega | (show _ ∧ _; omega) | (simp only [Int.toNat_natCast]; omega) | decide, ?_⟩; conv => whnf))
    refine drawW rfl [0, 1, 2, 3, 4, 5, 6, 7] (by kernel_rfl) (go tbl_ok false ?_)
    conv => whnf
    refine callW (copyNode (x.nodes.getD k default) (by omega)) rfl (go tbl_ok false ?_)
    conv => whnf
    refine buildW tbl_ok rfl rfl rfl rfl rfl rfl rfl rfl rfl (go tbl_ok false ?_)
    conv => whnf
    refine appW tbl_ok rfl rfl rfl rfl rfl rfl rfl rfl rfl rfl rfl (sGNode (x.nodes.take k ++ [x.nodes.getD k default])) (slC_snoc rfl) (by intro h; cases h) (by simp only [List.length_take]; omega) (go tbl_ok false ?_)
    conv => whnf
    (repeat (refine ⟨by first | omega | (show _ ∧ _; omega) | (simp only [Int.toNat_natCast]; omega) | decide, ?_⟩; conv => whnf))
    refine loopE [(3, 7)] (k + 1) (by omega) (by omega) ⟨rfl, trivial⟩ ⟨?_, trivial⟩ (by repeat' (first | exact trivial | exact rfl | refine ⟨?_, ?_⟩)) (by kernel_rfl) trivial (by kernel_rfl)
    exact congrArg sGNode (take_snoc x.nodes k h).symm
  · refine retW tbl_ok rfl rfl ⟨⟨?_, rfl, rfl, trivial⟩, trivial⟩
    exact congrArg sGNode (take_all _ _ (by omega))

theorem specCopyGraph (x : GGraph) (h : x.w ≤ 1048576) : Meets Try.prog 59 [.agg x.c] [.agg x.c] := by
  have h : x.nodes.length + (x.nodes.map GNode.w).sum ≤ 1048576 := h
  refine enterW tbl_ok false Try.func59 rfl (by decide) fun W => ?_
  conv => whnf
  refine castW 3 (sGNode []) rfl nil_cast ?_
  refine loopW tbl_ok false [7] (fun k : Nat => [(4, .c (vi k))]) (fun _ => [⟨0, [.c (sGNode x.nodes), .c (vi x.workers), .c (vi x.cap)]⟩, ⟨2, [.own 3, .c (vi x.workers), .c (vi x.cap)]⟩, ⟨1, [.any, .any, .any]⟩]) (fun k => [⟨3, sGNode (x.nodes.take k)⟩])
    (fun k => k ≤ x.nodes.length) (fun k => x.nodes.length - k) 0 (Nat.zero_le _) ⟨rfl, trivial⟩ (by repeat' (first | exact trivial | exact rfl | refine ⟨?_, ?_⟩)) ⟨rfl, trivial⟩ trivial (by kernel_rfl) (fun k hk => ?_)
  conv => whnf
  refine ⟨fun h => have h := of_decide_eq_true h; ?_, fun h => have h := of_decide_eq_false h; ?_⟩ <;> conv => whnf
  · have h : k < x.nodes.length := by omega
    have hle := wS_take_le GNode.w x.nodes k h
    have ho : (x.nodes.getD k default).outs.length ≤ 1048576 := by simp only [GNode.w] at hle; omega
    (repeat (refine ⟨by first | omega | (show _ ∧ _; omega) | (simp only [Int.toNat_natCast]; omega) | decide, ?_⟩; conv => whnf))
    refine appW tbl_ok rfl rfl rfl rfl rfl rfl rfl rfl rfl rfl rfl (sInt (x.nodes.getD k default).outs) (nil_app) (fun _ => flat_ints _) (by first | omega | (simp only [Int.toNat_natCast]; omega)) (go tbl_ok false ?_)
    conv => whnf
    refine buildW tbl_ok rfl rfl rfl rfl rfl rfl rfl rfl rfl (go tbl_ok false ?_)
    conv => whnf
    refine appW tbl_ok rfl rfl rfl rfl rfl rfl rfl rfl rfl rfl rfl (sGNode (x.nodes.take k ++ [x.nodes.getD k default])) (slC_snoc rfl) (by intro h; cases h) (by simp only [List.length_take]; omega) (go tbl_ok false ?_)
    conv => whnf
    (repeat (refine ⟨by first | omega | (show _ ∧ _; omega) | (simp only [Int.toNat_natCast]; omega) | decide, ?_⟩; conv => whnf))
    refine loopE [(3, 8)] (k + 1) (by omega) (by omega) ⟨rfl, trivial⟩ ⟨?_, trivial⟩ (by repeat' (first | exact trivial | exact rfl | refine ⟨?_, ?_⟩)) (by kernel_rfl) trivial (by kernel_rfl)
    exact congrArg sGNode (take_snoc x.nodes k h).symm
  · refine retW tbl_ok rfl rfl ⟨⟨?_, rfl, rfl, trivial⟩, trivial⟩
    exact congrArg sGNode (take_all _ _ (by omega))

theorem specWithCap (x : GGraph) (n : Int) (h : x.w ≤ 1048576) : Meets Try.prog 34 [.agg x.c, .one (vi n)] [.agg (GGraph.c { x with cap := n })] := by
  refine enterW tbl_ok false Try.func34 rfl (by decide) fun W => ?_
  conv => whnf
  refine callW (specCopyGraph x h) rfl (go tbl_ok false ?_)
  conv => whnf
  exact retW tbl_ok rfl rfl ⟨⟨rfl, rfl, rfl, trivial⟩, trivial⟩

theorem implWithCap (x : GGraph) (n : Int) (h : x.w ≤ 1048576) : Meets Try.prog 36 [.agg x.c, .one (vi n)] [.agg (GGraph.c { x with cap := n })] := by
  refine enterW tbl_ok false Try.func36 rfl (by decide) fun W => ?_
  conv => whnf
  refine callW (implCopyGraph x h) rfl (go tbl_ok false ?_)
  conv => whnf
  exact retW tbl_ok rfl rfl ⟨⟨rfl, rfl, rfl, trivial⟩, trivial⟩

theorem specWithWorkers (x : GGraph) (n : Int) (h : x.w ≤ 1048576) : Meets Try.prog 40 [.agg x.c, .one (vi n)] [.agg (GGraph.c { x with workers := n })] := by
  refine enterW tbl_ok false Try.func40 rfl (by decide) fun W => ?_
  conv => whnf
  refine callW (specCopyGraph x h) rfl (go tbl_ok false ?_)
  conv => whnf
  exact retW tbl_ok rfl rfl ⟨⟨rfl, rfl, rfl, trivial⟩, trivial⟩

theorem implWithWorkers (x : GGraph) (n : Int) (h : x.w ≤ 1048576) : Meets Try.prog 41 [.agg x.c, .one (vi n)] [.agg (GGraph.c { x with workers := n })] := by
  refine enterW tbl_ok false Try.func41 rfl (by decide) fun W => ?_
  conv => whnf
  refine callW (implCopyGraph x h) rfl (go tbl_ok false ?_)
  conv => whnf
  exact retW tbl_ok rfl rfl ⟨⟨rfl, rfl, rfl, trivial⟩, trivial⟩

end Go.Proofs.Ytbmnagjpkhlncaa
