/- Texts for the law FnSchedules: WClD. No conditions. -/
import Derived.Test.YtcpjpkcahnldfaaWGrD
import Derived.Test.YtcpjpkcahnldfaaWClN2

set_option maxRecDepth 100000
namespace Go.Proofs.Ytcpjpkcahnldfaa
open Go.Sx
theorem cur25 (d : DCode) (i h : Int) (hi : 0 ≤ i ∧ i ≤ d.n) : MeetsP Try.prog HT 24 d.pins (d.cur i h) [] (fun r : Int × Int × GCluster => 0 ≤ r.1 ∧ r.1 ≤ d.n) (fun r => d.cur r.1 r.2.1) (fun r => [.agg r.2.2.c]) := by
  refine enterP tbl_ok false Try.func24 rfl (by decide) fun B b hH hp => ?_
  conv => whnf
  refine callP (curGraph d i h hi) hH hp rfl (by repeat' (first | exact trivial | exact outC_val _ _ | exact rfl | exact .inr ⟨rfl, rfl, _, _, rfl⟩ | refine ⟨?_, ?_⟩)) rfl rfl (fun r hr => go tbl_ok false ?_)
  conv => whnf
  refine castC 3 (sGRecord []) rfl nil_cast ?_
  refine callC0 (clusterNew0 r.2.2 (by have := hr.2; omega)) rfl (fun r2 _ => go tbl_ok false ?_)
  conv => whnf
  refine callP (curOnce d r.1 r.2.1 6 hr.1 (by decide)) hH hp rfl (by repeat' (first | exact trivial | exact outC_val _ _ | exact rfl | exact .inr ⟨rfl, rfl, _, _, rfl⟩ | refine ⟨?_, ?_⟩)) rfl rfl (fun r3 hr3 => go tbl_ok false ?_)
  conv => whnf
  refine ⟨fun c0 => ?_, fun c0 => ?_⟩ <;> conv => whnf
  · refine castC 10 (sInt [0, -1, 4, 9]) rfl (cast_rows rfl (by repeat' (first | exact trivial | exact rfl | refine ⟨?_, ?_⟩))) ?_
    refine callP (curPickInt d r3.1 r3.2.1 [0, -1, 4, 9] hr3 (by decide)) hH hp rfl (by repeat' (first | exact trivial | exact outC_val _ _ | exact rfl | exact .inr ⟨rfl, rfl, _, _, rfl⟩ | refine ⟨?_, ?_⟩)) rfl rfl (fun r4 hr4 => go tbl_ok false ?_)
    conv => whnf
    exact retP tbl_ok (r4.1, r4.2.1, ⟨⟨r2.1.graph.nodes, [0, -1, 4, 9].getD r4.2.2 0, r2.1.graph.cap⟩, r2.1.workers, r2.1.links, r2.1.tokens, r2.1.news⟩) hr4.1 rfl rfl rfl rfl (by repeat' (first | exact trivial | exact outC_val _ _ | exact rfl | exact .inr ⟨rfl, rfl, _, _, rfl⟩ | refine ⟨?_, ?_⟩))
  · exact retP tbl_ok (r3.1, r3.2.1, r2.1) hr3 rfl rfl rfl rfl (by repeat' (first | exact trivial | exact outC_val _ _ | exact rfl | exact .inr ⟨rfl, rfl, _, _, rfl⟩ | refine ⟨?_, ?_⟩))

end Go.Proofs.Ytcpjpkcahnldfaa
