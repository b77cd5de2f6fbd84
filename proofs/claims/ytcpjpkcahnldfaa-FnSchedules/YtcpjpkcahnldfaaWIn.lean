/- Texts for the law FnSchedules: WIn. No conditions. -/
import Derived.Test.YtcpjpkcahnldfaaEng4
import Derived.Test.YtcpjpkcahnldfaaH2

set_option maxRecDepth 100000
namespace Go.Proofs.Ytcpjpkcahnldfaa
open Go.Sx
theorem specIn (n lo hi : Int) : Meets Try.prog 46 [.one (vi n), .one (vi lo), .one (vi hi)] [.one (vb (within n lo hi))] := by
  refine enterW tbl_ok false Try.func46 rfl (by decide) fun W => ?_
  conv => whnf
  repeat' (first | (refine ite_f (by first | with_reducible rfl | assumption) ?_; conv => whnf) | (refine ite_t (by first | with_reducible rfl | assumption) ?_; conv => whnf) | (refine ⟨fun h => ?_, fun h => ?_⟩ <;> conv => whnf) | (refine retW tbl_ok rfl rfl ⟨?_, trivial⟩; conv => whnf) | (refine ⟨by first | omega | (simp only [ByteArray.size_append, bsz, List.size_toArray, List.length_cons, List.length_nil]; omega) | (show _ ∧ _; omega) | (simp only [Int.toNat_natCast]; first | omega | (show _ ∧ _; omega)) | decide, ?_⟩; conv => whnf) | fail)
  all_goals (refine congrArg vb ?_; simp_all [within] <;> omega)
end Go.Proofs.Ytcpjpkcahnldfaa
