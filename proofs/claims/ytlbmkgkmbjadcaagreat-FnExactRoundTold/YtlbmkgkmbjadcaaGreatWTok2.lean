/- Texts for the law FnExactRoundTold: WTok2. No conditions. -/
import Derived.Test.YtlbmkgkmbjadcaaGreatWTok

set_option maxRecDepth 100000
namespace Go.Proofs.YtlbmkgkmbjadcaaGreat
open Go.Sx
theorem specStart (x : GCluster) (h : x.w ≤ 16000000) : MeetsN Tryz.prog 91 [] [.agg x.c] (fun _ : Unit => True) (fun _ => rc x) := by
  refine enterN tbl_ok false Tryz.func91 rfl (by decide) fun W hp => ?_
  conv => whnf
  first | (refine drawI 1 rfl [0, 2, 1, 3, 4, 5, 6] (by kernel_rfl) (go tbl_ok false ?_); conv => whnf)
  refine callW (specCopyCluster x (by omega)) rfl (go tbl_ok false ?_)
  conv => whnf
  refine callR (specClusterOk x (by omega)) rfl (go tbl_ok false ?_)
  conv => whnf
  exact retN tbl_ok () trivial rfl rfl rfl (by repeat' (first | exact trivial | exact rfl | exact .inr ⟨rfl, rfl, _, _, rfl⟩ | refine ⟨?_, ?_⟩))
theorem specTokenStep (x : GCluster) (e : Int) (h : x.w ≤ 16000000) : Meets Tryz.prog 76 [.agg x.c, .one (vi e)] [.agg (tokenStep x e).1.c, .one (vb (tokenStep x e).2)] := by
  refine enterW tbl_ok false Tryz.func76 rfl (by decide) fun W => ?_
  conv => whnf
  have hp : Pins ⟨W, fun _ => False⟩ [] := fun _ h => by cases h
  have hH : ∀ w, Base.rel ⟨W, fun _ => False⟩ w → True := fun _ _ => trivial
  refine callN (specStart x h) hp rfl (fun r hr => go tbl_ok false ?_)
  conv => whnf
  refine callP (specToken x e h) hH hp rfl (by repeat' (first | exact trivial | exact outC_val _ _ | exact rfl | exact .inr ⟨rfl, rfl, _, _, rfl⟩ | refine ⟨?_, ?_⟩)) rfl rfl (fun r2 hr2 => go tbl_ok false ?_)
  conv => whnf
  refine retW tbl_ok rfl rfl ?_
  exact (by repeat' (first | exact trivial | exact outC_val _ _ | exact rfl | exact .inr ⟨rfl, rfl, _, _, rfl⟩ | refine ⟨?_, ?_⟩))

end Go.Proofs.YtlbmkgkmbjadcaaGreat
