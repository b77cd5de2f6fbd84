/- Texts for the law FnExactClusterLines: WToken. No conditions. -/
import Derived.Test.YteonkhnmlolfgaaGreatDoorWDec

set_option maxRecDepth 100000
namespace Go.Proofs.YteonkhnmlolfgaaGreatDoor
open Go.Sx
def tokenText (t : GToken) : ByteArray :=
  if t.going then
    (if t.capped then dec t.at_ ++ (⟨#[32]⟩ : ByteArray) ++ dec t.sum ++ (if t.black then (⟨#[32, 98, 108, 97, 99, 107]⟩ : ByteArray) else (⟨#[32, 119, 104, 105, 116, 101]⟩ : ByteArray)) ++ (⟨#[32, 99, 97, 112, 112, 101, 100]⟩ : ByteArray) else dec t.at_ ++ (⟨#[32]⟩ : ByteArray) ++ dec t.sum ++ (if t.black then (⟨#[32, 98, 108, 97, 99, 107]⟩ : ByteArray) else (⟨#[32, 119, 104, 105, 116, 101]⟩ : ByteArray)))
  else (⟨#[114, 101, 115, 116]⟩ : ByteArray)
theorem specTokenText (t : GToken) (o : t.ok) : Meets Tryz.prog 42 [.agg t.c] [.one (vs (tokenText t))] := by
  obtain ⟨g, a, s, b, c⟩ := t
  have o1 : inR .i64 a := by simp [GToken.ok] at o; exact o.1
  have o2 : inR .i64 s := by simp [GToken.ok] at o; exact o.2
  have d1 := dec_size o1
  have d2 := dec_size o2
  refine enterW tbl_ok false Tryz.func42 rfl (by decide) fun W => ?_
  conv => whnf
  repeat' (first | (refine auf ?_; conv => whnf) | (refine aut ?_; conv => whnf) | (refine ⟨fun h => ?_, fun h => ?_⟩ <;> conv => whnf) | (refine callR (specDecimal _ o1) rfl (go tbl_ok false ?_); conv => whnf) | (refine callR (specDecimal _ o2) rfl (go tbl_ok false ?_); conv => whnf) | (refine needF ?_; conv => whnf) | (refine drawI 3 rfl [0, 1, 4, 5, 2, 3, 6, 7, 8] (by kernel_rfl) (go tbl_ok false ?_); conv => whnf) | fail)
  all_goals (refine retW tbl_ok rfl rfl ⟨congrArg vs ?_, trivial⟩; simp_all [tokenText])
theorem implTokenText (t : GToken) (o : t.ok) : MeetsT Tryz.prog Tab 44 [.agg t.c] [.one (vs (tokenText t))] := by
  obtain ⟨g, a, s, b, c⟩ := t
  have o1 : inR .i64 a := by simp [GToken.ok] at o; exact o.1
  have o2 : inR .i64 s := by simp [GToken.ok] at o; exact o.2
  have d1 := dec_size o1
  have d2 := dec_size o2
  refine enterT tbl_ok false Tryz.func44 rfl (by decide) fun W hW => ?_
  conv => whnf
  repeat' (first | (refine auf ?_; conv => whnf) | (refine aut ?_; conv => whnf) | (refine ⟨fun h => ?_, fun h => ?_⟩ <;> conv => whnf) | (refine callRT (implDecimal _ o1) tabStays hW rfl (go tbl_ok false ?_); conv => whnf) | (refine callRT (implDecimal _ o2) tabStays hW rfl (go tbl_ok false ?_); conv => whnf) | (refine needF ?_; conv => whnf) | (refine drawI 3 rfl [0, 1, 4, 5, 2, 3, 6, 7, 8] (by kernel_rfl) (go tbl_ok false ?_); conv => whnf) | fail)
  all_goals (refine retW tbl_ok rfl rfl ⟨congrArg vs ?_, trivial⟩; simp_all [tokenText])

end Go.Proofs.YteonkhnmlolfgaaGreatDoor
