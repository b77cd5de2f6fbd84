/- Texts for the law FnExactRoundTold: WTokM. No conditions. -/
import Derived.Test.YtlbmkgkmbjadcaaGreatEng5
import Derived.Test.YtlbmkgkmbjadcaaGreatWCopies2
import Derived.Test.YtlbmkgkmbjadcaaGreatWOver

set_option maxRecDepth 100000
namespace Go.Proofs.YtlbmkgkmbjadcaaGreat
open Go.Sx
def tokAt (c : GCluster) (e : Int) : GToken := c.tokens.getD e.toNat default
def wrkAt (c : GCluster) (j : Int) : GWorker := c.workers.getD j.toNat default
def setTok (c : GCluster) (e : Int) (t : GToken) : GCluster := ⟨c.graph, c.workers, c.links, c.tokens.set e.toNat t, c.news⟩
def setWrk (c : GCluster) (j : Int) (w : GWorker) : GCluster := ⟨c.graph, c.workers.set j.toNat w, c.links, c.tokens, c.news⟩
def whiteW (w : GWorker) (e : Int) : GWorker := ⟨w.queue, w.staged, w.inputs, w.cells, w.sums, w.black.set e.toNat false, w.caps, w.dones⟩
def doneW (w : GWorker) (d : GDone) : GWorker := ⟨w.queue, w.staged, w.inputs, w.cells, w.sums, w.black, w.caps, w.dones ++ [d]⟩
def newsL (e : Int) (b : Bool) (k : Nat) : List GNews := (List.range k).map fun (i : Nat) => (⟨(i : Int) + 1, e, b⟩ : GNews)
def addNews (c : GCluster) (l : List GNews) : GCluster := ⟨c.graph, c.workers, c.links, c.tokens, c.news ++ l⟩
def tokEnd (c : GCluster) (e : Int) (t : GToken) (w : GWorker) : GCluster :=
  if t.black = false ∧ w.black.getD e.toNat default = false ∧ t.sum + w.sums.getD e.toNat default = 0 then
    addNews (setWrk c 0 (doneW w ⟨e, t.capped || w.caps.getD e.toNat default⟩)) (newsL e (t.capped || w.caps.getD e.toNat default) (c.workers.length - 1))
  else c
def TokGo (c : GCluster) (e : Int) : Prop := ClusterP c ∧ (0 ≤ e ∧ e ≤ 3) ∧ isDone (wrkAt c 0) e = false ∧ passiveAt (wrkAt c (tokAt c e).at_) e = true
instance (c : GCluster) (e : Int) : Decidable (TokGo c e) := by unfold TokGo; infer_instance
def tokenStep (c : GCluster) (e : Int) : GCluster × Bool :=
  if TokGo c e then
    let t := tokAt c e
    let w := wrkAt c t.at_
    if t.going = false then (setWrk (setTok c e ⟨true, (c.workers.length : Int) - 1, 0, false, w.caps.getD e.toNat default⟩) t.at_ (whiteW w e), true)
    else if t.at_ > 0 then
      if SumR (t.sum + w.sums.getD e.toNat default) then
        (setWrk (setTok c e ⟨t.going, t.at_ - 1, t.sum + w.sums.getD e.toNat default, t.black || w.black.getD e.toNat default, t.capped || w.caps.getD e.toNat default⟩) t.at_ (whiteW w e), true)
      else (c, false)
    else (tokEnd (setTok c e ⟨false, t.at_, t.sum, t.black, t.capped⟩) e t w, true)
  else (c, false)
theorem tok_start {c : GCluster} {e : Int} (h : TokGo c e) (hg : (tokAt c e).going = false) : tokenStep c e = (setWrk (setTok c e ⟨true, (c.workers.length : Int) - 1, 0, false, (wrkAt c (tokAt c e).at_).caps.getD e.toNat default⟩) (tokAt c e).at_ (whiteW (wrkAt c (tokAt c e).at_) e), true) := by
  rw [tokenStep, if_pos h]
  simp only [hg, if_true]
theorem tok_big {c : GCluster} {e : Int} (h : TokGo c e) (hg : (tokAt c e).going = true) (ha : (tokAt c e).at_ > 0) (hs : ¬ SumR ((tokAt c e).sum + (wrkAt c (tokAt c e).at_).sums.getD e.toNat default)) : tokenStep c e = (c, false) := by
  rw [tokenStep, if_pos h]
  simp only [hg, Bool.true_eq_false, if_false, if_pos ha, if_neg hs]
theorem tok_pass {c : GCluster} {e : Int} (h : TokGo c e) (hg : (tokAt c e).going = true) (ha : (tokAt c e).at_ > 0) (hs : SumR ((tokAt c e).sum + (wrkAt c (tokAt c e).at_).sums.getD e.toNat default)) :
    tokenStep c e = (setWrk (setTok c e ⟨true, (tokAt c e).at_ - 1, (tokAt c e).sum + (wrkAt c (tokAt c e).at_).sums.getD e.toNat default, (tokAt c e).black || (wrkAt c (tokAt c e).at_).black.getD e.toNat default, (tokAt c e).capped || (wrkAt c (tokAt c e).at_).caps.getD e.toNat default⟩) (tokAt c e).at_ (whiteW (wrkAt c (tokAt c e).at_) e), true) := by
  rw [tokenStep, if_pos h]
  simp only [hg, Bool.true_eq_false, if_false, if_pos ha, if_pos hs]
theorem tok_no {c : GCluster} {e : Int} (h : ¬ TokGo c e) : tokenStep c e = (c, false) := by rw [tokenStep, if_neg h]
theorem cast_back {α : Type} [Inhabited α] {es : Nat} {e : α → List Cell} {l : List α} {j : Nat} {r : List Cell} (h : r = e (l.getD j default)) : CastOk (.sl l.length es (updR (fun i => e (l.getD i default)) j r)) (slC es e l) := by
  refine ⟨rfl, rfl, fun i _ => ?_⟩
  unfold updR
  split
  · rename_i e; subst e; rw [h]; exact CastL.rfl' _
  · exact CastL.rfl' _
theorem cast_set {α : Type} [Inhabited α] {es : Nat} {e : α → List Cell} {l : List α} {j : Nat} {r : List Cell} {x : α} (hj : j < l.length) (h : r = e x) : CastOk (.sl l.length es (updR (fun i => e (l.getD i default)) j r)) (slC es e (l.set j x)) := by
  refine ⟨by rw [List.length_set], rfl, fun i _ => ?_⟩
  unfold updR
  split
  · rename_i q
    subst q
    show CastL r (e ((l.set i x).getD i default))
    rw [h, Sx.getD_set_self _ _ _ _ hj]
    exact CastL.rfl' _
  · rename_i q
    show CastL (e (l.getD i default)) (e ((l.set j x).getD i default))
    rw [Sx.getD_set_ne _ _ _ _ _ q]
    exact CastL.rfl' _
/-- The cells of a run: a cluster, and whether it is right. -/
abbrev rcb (x : GCluster) (b : Bool) : List Cell := [sGNode x.graph.nodes, vi x.graph.workers, vi x.graph.cap, sGWorker x.workers, sGLink x.links, sGToken x.tokens, sGNews x.news, vb b]
abbrev rc (x : GCluster) : List Cell := rcb x (clusterOk x)
theorem tok_end {c : GCluster} {e : Int} (h : TokGo c e) (hg : (tokAt c e).going = true) (ha : ¬ (tokAt c e).at_ > 0) : tokenStep c e = (tokEnd (setTok c e ⟨false, (tokAt c e).at_, (tokAt c e).sum, (tokAt c e).black, (tokAt c e).capped⟩) e (tokAt c e) (wrkAt c (tokAt c e).at_), true) := by
  rw [tokenStep, if_pos h]
  simp only [hg, Bool.true_eq_false, if_false, if_neg ha]

end Go.Proofs.YtlbmkgkmbjadcaaGreat
