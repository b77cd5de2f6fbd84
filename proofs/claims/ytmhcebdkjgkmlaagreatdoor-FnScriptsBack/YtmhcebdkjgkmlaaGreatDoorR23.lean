/- Part 23 of the proof that each of the laws FnScriptsBack returns true for every input. No conditions. -/
import Derived.Test.YtmhcebdkjgkmlaaGreatDoorR21
import Derived.Test.YtmhcebdkjgkmlaaGreatDoorR8
import Derived.Test.YtmhcebdkjgkmlaaGreatDoorR18

set_option linter.unusedSimpArgs false
set_option linter.unusedVariables false
set_option maxRecDepth 100000
namespace Go.Proofs.YtmhcebdkjgkmlaaGreatDoor
open Go.Sx
def Ac (g:Ax) (op:Int):Ba:=g.ay.getD op.toNat default
def inN (ws:List Aj):List Al:=ws.foldl (fun l w=>w.cells.foldl I2 l) []
def A1q (g:Ax) (op:Int):Ba×Bool:=if F0 op 0 (g.ay.length-1)=true then (Ac g op,true) else (⟨0,0,0,[]⟩,false)
theorem D1f {g:Ax}{n:Nat}(h:g.w≤n)(op:Int)(hk:op.toNat<g.ay.length):(Ac g op).w≤n:=by
 have:=Fg Ba.w g.ay op.toNat hk
 simp only [Ax.w,wS] at h;simp only [Ac];omega
theorem A7l (g:Ax)(op:Int)(hg:g.w≤16777216):Df 214 [.agg g.c,.one (vi op)] [.agg (A1q g op).1.c,.one (vb (A1q g op).2)]:=by
 have hl:g.ay.length≤16777216:=by simp only [Ax.w,wS] at hg;omega
 refine Dy Tryz.func214 fun W=>?_;refine B6 ?_;refine Fh (Hm op 0 (g.ay.length-1)) ?_
 by_cases h1:F0 op 0 (g.ay.length-1)=true
 ·have h2:=Go.Sx.Dj.1 h1
  have hk:op.toNat<g.ay.length:=by omega
  have hw:=D1f hg op hk;have ho:(Ac g op).ax.length≤16777216:=by simp only [Ba.w] at hw;omega
  rw [h1,A1q,Ah h1];refine Ar ?_;refine Bg A0 rfl (De (Ac g op).ax) (Bw) (fun _=>Sn _) (by (simp only [Ac] at ho;omega)) (Ft ?_);exact Dk
 have h3:F0 op 0 (g.ay.length-1)=false:=by simpa using h1
 rw [h3,A1q,Ab h1];refine Ar ?_;exact Dk
theorem A0a {x:A3}{n:Nat}(h:x.w≤n):x.az.w≤n:=by simp only [A3.w] at h;omega
end Go.Proofs.YtmhcebdkjgkmlaaGreatDoor
