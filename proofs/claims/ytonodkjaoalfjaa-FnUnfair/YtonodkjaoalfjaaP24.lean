/- Part 24 of the proof that each of the laws FnUnfair returns true for every input. No conditions. -/
import Derived.Test.YtonodkjaoalfjaaP22
import Derived.Test.YtonodkjaoalfjaaP23
import Derived.Test.YtonodkjaoalfjaaP7

set_option linter.unusedSimpArgs false
set_option linter.unusedVariables false
set_option maxRecDepth 100000
namespace Go.Proofs.Ytonodkjaoalfjaa
open Go.Sx
theorem A4r (d:Gb):Pp Try.prog HT 6 d.pins [] [.one (.val d.v)] (fun r:An×List Ac×List Bl=>(Wh r.1∧Po r.1)∧A4h r.2.1∧r.2.2.length≤80) (fun r=>[.agg r.1.c,.one (A8 r.2.1),.one (C4 r.2.2)]):=by
 refine A6f A0 false Try.func6 rfl Cb fun B hH hp=>?_
 conv=>whnf
 refine A54 (A6c d) hp rfl (fun h0 _=>go A0 false ?_)
 conv=>whnf
 refine Cm (Zs d 0 h0 ⟨Int.le_refl _,Int.natCast_nonneg _⟩) hH hp rfl C1 rfl rfl (fun r hr=>go A0 false ?_)
 conv=>whnf
 refine Cm (Zt d r.1 r.2.1 hr.1) hH hp rfl C1 rfl rfl (fun r2 hr2=>go A0 false ?_)
 conv=>whnf
 refine Cm (A1z d r2.1 r2.2.1 80 Cb hr2.1) hH hp rfl C1 rfl rfl (fun r3 hr3=>go A0 false ?_)
 conv=>whnf
 exact A72 A0 (r.2.2,r2.2.2,r3.2.2) ⟨hr.2,hr2.2,hr3.2⟩ rfl rfl C1
theorem A25 {l:List C3}(h:A1g l):Fh ⟨l,1,1⟩:=by
 obtain ⟨G,a,b,k,hG,ha,hb,hk,hl⟩:=h
 have ha:a=1∨a=2∨a=3:=by omega
 have hb:b=0∨b=1∨b=2∨b=3:=by omega
 have hk:k=1∨k=2∨k=3:=by omega
 rcases hl with rfl|rfl|rfl|rfl|rfl
 ·show Fh ⟨[⟨1,0,0,[1]⟩,⟨G,0,0,[2,5]⟩,⟨4,a,0,[3]⟩,⟨3,k,0,[4]⟩,⟨7,0,0,[1]⟩,⟨8,0,0,[]⟩],1,1⟩
  rcases hG with rfl|rfl<;>rcases ha with rfl|rfl|rfl<;>rcases hk with rfl|rfl|rfl<;>decide
 ·rcases hG with rfl|rfl<;>rcases ha with rfl|rfl|rfl<;>rcases hb with rfl|rfl|rfl|rfl<;>decide
 ·rcases hG with rfl|rfl<;>rcases ha with rfl|rfl|rfl<;>rcases hb with rfl|rfl|rfl|rfl<;>decide
 ·rcases hG with rfl|rfl<;>rcases ha with rfl|rfl|rfl<;>rcases hb with rfl|rfl|rfl|rfl<;>decide
 ·rcases hG with rfl|rfl<;>rcases ha with rfl|rfl|rfl<;>rcases hb with rfl|rfl|rfl|rfl<;>decide
theorem A2g {g:An}(h:Po g):Fh g:=by
 obtain ⟨h1,h2,hn⟩:=h
 have:Fh ⟨g.nodes,1,1⟩:=A25 hn
 exact ⟨this.1,by omega,by omega,this.2.2.2⟩
end Go.Proofs.Ytonodkjaoalfjaa
