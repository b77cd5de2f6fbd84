/- Part 45 of the proof that each of the laws FnScriptsBack returns true for every input. No conditions. -/
import Derived.Test.YtmhcebdkjgkmlaaGreatDoorR44

set_option linter.unusedSimpArgs false
set_option linter.unusedVariables false
set_option maxRecDepth 100000
namespace Go.Proofs.YtmhcebdkjgkmlaaGreatDoor
open Go.Sx
def C3t (s:B5):Prop:=(s.ok∧s.w≤1200)∧(A8n s.az.ay∧s.az.ay.length≤7)∧s.ap.length≤6∧(s.an.length≤40∧∀p∈s.an,R7 p)∧(s.aa=0∨s.aa=30∨s.aa=200)
variable {s : B5}
theorem C9y {m:Nat}(h:C0q m s)(hm:m≤40):C3t s:=by
 have hk:=A36 h A7;exact ⟨⟨hk.1,by omega⟩,⟨h.1.1.2.1,h.1.1.2.2.1.2⟩,by have:=h.2.1.1;omega,⟨by have:=h.2.2.1.1;omega,h.2.2.1.2⟩,h.2.2.2⟩
theorem C9x {m:Nat}{x:A9}(h:C0q m s)(hm:m≤40)(hx:x.ok):C3t ⟨s.az,s.ap++[x],s.an,s.aa⟩:=by
 have hk:=A36 h A7;have hl:=h.2.1.1;have hw:s.az.w+s.ap.length+s.an.length≤1100:=hk.2;refine ⟨⟨⟨hk.1.1,⟨?_,fun y hy=>?_⟩,hk.1.2.2.1,hk.1.2.2.2⟩,?_⟩,⟨h.1.1.2.1,h.1.1.2.2.1.2⟩,?_,⟨by have:=h.2.2.1.1;show s.an.length≤40;omega,h.2.2.1.2⟩,h.2.2.2⟩
 ·show (s.ap++[x]).length≤_
  simp only [maxLen,Dn,Jb];omega
 ·rcases Hg.1 hy with hy|hy
  ·exact hk.1.2.1.2 y hy
  rw [Hh.1 hy];exact hx
 ·show s.az.w+(s.ap++[x]).length+s.an.length≤1200
  rw [Dn,Jb];omega
 show (s.ap++[x]).length≤6
 rw [Dn,Jb];omega
theorem C78 (d:Ig):P1 Tryz.prog HT 54 d.pins [] [.one (.val d.v)] (fun s:B5=>C3t s) (fun s=>[.agg s.c]):=by
 refine A1e A0 false Tryz.func54 rfl Bk fun B hH hp=>?_;conv=>whnf
 refine B3r (B66 d) hp rfl (fun h0 _=>go A0 false ?_);conv=>whnf
 refine A2q (Sj d 0 h0 40 Bk ⟨T8 _,A8h _⟩) hH hp rfl I1 rfl rfl (fun r hr=>go A0 false ?_);conv=>whnf
 have hlr:=hr.2.2.1.1;refine Ix (My d r.1 r.2.1 10 hr.1 Bk) hH hp fun s hs=>?_;refine C2 (fun c1=>?_) fun c1=>?_
 ·refine Oj rfl (I0 0 rfl (I0 2 rfl (R0 1 3 ?_ ?_)))
  focus
   refine Aq (Ms 3 ?_);refine Ix (Zk d s.1 s.2.1 hs) hH hp fun t ht=>?_;refine Aq ?_;refine Au [4] Ak ⟨?_,trivial⟩
  rotate_left 1
  focus
   refine Ix (Zk d s.1 s.2.1 hs) hH hp fun t ht=>?_;refine Aq (R0 1 4 ?_ ?_)
   focus
    refine Aq ?_;refine Au [4] Ak ⟨?_,trivial⟩
   rotate_left 1
   focus
    refine Aq ?_;refine Au [1] Ak ⟨?_,trivial⟩
  all_goals
   refine Ag ?_;refine Aq (Ms 5 ?_);refine Bg A0 rfl (Aa (r.2.2.ap++[t.2.2])) (An rfl) Ij A7 (Ag ?_);refine Aq (I0 6 rfl (Ms 7 ?_));refine Aq (Oi Ak (Ag ?_))
  all_goals
   exact V0 A0 (⟨r.2.2.az,r.2.2.ap++[t.2.2],r.2.2.an,r.2.2.aa⟩:B5) (C9x hr.2 Bk ht.2) rfl rfl I1
 exact V0 A0 r.2.2 (C9y hr.2 Bk) rfl rfl I1
theorem C79 (d:Ig):P1 Tryz.prog HT 30 d.pins [] [.one (.val d.v)] (fun x:ByteArray=>x.size≤100000) (fun x=>[.one (vs x)]):=by
 refine A1e A0 false Tryz.func30 rfl Bk fun B hH hp=>?_;conv=>whnf
 refine B3r (B66 d) hp rfl (fun h0 _=>go A0 false ?_);conv=>whnf
 refine A2q (C75 d 0 h0 ⟨T8 _,A8h _⟩) hH hp rfl I1 rfl rfl (fun r hr=>go A0 false ?_);conv=>whnf
 exact V0 A0 r.2.2 hr.2 rfl rfl I1
theorem C6x (h:C0q 8 s):s.w≤1100:=(A36 h Bk).2
set_option maxHeartbeats 1000000 in
theorem D00 (d:Ig):A4g Tryz.prog 29 d.pins [.one (.val d.v)] (fun r:B5×B5=>r.1.w≤1100∧r.2.w≤1100) (fun r=>[.agg r.1.c,.agg r.2.c]):=by
 refine C40 A0 false Tryz.func29 rfl Bk fun W hp=>?_;conv=>whnf
 have hH:∀w,Er.rel ⟨W,fun _=>False⟩ w→HT w:=fun _ _=>trivial
 refine B3r (B66 d) hp rfl (fun h0 _=>go A0 false ?_);conv=>whnf
 refine A2q (Sj d 0 h0 8 Bk ⟨T8 _,A8h _⟩) hH hp rfl I1 rfl rfl (fun r hr=>go A0 false ?_);conv=>whnf
 have hw:=C6x hr.2;refine Ix (My d r.1 r.2.1 2 hr.1 Bk) hH hp fun s hs=>?_;refine C2 (fun c1=>?_) fun c1=>?_
 ·refine Hp (Oe r.2.2.az (by have:=hr.2.1.1.1;omega)) ?_
  refine Oj rfl (R0 0 1 ?_ ?_)
  focus
   refine Aq (R0 1 2 ?_ ?_)
   focus
    refine Aq ?_;refine Au [2] Ak ⟨?_,trivial⟩
   rotate_left 1
   focus
    refine Aq ?_;refine Au [1] Ak ⟨?_,trivial⟩
  rotate_left 2
  focus
   refine Aq (Ms 0 ?_);refine Aq ?_;refine Au [2] Ak ⟨?_,trivial⟩
  all_goals
   refine Ag ?_;refine Aq (Ms 3 ?_);refine Aq (Oi Ak (Ag ?_))
  all_goals
   exact C6u A0 (r.2.2,r.2.2) ⟨hw,hw⟩ rfl I1
 refine Oj rfl (I0 1 rfl (R0 0 2 ?_ ?_))
 focus
  refine Aq (Ms 2 ?_);refine A2q (Sj d s.1 s.2.1 8 Bk hs) hH hp rfl I1 rfl rfl (fun t ht=>go A0 false ?_)
 rotate_left 1
 focus
  refine Ix (Sj d s.1 s.2.1 8 Bk hs) hH hp fun t ht=>?_;refine Aq ?_;refine Au [0] Ak ⟨?_,trivial⟩;refine go A0 false ?_
 all_goals
  conv=>whnf
  refine Aq (Ms 3 ?_);refine Aq (Ms 4 ?_);refine Aq (Oi Ak (Ag ?_))
 all_goals
  exact C6u A0 (r.2.2,t.2.2) ⟨hw,C6x ht.2⟩ rfl I1
theorem C8a (d:Ig):A4g Tryz.prog 21 d.pins [.one (.val d.v)] (fun s:B5=>C3t s) (fun s=>[.agg s.c]):=by
 refine C40 A0 false Tryz.func21 rfl Bk fun W hp=>?_;conv=>whnf
 have hH:∀w,Er.rel ⟨W,fun _=>False⟩ w→HT w:=fun _ _=>trivial
 refine C4c (C78 d) hH hp rfl (fun r hr=>go A0 false ?_);conv=>whnf
 exact C6u A0 r hr rfl I1
end Go.Proofs.YtmhcebdkjgkmlaaGreatDoor
