/- Part 22 of the proof that each of the laws FnUnfair returns true for every input. No conditions. -/
import Derived.Test.YtonodkjaoalfjaaP4
import Derived.Test.YtonodkjaoalfjaaP6
import Derived.Test.YtonodkjaoalfjaaP11

set_option linter.unusedSimpArgs false
set_option linter.unusedVariables false
set_option maxRecDepth 100000
namespace Go.Proofs.Ytonodkjaoalfjaa
open Go.Sx
structure Gb where
 a:Option Addr
 n:Nat
 c:Nat
 b:Nat→Nat
 hb:∀i,b i≤255
 hn:n≤16777216
abbrev Gb.v (d:Gb):Value:= .slice d.a d.n d.c
abbrev Gb.cell (d:Gb):A7:= .sl d.n 1 fun i=>[.val (.int .u8 (d.b i))]
abbrev Gb.pins (d:Gb):List (A7×Value):=[(d.cell,d.v)]
abbrev Gb.cur (d:Gb) (i h:Int):List A7:=[.val d.v,vi i,vi h]
abbrev HT:World→Prop:=fun _=>True
theorem Mp (d:Gb)(i h:Int)(hi:0≤i∧i≤d.n):Dq Try.prog HT 68 d.pins (d.cur i h) [] (fun r:Int×Int×Int=>(0≤r.1∧r.1≤d.n)∧0≤r.2.2∧r.2.2≤255) (fun r=>d.cur r.1 r.2.1) (fun r=>[.one (vi r.2.2)]):=by
 have hn:=d.hn
 refine Ex A0 true Try.func68 rfl Cb fun B b hH hp=>?_
 conv=>whnf
 first|(refine At 2 rfl [0,1,2,3,4,5,6,7,8,9,10,11,12] A6 (go A0 true ?_);conv=>whnf)|(refine At 3 rfl [0,1,2,3,4,5,6,7,8,9] A6 (go A0 true ?_);conv=>whnf)|(refine At 4 rfl [0,1,2,3,4,5,6,7,8,9,10,11,12,13,14] A6 (go A0 true ?_);conv=>whnf)
 refine A7p rfl rfl rfl rfl Cb (fun r=>go A0 true ?_)
 conv=>whnf
 refine A7p rfl rfl rfl rfl Cb (fun r2=>go A0 true ?_)
 conv=>whnf
 refine A75 rfl rfl rfl rfl (fun r3=>go A0 true ?_)
 conv=>whnf
 refine A59 rfl rfl rfl rfl Cb Cb (fun x0 h0 h1=>go A0 true ?_)
 conv=>whnf
 first|(refine At 2 rfl [0,1,2,3,4,5,6,7,8,9,10,11,12] A6 (go A0 true ?_);conv=>whnf)|(refine At 3 rfl [0,1,2,3,4,5,6,7,8,9] A6 (go A0 true ?_);conv=>whnf)|(refine At 4 rfl [0,1,2,3,4,5,6,7,8,9,10,11,12,13,14] A6 (go A0 true ?_);conv=>whnf)
 refine G2 (fun hlt=>?_) fun hlt=>?_<;>conv=>whnf
 ·first|(refine At 2 rfl [0,1,2,3,4,5,6,7,8,9,10,11,12] A6 (go A0 true ?_);conv=>whnf)|(refine At 3 rfl [0,1,2,3,4,5,6,7,8,9] A6 (go A0 true ?_);conv=>whnf)|(refine At 4 rfl [0,1,2,3,4,5,6,7,8,9,10,11,12,13,14] A6 (go A0 true ?_);conv=>whnf)
  refine A7c A0 hp 0 rfl rfl rfl rfl rfl rfl rfl rfl rfl (⟨hi.1,hlt⟩) (go A0 true ?_)
  conv=>whnf
  refine A59 rfl rfl rfl rfl Cb Cb (fun x1 g0 g1=>go A0 true ?_)
  conv=>whnf
  exact C9 A0 (i+1,_,x1) ⟨⟨by omega,by show i+1≤_;omega⟩,g0,g1⟩ rfl rfl rfl rfl ⟨⟨Qq _ _,by show A7.val _=_;rw [show IntKind.i64.wrap (i+1)=i+1 by rw [IntKind.wrap_i64];omega],rfl,trivial⟩,rfl,trivial⟩
 ·exact C9 A0 (i,_,x0) ⟨hi,h0,h1⟩ rfl rfl rfl rfl C1
theorem A50 {i:Int}(h: -9223372036854775808≤i∧i≤9223372036854775807):IntKind.i64.wrap i=i:=by rw [IntKind.wrap_i64];omega
theorem A6c (d:Gb):Ta Try.prog 21 d.pins [.one (.val d.v)] (fun _:Int=>True) (fun h=>d.cur 0 h):=by
 have hn:=d.hn
 refine A16 A0 true Try.func21 rfl Cb fun W hp=>?_
 conv=>whnf
 refine Cc A0 true [] (fun j:Nat×Int=>[(3,.c (vi j.2)),(4,.c (vi j.1))]) (fun j=>[]) (fun j=>[]) (fun j=>(j.1:Int)≤d.n) (fun j=>d.n-j.1) ((0,_)) (Int.natCast_nonneg _) ⟨by first|rfl|simp [Dc,ren2,ren1,ren0],by first|rfl|simp [Dc,ren2,ren1,ren0],trivial⟩ trivial trivial Dg A6 (fun j hj=>?_)
 conv=>whnf
 refine G2 (fun h=>?_) fun h=>?_<;>conv=>whnf
 ·refine Yi (by first|with_reducible rfl|assumption|(simp only [decide_eq_true_eq];omega)|simp) ?_
  conv=>whnf
  refine Yi (by first|with_reducible rfl|assumption|(simp only [decide_eq_true_eq];omega)|simp) ?_
  conv=>whnf
  refine G2 (fun h2=>?_) fun h2=>?_<;>conv=>whnf
  ·refine A7c A0 hp 0 rfl rfl rfl rfl rfl rfl rfl rfl rfl (⟨by omega,h⟩) (go A0 true ?_)
   conv=>whnf
   refine A59 rfl rfl rfl rfl Cb Cb (fun r r0 r1=>go A0 true ?_)
   conv=>whnf
   refine B8 [] ((j.1+1,r)) ((by show ((j.1+1:Nat):Int)≤_;omega)) (by show d.n-(j.1+1)<_;omega) ⟨rfl,(by show AV.c (vi _)=AV.c (vi _);rw [A50 Ag];rfl),trivial⟩ trivial trivial A6 Dg A6
  ·exact A6v A0 j.2 trivial rfl rfl rfl C1
 ·repeat' (first|(refine L9 ?_;conv=>whnf)|(refine La ?_;conv=>whnf)|(refine ⟨fun h=>?_,fun h=>?_⟩<;>conv=>whnf)|(refine He ?_;conv=>whnf)|fail)
  exact A6v A0 j.2 trivial rfl rfl rfl C1
theorem Cv (d:Gb)(i h n:Int)(hi:0≤i∧i≤d.n)(hn:n≤1099511627776):Dq Try.prog HT 46 d.pins (d.cur i h) [.one (vi n)] (fun r:Int×Int×Int=>(0≤r.1∧r.1≤d.n)∧0≤r.2.2∧(n≤0→r.2.2=0)∧(0<n→r.2.2<n)) (fun r=>d.cur r.1 r.2.1) (fun r=>[.one (vi r.2.2)]):=by
 have hdn:=d.hn
 refine Ex A0 false Try.func46 rfl Cb fun B b hH hp=>?_
 conv=>whnf
 refine G2 (fun h0=>?_) fun h0=>?_<;>conv=>whnf
 ·exact C9 A0 (i,h,0) ⟨hi,Int.le_refl _,fun _=>rfl,fun h=>by omega⟩ rfl rfl rfl rfl C1
 ·refine G2 (fun h1=>?_) fun h1=>?_<;>conv=>whnf
  ·refine Cm (Mp d i h hi) hH hp rfl C1 rfl rfl (fun r hr=>go A0 false ?_)
   conv=>whnf
   (repeat refine Ak ?_)
   exact C9 A0 (r.1,r.2.1,r.2.2.tmod n) ⟨hr.1,Int.tmod_nonneg _ hr.2.1,fun h=>by omega,fun h=>Int.tmod_lt_of_pos _ h⟩ rfl rfl rfl rfl C1
  ·refine Cm (Mp d i h hi) hH hp rfl C1 rfl rfl (fun r hr=>go A0 false ?_)
   conv=>whnf
   refine Cm (Mp d r.1 r.2.1 hr.1) hH hp rfl C1 rfl rfl (fun r2 hr2=>go A0 false ?_)
   conv=>whnf
   refine Cm (Mp d r2.1 r2.2.1 hr2.1) hH hp rfl C1 rfl rfl (fun r3 hr3=>go A0 false ?_)
   conv=>whnf
   refine Cm (Mp d r3.1 r3.2.1 hr3.1) hH hp rfl C1 rfl rfl (fun r4 hr4=>go A0 false ?_)
   conv=>whnf
   (repeat refine Ak ?_)
   exact C9 A0 (r4.1,r4.2.1,(r.2.2 * 16777216+r2.2.2 * 65536+r3.2.2 * 256+r4.2.2).tmod n) ⟨hr4.1,Int.tmod_nonneg _ Ag,fun h=>by omega,fun h=>Int.tmod_lt_of_pos _ h⟩ rfl rfl rfl rfl C1
theorem A4p (d:Gb)(i h n:Int)(hi:0≤i∧i≤d.n)(hn:n≤1099511627776):Dq Try.prog HT 47 d.pins (d.cur i h) [.one (vi n)] (fun r:Int×Int×Bool=>0≤r.1∧r.1≤d.n) (fun r=>d.cur r.1 r.2.1) (fun r=>[.one (vb r.2.2)]):=by
 refine Ex A0 false Try.func47 rfl Cb fun B b hH hp=>?_
 conv=>whnf
 refine Cm (Cv d i h n hi hn) hH hp rfl C1 rfl rfl (fun r hr=>go A0 false ?_)
 conv=>whnf
 exact C9 A0 (r.1,r.2.1,_) hr.1 rfl rfl rfl rfl C1
theorem Wm (d:Gb)(i h:Int)(xs:List Int)(hi:0≤i∧i≤d.n)(hx:0<xs.length∧xs.length≤16777216):Dq Try.prog HT 69 d.pins (d.cur i h) [.one (Ds xs)] (fun r:Int×Int×Nat=>(0≤r.1∧r.1≤d.n)∧r.2.2<xs.length) (fun r=>d.cur r.1 r.2.1) (fun r=>[.one (vi (xs.getD r.2.2 0))]):=by
 refine Ex A0 false Try.func69 rfl Cb fun B b hH hp=>?_
 conv=>whnf
 refine Cm (Cv d i h xs.length hi Ag) hH hp rfl C1 rfl rfl (fun r hr=>go A0 false ?_)
 conv=>whnf
 (repeat refine Ak ?_)
 exact C9 A0 (r.1,r.2.1,r.2.2.toNat) ⟨hr.1,by have:=hr.2.2.2 Ag;show r.2.2.toNat<_;omega⟩ rfl rfl rfl rfl C1
def A4h (ins:List Ac):Prop:=ins.length≤5∧∀r∈ins,r.op=0∧r.stamp.turn=0∧(0≤r.stamp.epoch∧r.stamp.epoch≤3)∧(0≤r.key∧r.key≤11)∧(0≤r.val∧r.val≤39)
theorem A0g {xs:List Ac}{e k v:Int}(h:∀r∈xs,r.op=0∧r.stamp.turn=0∧(0≤r.stamp.epoch∧r.stamp.epoch≤3)∧(0≤r.key∧r.key≤11)∧(0≤r.val∧r.val≤39))(he:0≤e∧e≤3)(hk:0≤k∧k≤11)(hv:0≤v∧v≤39):
  ∀r∈xs++[(⟨0,⟨e,0⟩,k,v⟩:Ac)],r.op=0∧r.stamp.turn=0∧(0≤r.stamp.epoch∧r.stamp.epoch≤3)∧(0≤r.key∧r.key≤11)∧(0≤r.val∧r.val≤39):=fun r hr=>by
 rcases List.mem_append.1 hr with hr|hr
 ·exact h r hr
 ·rw [List.mem_singleton.1 hr]
  exact ⟨rfl,rfl,he,hk,hv⟩
structure JIn where
 k:Nat
 i:Int
 h:Int
 e:Int
 xs:List Ac
theorem Zt (d:Gb)(i h:Int)(hi:0≤i∧i≤d.n):Dq Try.prog HT 23 d.pins (d.cur i h) [] (fun r:Int×Int×List Ac=>(0≤r.1∧r.1≤d.n)∧A4h r.2.2) (fun r=>d.cur r.1 r.2.1) (fun r=>[.one (A8 r.2.2)]):=by
 refine Ex A0 false Try.func23 rfl Cb fun B b hH hp=>?_
 conv=>whnf
 refine Du 1 (A8 []) rfl (Cn rfl D8) ?_
 refine Cc A0 false [6] (fun j:JIn=>[(4,.c (vi j.e)),(5,.c (vi j.k))]) (fun j=>[⟨0,[.c (.val d.v),.c (vi j.i),.c (vi j.h)]⟩]) (fun j=>[⟨1,A8 j.xs⟩]) (fun j=>(0≤j.i∧j.i≤d.n)∧j.k≤5∧j.xs.length=j.k∧(0≤j.e∧j.e≤2)∧∀r∈j.xs,r.op=0∧r.stamp.turn=0∧(0≤r.stamp.epoch∧r.stamp.epoch≤3)∧(0≤r.key∧r.key≤11)∧(0≤r.val∧r.val≤39)) (fun j=>5-j.k) (⟨0,i,h,0,[]⟩) (⟨hi,Nat.zero_le _,rfl,⟨Int.le_refl _,(by decide:(0:Int)≤2)⟩,fun r hr=>(List.not_mem_nil hr).elim⟩) ⟨by first|rfl|simp [Dc,ren2,ren1,ren0],by first|rfl|simp [Dc,ren2,ren1,ren0],trivial⟩ D8 ⟨by first|rfl|exact (congrArg (fun l=>Dz _ _ l) (List.append_nil _)).symm|(show (_:A7)=_;simp)|simp,trivial⟩ Dg A6 (fun j hj=>?_)
 conv=>whnf
 obtain ⟨hi,hk,hx,he,hA⟩:=hj
 refine Cm (Cv d j.i j.h 6 hi Cb) hH hp rfl C1 rfl rfl (fun r hr=>go A0 false ?_)
 conv=>whnf
 refine G2 (fun hlt=>?_) fun hlt=>?_<;>conv=>whnf
 ·have hlt2:r.2.2<6:=hr.2.2.2 Ag
  refine Cm (Cv d r.1 r.2.1 2 hr.1 Cb) hH hp rfl C1 rfl rfl (fun r2 hr2=>go A0 false ?_)
  conv=>whnf
  have hr2b:r2.2.2<2:=hr2.2.2.2 Ag
  (repeat refine Ak ?_)
  refine B7 (P4 (j.e+r2.2.2) 0 2) rfl (Af ?_)
  have hB:=G1 (j.e+r2.2.2) 0 2 Cb
  refine Cm (Cv d r2.1 r2.2.1 12 hr2.1 Cb) hH hp rfl C1 rfl rfl (fun r3 hr3=>go A0 false ?_)
  conv=>whnf
  refine Cm (Cv d r3.1 r3.2.1 40 hr3.1 Cb) hH hp rfl C1 rfl rfl (fun r4 hr4=>go A0 false ?_)
  conv=>whnf
  have hk3:=hr3.2.2.2 Ag
  have hv4:=hr4.2.2.2 Ag
  refine B4 A0 rfl rfl rfl rfl rfl rfl rfl rfl rfl rfl rfl (A8 (j.xs++[⟨0,⟨Dn (j.e+r2.2.2) 0 2,0⟩,r3.2.2,r4.2.2⟩])) (B5 rfl) Ia Ag (Af ?_)
  (repeat refine Ak ?_)
  refine B8 [(1,3)] (⟨j.k+1,r4.1,r4.2.1,Dn (j.e+r2.2.2) 0 2,j.xs++[⟨0,⟨Dn (j.e+r2.2.2) 0 2,0⟩,r3.2.2,r4.2.2⟩]⟩) (⟨hr4.1,by show j.k+1≤5;omega,by simp [hx],hB,A0g hA ⟨hB.1,by omega⟩ ⟨hr3.2.1,by omega⟩ ⟨hr4.2.1,by omega⟩⟩) (by show 5-(j.k+1)<_;omega) ⟨rfl,rfl,trivial⟩ ⟨rfl,trivial⟩ D8 A6 Dg A6
 ·exact C9 A0 (r.1,r.2.1,j.xs) ⟨hr.1,by show j.xs.length≤5;omega,hA⟩ rfl rfl rfl rfl C1
end Go.Proofs.Ytonodkjaoalfjaa
