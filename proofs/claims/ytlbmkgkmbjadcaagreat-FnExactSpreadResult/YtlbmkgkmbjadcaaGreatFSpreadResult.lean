/- Part 43 of the proof that the law FnExactSpreadResult returns true for every input. No conditions. -/
import Derived.Test.YtlbmkgkmbjadcaaGreatP40
import Derived.Test.YtlbmkgkmbjadcaaGreatP41
import Derived.Test.YtlbmkgkmbjadcaaGreatRows
import Derived.WalkKit
import Derived.ProofKit
import Derived.OpenShut
import Derived.ShutString
import Derived.ChangeOld
import Derived.Below
import Derived.KernelRfl

set_option linter.unusedSimpArgs false
set_option linter.unusedVariables false
set_option maxRecDepth 100000
namespace Go.Proofs.YtlbmkgkmbjadcaaGreat
open Go.Sx
theorem law (x0:Ar)(x1:List A3)(x2:Int)(x3:Int)(x4:Int)(o0:x0.ok)(o1:(x1.length≤maxLen∧∀y∈x1,y.ok))(_o2:G8 .i64 x2)(_o3:G8 .i64 x3)(_o4:G8 .i64 x4):Aq Tryz.prog 4 [.agg x0.c,.one (A9 x1),.one (vi x2),.one (vi x3),.one (vi x4)] [.one (vb true)]:=by
 refine Aj A0 false Tryz.func4 rfl Bs fun W=>?_
 conv=>whnf
 try (first|(refine Ak 14 rfl [0,1,2,3,4] A5 (Ae ?_)))
 refine Ai (A8b x0 (1048576) o0 Ad Ad) rfl (Ae ?_)
 try (first|(refine Ak 14 rfl [0,1,2,3,4] A5 (Ae ?_)))
 refine ⟨fun h=>?_,fun h=>?_⟩<;>simp only [decide_eq_true_eq,decide_eq_false_iff_not] at h<;>conv=>whnf
 ·exact Ah A0 rfl rfl ⟨rfl,trivial⟩
 have g0:=O7 h
 rw [Ga g0]
 have h0:x0.w≤1048576:=by omega
 refine Ai (A0a x1 (1048576-(x0.w:Nat)) o1.1 Ad Ad) rfl (Ae ?_)
 try (first|(refine Ak 14 rfl [0,1,2,3,4] A5 (Ae ?_)))
 refine ⟨fun h=>?_,fun h=>?_⟩<;>simp only [decide_eq_true_eq,decide_eq_false_iff_not] at h<;>conv=>whnf
 ·exact Ah A0 rfl rfl ⟨rfl,trivial⟩
 have g1:=O7 h
 rw [Ga g1]
 have h1:x1.length≤1048576:=by omega
 have hm0:=Ar.cntV_le x0
 have hm1:=A3.sum_le x1
 have hb0:=A6n x0 x1 x2 x3 x4 Ad
 have hr0:=Aa.sum_le ((Ec x0 x1 x2 x3 x4).1)
 try (first|(refine Ak 14 rfl [0,1,2,3,4] A5 (Ae ?_)))
 refine Ai (Sl x0 h0) rfl (Ae ?_)
 try (first|(refine Ak 14 rfl [0,1,2,3,4] A5 (Ae ?_)))
 refine Ai (N3 x1 h1) rfl (Ae ?_)
 try (first|(refine Ak 14 rfl [0,1,2,3,4] A5 (Ae ?_)))
 refine Ai (Tl x0 x1 x2 x3 x4 Ad Ad) rfl (Ae ?_)
 try (first|(refine Ak 14 rfl [0,1,2,3,4] A5 (Ae ?_)))
 refine Av (Sl x0 h0) rfl (Ae ?_)
 try (first|(refine Ak 14 rfl [0,1,2,3,4] A5 (Ae ?_)))
 refine Av (N3 x1 h1) rfl (Ae ?_)
 try (first|(refine Ak 14 rfl [0,1,2,3,4] A5 (Ae ?_)))
 try (first|(refine Ak 14 rfl [0,1,2,3,4] A5 (Ae ?_)))
 refine Av (My x0 x1 x2 x3 x4 Ad Ad) rfl (Ae ?_)
 try (first|(refine Ak 14 rfl [0,1,2,3,4] A5 (Ae ?_)))
 refine Ai (Ro ((Ec x0 x1 x2 x3 x4).1) hb0) rfl (Ae ?_)
 try (first|(refine Ak 14 rfl [0,1,2,3,4] A5 (Ae ?_)))
 repeat (first|(refine F7 Ew ?_;conv=>whnf)|(refine ⟨fun h=>absurd h Iv,fun _=>?_⟩;conv=>whnf)|(refine Fs Ew ?_;conv=>whnf))
 try (first|(refine Ak 14 rfl [0,1,2,3,4] A5 (Ae ?_)))
 repeat (first|(refine F7 Ew ?_;conv=>whnf)|(refine ⟨fun h=>absurd h Iv,fun _=>?_⟩;conv=>whnf)|(refine Fs Ew ?_;conv=>whnf))
 try (first|(refine Ak 14 rfl [0,1,2,3,4] A5 (Ae ?_)))
 refine Ai (Sl x0 h0) rfl (Ae ?_)
 try (first|(refine Ak 14 rfl [0,1,2,3,4] A5 (Ae ?_)))
 refine Ai (A7d x0 h0) rfl (Ae ?_)
 try (first|(refine Ak 14 rfl [0,1,2,3,4] A5 (Ae ?_)))
 repeat (first|(refine F7 Ew ?_;conv=>whnf)|(refine ⟨fun h=>absurd h Iv,fun _=>?_⟩;conv=>whnf)|(refine Fs Ew ?_;conv=>whnf))
 try (first|(refine Ak 14 rfl [0,1,2,3,4] A5 (Ae ?_)))
 refine Ai (N3 x1 h1) rfl (Ae ?_)
 try (first|(refine Ak 14 rfl [0,1,2,3,4] A5 (Ae ?_)))
 refine Ai (Z5 x1 h1) rfl (Ae ?_)
 try (first|(refine Ak 14 rfl [0,1,2,3,4] A5 (Ae ?_)))
 repeat (first|(refine F7 Ew ?_;conv=>whnf)|(refine ⟨fun h=>absurd h Iv,fun _=>?_⟩;conv=>whnf)|(refine Fs Ew ?_;conv=>whnf))
 try (first|(refine Ak 14 rfl [0,1,2,3,4] A5 (Ae ?_)))
 refine H7 (T9 x0 (1) Ad Ad) (by exact ⟨rfl,rfl,rfl,trivial⟩) (by exact ⟨trivial,trivial,trivial,trivial⟩) rfl rfl rfl (Ae ?_)
 try (first|(refine Ak 14 rfl [0,1,2,3,4] A5 (Ae ?_)))
 refine H7 (Iq x1 (1+((x0).cntV:Nat)) Ad Ad) rfl trivial rfl rfl rfl (Ae ?_)
 try (first|(refine Ak 14 rfl [0,1,2,3,4] A5 (Ae ?_)))
 repeat (first|(refine F7 Ew ?_;conv=>whnf)|(refine ⟨fun h=>absurd h Iv,fun _=>?_⟩;conv=>whnf)|(refine Fs Ew ?_;conv=>whnf))
 try (first|(refine Ak 14 rfl [0,1,2,3,4] A5 (Ae ?_)))
 refine Ai (Ro ((Ec x0 x1 x2 x3 x4).1) hb0) rfl (Ae ?_)
 try (first|(refine Ak 14 rfl [0,1,2,3,4] A5 (Ae ?_)))
 repeat (first|(refine F7 Ew ?_;conv=>whnf)|(refine ⟨fun h=>absurd h Iv,fun _=>?_⟩;conv=>whnf)|(refine Fs Ew ?_;conv=>whnf))
 try (first|(refine Ak 14 rfl [0,1,2,3,4] A5 (Ae ?_)))
 repeat (first|(refine F7 Ew ?_;conv=>whnf)|(refine ⟨fun h=>absurd h Iv,fun _=>?_⟩;conv=>whnf)|(refine Fs Ew ?_;conv=>whnf))
 try (first|(refine Ak 14 rfl [0,1,2,3,4] A5 (Ae ?_)))
 refine H7 (Zj ((Ec x0 x1 x2 x3 x4).1) (1) Ad Ad) rfl trivial rfl rfl rfl (Ae ?_)
 try (first|(refine Ak 14 rfl [0,1,2,3,4] A5 (Ae ?_)))
 refine Ai (T2 ((Ec x0 x1 x2 x3 x4).1) (1) Ad Ad) rfl (Ae ?_)
 try (first|(refine Ak 14 rfl [0,1,2,3,4] A5 (Ae ?_)))
 repeat (first|(refine F7 Ew ?_;conv=>whnf)|(refine ⟨fun h=>absurd h Iv,fun _=>?_⟩;conv=>whnf)|(refine Fs Ew ?_;conv=>whnf))
 try (first|(refine Ak 14 rfl [0,1,2,3,4] A5 (Ae ?_)))
 repeat (first|(refine F7 Ew ?_;conv=>whnf)|(refine ⟨fun h=>absurd h Iv,fun _=>?_⟩;conv=>whnf)|(refine Fs Ew ?_;conv=>whnf))
 try (first|(refine Ak 14 rfl [0,1,2,3,4] A5 (Ae ?_)))
 try (first|(refine Ak 14 rfl [0,1,2,3,4] A5 (Ae ?_)))
 refine Ai (Sl x0 h0) rfl (Ae ?_)
 try (first|(refine Ak 14 rfl [0,1,2,3,4] A5 (Ae ?_)))
 refine Ai (N3 x1 h1) rfl (Ae ?_)
 try (first|(refine Ak 14 rfl [0,1,2,3,4] A5 (Ae ?_)))
 refine Ai (My x0 x1 x2 x3 x4 Ad Ad) rfl (Ae ?_)
 try (first|(refine Ak 14 rfl [0,1,2,3,4] A5 (Ae ?_)))
 refine Ai (Ro ((Ec x0 x1 x2 x3 x4).1) hb0) rfl (Ae ?_)
 try (first|(refine Ak 14 rfl [0,1,2,3,4] A5 (Ae ?_)))
 repeat (first|(refine F7 Ew ?_;conv=>whnf)|(refine ⟨fun h=>absurd h Iv,fun _=>?_⟩;conv=>whnf)|(refine Fs Ew ?_;conv=>whnf))
 try (first|(refine Ak 14 rfl [0,1,2,3,4] A5 (Ae ?_)))
 repeat (first|(refine F7 Ew ?_;conv=>whnf)|(refine ⟨fun h=>absurd h Iv,fun _=>?_⟩;conv=>whnf)|(refine Fs Ew ?_;conv=>whnf))
 try (first|(refine Ak 14 rfl [0,1,2,3,4] A5 (Ae ?_)))
 refine Ai (T2 ((Ec x0 x1 x2 x3 x4).1) (1) Ad Ad) rfl (Ae ?_)
 try (first|(refine Ak 14 rfl [0,1,2,3,4] A5 (Ae ?_)))
 repeat (first|(refine F7 Ew ?_;conv=>whnf)|(refine ⟨fun h=>absurd h Iv,fun _=>?_⟩;conv=>whnf)|(refine Fs Ew ?_;conv=>whnf))
 try (first|(refine Ak 14 rfl [0,1,2,3,4] A5 (Ae ?_)))
 repeat (first|(refine F7 Ew ?_;conv=>whnf)|(refine ⟨fun h=>absurd h Iv,fun _=>?_⟩;conv=>whnf)|(refine Fs Ew ?_;conv=>whnf))
 try (first|(refine Ak 14 rfl [0,1,2,3,4] A5 (Ae ?_)))
 exact Ah A0 rfl rfl ⟨rfl,trivial⟩
end Go.Proofs.YtlbmkgkmbjadcaaGreat
set_option maxRecDepth 100000
namespace Go.Proofs.YtlbmkgkmbjadcaaGreat
open Go.ChangeShapes Go.WideShapes Go.ChangeAt Go.RowKit
open Go.Sx
theorem own:ownKnob Tryz.prog.godebug=none:=by kernel_rfl
theorem Nu:laidOutB Tryz.prog=true:=by kernel_rfl
theorem R3 {w w':World}{e:Ending}(h:Ms w w' [.one (vb true)] e):e= .returned (.bool true)∧Below w.heap.size w w':=by
 obtain ⟨hb,rs,fps,he,hl,ho,_⟩:=h
 match rs,hl with
 | [r],_=>
  have:=ho 0 _ rfl
  simp only [List.getD_cons_zero] at this
  have e1:r= .bool true:=by
   change Ch w' (vb true) r (fps 0) at this
   generalize fps 0=g at this
   cases this;rfl
  subst e1
  exact ⟨he,hb⟩
theorem Ev {f:Nat}{cs:List Ab}(h:C9 Tryz.prog f 3 cs):∃x:Int,G8 .i64 x∧Wk cs ([vi x]):=by
 cases f with
 |zero=>exact h.elim
 |succ f=>
  simp only [C9,Tryz.underlying3] at h
  obtain ⟨n,h1,rfl⟩:=h
  exact ⟨n,h1,.refl _⟩
theorem A1p {f:Nat}{cs:List Ab}(h:C9 Tryz.prog f 129 cs):∃x:List Int,(x.length≤maxLen∧∀y∈x,G8 .i64 y)∧Wk cs ([Eu x]):=by
 cases f with
 |zero=>exact h.elim
 |succ f=>
  simp only [C9,Tryz.underlying129] at h
  obtain ⟨n,row,hn,rfl,hr⟩:=h
  rw [show Tryz.prog.cellsOf 3=1 by kernel_rfl]
  obtain ⟨xs,hl,ho,hw⟩:=Y1 (e:=(fun n=>[vi n])) (ok:=fun y=>G8 .i64 y) (fun i hi=>Ev (hr i hi))
  exact ⟨xs,⟨by omega,ho⟩,hw⟩
theorem A1o {f:Nat}{cs:List Ab}(h:C9 Tryz.prog f 166 cs):∃x:Au,x.ok∧Wk cs (x.c):=by
 cases f with
 |zero=>exact h.elim
 |succ f=>
  simp only [C9,Tryz.underlying166] at h
  change Hq (C9 Tryz.prog f) [3,3,3,129] cs at h
  obtain ⟨_,_,rfl,h0,_,_,rfl,h1,_,_,rfl,h2,_,_,rfl,h3,rfl⟩:=h
  obtain ⟨x0,o0,w0⟩:=Ev h0
  obtain ⟨x1,o1,w1⟩:=Ev h1
  obtain ⟨x2,o2,w2⟩:=Ev h2
  obtain ⟨x3,o3,w3⟩:=A1p h3
  exact ⟨⟨x0,x1,x2,x3⟩,⟨o0,o1,o2,o3⟩,(w0.append (w1.append (w2.append (w3.append (Wk.refl [])))))⟩
theorem Xl {f:Nat}{cs:List Ab}(h:C9 Tryz.prog f 22 cs):∃x:List Au,(x.length≤maxLen∧∀y∈x,y.ok)∧Wk cs ([Bb x]):=by
 cases f with
 |zero=>exact h.elim
 |succ f=>
  simp only [C9,Tryz.underlying22] at h
  obtain ⟨n,row,hn,rfl,hr⟩:=h
  rw [show Tryz.prog.cellsOf 166=4 by kernel_rfl]
  obtain ⟨xs,hl,ho,hw⟩:=Y1 (e:=Au.c) (ok:=fun y=>y.ok) (fun i hi=>A1o (hr i hi))
  exact ⟨xs,⟨by omega,ho⟩,hw⟩
theorem Xk {f:Nat}{cs:List Ab}(h:C9 Tryz.prog f 24 cs):∃x:Ar,x.ok∧Wk cs (x.c):=by
 cases f with
 |zero=>exact h.elim
 |succ f=>
  simp only [C9,Tryz.underlying24] at h
  change Hq (C9 Tryz.prog f) [22,3,3] cs at h
  obtain ⟨_,_,rfl,h0,_,_,rfl,h1,_,_,rfl,h2,rfl⟩:=h
  obtain ⟨x0,o0,w0⟩:=Xl h0
  obtain ⟨x1,o1,w1⟩:=Ev h1
  obtain ⟨x2,o2,w2⟩:=Ev h2
  exact ⟨⟨x0,x1,x2⟩,⟨o0,o1,o2⟩,(w0.append (w1.append (w2.append (Wk.refl []))))⟩
theorem Xm {f:Nat}{cs:List Ab}(h:C9 Tryz.prog f 105 cs):∃x:Dq,x.ok∧Wk cs (x.c):=by
 cases f with
 |zero=>exact h.elim
 |succ f=>
  simp only [C9,Tryz.underlying105] at h
  change Hq (C9 Tryz.prog f) [3,3] cs at h
  obtain ⟨_,_,rfl,h0,_,_,rfl,h1,rfl⟩:=h
  obtain ⟨x0,o0,w0⟩:=Ev h0
  obtain ⟨x1,o1,w1⟩:=Ev h1
  exact ⟨⟨x0,x1⟩,⟨o0,o1⟩,(w0.append (w1.append (Wk.refl [])))⟩
theorem Tk {f:Nat}{cs:List Ab}(h:C9 Tryz.prog f 107 cs):∃x:A3,x.ok∧Wk cs (x.c):=by
 cases f with
 |zero=>exact h.elim
 |succ f=>
  simp only [C9,Tryz.underlying107] at h
  change Hq (C9 Tryz.prog f) [3,105,3,3] cs at h
  obtain ⟨_,_,rfl,h0,_,_,rfl,h1,_,_,rfl,h2,_,_,rfl,h3,rfl⟩:=h
  obtain ⟨x0,o0,w0⟩:=Ev h0
  obtain ⟨x1,o1,w1⟩:=Xm h1
  obtain ⟨x2,o2,w2⟩:=Ev h2
  obtain ⟨x3,o3,w3⟩:=Ev h3
  exact ⟨⟨x0,x1,x2,x3⟩,⟨o0,o1,o2,o3⟩,(w0.append (w1.append (w2.append (w3.append (Wk.refl [])))))⟩
theorem Rc {f:Nat}{cs:List Ab}(h:C9 Tryz.prog f 25 cs):∃x:List A3,(x.length≤maxLen∧∀y∈x,y.ok)∧Wk cs ([A9 x]):=by
 cases f with
 |zero=>exact h.elim
 |succ f=>
  simp only [C9,Tryz.underlying25] at h
  obtain ⟨n,row,hn,rfl,hr⟩:=h
  rw [show Tryz.prog.cellsOf 107=5 by kernel_rfl]
  obtain ⟨xs,hl,ho,hw⟩:=Y1 (e:=A3.c) (ok:=fun y=>y.ok) (fun i hi=>Tk (hr i hi))
  exact ⟨xs,⟨by omega,ho⟩,hw⟩
theorem A5r (os:Os)(started:os.Started)(H:Type)(enc:TypeId×Value→H):
  ReturnsInHanded {} Tryz.checked os 4 .any (Rows.fnExactSpreadResultSpec.pre6 enc Tryz.prog Tryz.f4 Rows.fnExactSpreadResultRow.domain false) (Rows.fnExactSpreadResultSpec.post enc Tryz.prog Tryz.f4 false true false false):=by
 refine returnsInHanded_of_change (C:=Tryz.checked) own started A5 Tryz.func4
  (ChangeSpec.witness6 (enc:=enc) (C:=Tryz.checked) false ⟨#[],#[.agg #[.slice none 0 0,.int .i64 0,.int .i64 0],.slice none 0 0,.int .i64 0,.int .i64 0,.int .i64 0],[]⟩ 8 A5 A5 A5 A5) ?_
 intro W base args ds gs before hval0 hW hcnd _
 have hval:∀(j:Nat) t v,Tryz.f4.params[j]? =some t→args[j]? =some v→Value.okWide Tryz.prog W .any base t v:=hval0
 have hW':=hW
 obtain ⟨p,q,hA0,hV,rfl,hfz,hnd⟩:=hW
 have hA:DataW.TrodAll enc Tryz.prog W 0 (fun _=>true) true Tryz.f4.params.toList args.toList ds p:=hA0
 rw [Tryz.params4] at hA hval
 obtain ⟨v0,vs0,d0,ds0,p0,q0,hargs,rfl,rfl,t0,r0⟩:=trodAll_cons hA
 obtain ⟨v1,vs1,d1,ds1,p1,q1,rfl,rfl,rfl,t1,r1⟩:=trodAll_cons r0
 obtain ⟨v2,vs2,d2,ds2,p2,q2,rfl,rfl,rfl,t2,r2⟩:=trodAll_cons r1
 obtain ⟨v3,vs3,d3,ds3,p3,q3,rfl,rfl,rfl,t3,r3⟩:=trodAll_cons r2
 obtain ⟨v4,vs4,d4,ds4,p4,q4,rfl,rfl,rfl,t4,r4⟩:=trodAll_cons r3
 obtain ⟨rfl,rfl,rfl⟩:=trodAll_nil r4
 obtain rfl:args= #[v0,v1,v2,v3,v4]:=by cases args;simp_all
 obtain ⟨rfl,rfl⟩:=trodVars_none hV
 obtain ⟨c0,rfl,z0⟩:=okWide_struct Tryz.underlying24 (hval 0 24 v0 rfl rfl)
 have k0:=t0
 have lt0:∀x∈p0,x.block<W.heap.size:=by obtain ⟨m,hm⟩:=k0;exact DataW.trod_lt m _ _ _ hm
 obtain ⟨f0,hf0⟩:=t0
 obtain ⟨xs0,rep0,sh0⟩:=N4 f0 24 _ _ 9 A5 hf0
 obtain ⟨x0,o0,w0⟩:=Xk sh0
 obtain ⟨a1,len1,cap1,rfl⟩:=okWide_slice Tryz.underlying25 (hval 1 25 v1 rfl rfl)
 have k1:=t1
 have lt1:∀x∈p1,x.block<W.heap.size:=by obtain ⟨m,hm⟩:=k1;exact DataW.trod_lt m _ _ _ hm
 obtain ⟨f1,hf1⟩:=t1
 obtain ⟨xs1,rep1,sh1⟩:=N4 f1 25 _ _ 9 A5 hf1
 obtain ⟨x1,o1,w1⟩:=Rc sh1
 obtain ⟨n2,rfl⟩:=okWide_int Tryz.underlying3 (hval 2 3 v2 rfl rfl)
 have k2:=t2
 have lt2:∀x∈p2,x.block<W.heap.size:=by obtain ⟨m,hm⟩:=k2;exact DataW.trod_lt m _ _ _ hm
 obtain ⟨f2,hf2⟩:=t2
 obtain ⟨xs2,rep2,sh2⟩:=N4 f2 3 _ _ 9 A5 hf2
 obtain ⟨x2,o2,w2⟩:=Ev sh2
 obtain ⟨n3,rfl⟩:=okWide_int Tryz.underlying3 (hval 3 3 v3 rfl rfl)
 have k3:=t3
 have lt3:∀x∈p3,x.block<W.heap.size:=by obtain ⟨m,hm⟩:=k3;exact DataW.trod_lt m _ _ _ hm
 obtain ⟨f3,hf3⟩:=t3
 obtain ⟨xs3,rep3,sh3⟩:=N4 f3 3 _ _ 9 A5 hf3
 obtain ⟨x3,o3,w3⟩:=Ev sh3
 obtain ⟨n4,rfl⟩:=okWide_int Tryz.underlying3 (hval 4 3 v4 rfl rfl)
 have k4:=t4
 have lt4:∀x∈p4,x.block<W.heap.size:=by obtain ⟨m,hm⟩:=k4;exact DataW.trod_lt m _ _ _ hm
 obtain ⟨f4,hf4⟩:=t4
 obtain ⟨xs4,rep4,sh4⟩:=N4 f4 3 _ _ 9 A5 hf4
 obtain ⟨x4,o4,w4⟩:=Ev sh4
 clear hA0 hval0
 refine ((law x0 x1 x2 x3 x4 o0 o1 o2 o3 o4).2 W [_,_,_,_,_] rfl (fun i z hz=>?_)).mono fun e W' hg=>?_
 ·match i,hz with
  | 0,hz=>simp only [List.getElem?_cons_zero,Option.some.injEq] at hz;subst hz;exact (w0.repL rep0).aggs
  | 1,hz=>simp only [List.getElem?_cons_succ,List.getElem?_cons_zero,Option.some.injEq] at hz;subst hz;exact (w1.repL rep1).arg1
  | 2,hz=>simp only [List.getElem?_cons_succ,List.getElem?_cons_zero,Option.some.injEq] at hz;subst hz;exact (w2.repL rep2).arg1
  | 3,hz=>simp only [List.getElem?_cons_succ,List.getElem?_cons_zero,Option.some.injEq] at hz;subst hz;exact (w3.repL rep3).arg1
  | 4,hz=>simp only [List.getElem?_cons_succ,List.getElem?_cons_zero,Option.some.injEq] at hz;subst hz;exact (w4.repL rep4).arg1
  |i+5,hz=>simp at hz
 obtain ⟨he,bel⟩:=R3 hg
 subst he
 exact ⟨_,rfl,_,_,_,[],_,[],hW',trodAll_mk1 (shut_bool Tryz.underlying4 _),(trodAll_cons_mk (Below.trod Nu A5 (of_decide_eq_true A5) k0 bel lt0) (trodAll_cons_mk (Below.trod Nu A5 (of_decide_eq_true A5) k1 bel lt1) (trodAll_cons_mk (Below.trod Nu A5 (of_decide_eq_true A5) k2 bel lt2) (trodAll_cons_mk (Below.trod Nu A5 (of_decide_eq_true A5) k3 bel lt3) (trodAll_cons_mk (Below.trod Nu A5 (of_decide_eq_true A5) k4 bel lt4) trodAll_mk0))))),rfl,bel.frame _,fun h=>by cases h⟩
theorem B6a:Rows.fnExactSpreadResultRow.holds Tryz.pinned (OpenSpec.ofChange Rows.fnExactSpreadResultSpec):=
 OpenClaim.holds_of_wide 4 Tryz.f4 rfl rfl rfl rfl rfl rfl rfl ⟨rfl,rfl,rfl,rfl,rfl⟩ rfl rfl rfl rfl rfl A5 Tryz.func4 A5
  (of_decide_eq_true A5) (by unfold Func.isWrapper;first|(rw [if_pos (by decide+kernel)];kernel_rfl)|(rw [if_neg (by decide+kernel)];exact ⟨rfl,rfl⟩))
  (fun os started H enc _=>A5r os started H enc)
theorem proved:Rows.FnExactSpreadResultSaid:=B6a
end Go.Proofs.YtlbmkgkmbjadcaaGreat
