/- Part 37 of the proof that each of the laws FnTotals returns true for every input. No conditions. -/
import Derived.Test.YtdendlkeiaccpaaGreatP36
import Derived.Test.YtdendlkeiaccpaaGreatP12
import Derived.Test.YtdendlkeiaccpaaGreatP21
import Derived.Test.YtdendlkeiaccpaaGreatP34
import Derived.Test.YtdendlkeiaccpaaGreatP35

set_option linter.unusedSimpArgs false
set_option linter.unusedVariables false
set_option maxRecDepth 100000
namespace Go.Proofs.YtdendlkeiaccpaaGreat
open Go.Sx
theorem B4a {P : Program} {B : B0} {Q : Exit → Act → World → Prop} {f g : FuncId} {k : Nat} {dst : Option Tmp} {K : List KI} {s : AS} {x y : Ae} (hf : A7y P f (.one x) (.one y) [.fn g []] [])
    (hx : A61 s.own (.own k) (.one x)) (hk : F9 (Da (.own k)) = true) (h : GW P B Q K (({ s with own := ⟨k, y⟩ :: Bl [k] s.own } : AS).put dst (A5d []))) : CW P B Q false f [.own k, .fn g []] dst K s := by
  refine ⟨⟨hf.1, fun E a w hs vs hl hv => ?_⟩⟩
  match vs, hl with
  | [v, u], _ =>
    obtain ⟨o1, o2⟩ := H0 hs hx (hv 0 _ rfl)
    simp only [List.getD, List.getElem?_cons_zero, Option.getD_some] at o1
    have hnd := Dg hk
    have hav : ∀ b ∈ (Da (.own k)).flatMap E.fp, s.avoid E b := fun b hb => by
      obtain ⟨j, hk', hb⟩ := List.mem_flatMap.1 hb
      obtain ⟨z, hz, rfl⟩ := o2 j hk'
      exact .inr ⟨z, hz, hb⟩
    have hu : ∀ A : Nat → Prop, Ib w A (.fn g []) u := fun A => by
      have hd : Cu E w _ _ (.fn g []) u := hv 1 _ rfl
      cases hd with
      | fn vs hl h => exact ⟨vs, rfl, hl, fun i c hc => by simp at hc⟩
    refine (hf.2 w v _ [u] o1 (Ly hs hnd o2) rfl (fun i z hi => ?_)).mono (fun e w' hg => ?_)
    · match i, hi with
      | 0, hi => obtain rfl : Fo.fn g [] = z := by simpa using hi
                 exact hu _
      | i + 1, hi => simp at hi
    · obtain ⟨rfl, hkept, fp', p1, p2, p3⟩ := hg
      refine ⟨_, rfl, (fun h => by cases h), ?_⟩
      have hI := hs.drop (Da (.own k))
      have hX : ∀ b, b ∈ (Da (.own k)).flatMap E.fp → s.avoid E b ∧ ¬ ({ s with own := Bl (Da (.own k)) s.own } : AS).avoid E b ∧ B.fresh b := by
        intro b hb
        refine ⟨hav b hb, ?_, hs.fresh b (hav b hb)⟩
        obtain ⟨j, hk', hb⟩ := List.mem_flatMap.1 hb
        obtain ⟨z, hz, rfl⟩ := o2 j hk'
        rintro (⟨u, hu, rfl⟩ | ⟨u, hu, hb'⟩)
        · exact hs.sepB u hu z hz hb
        · obtain ⟨q1, q2⟩ := C5.1 hu
          exact hs.sep z hz u q1 (fun e => q2 (e ▸ hk')) b hb hb'
      have hI2 := hI.kept hkept hX
      have hnew : ∀ b ∈ fp', (s.avoid E b ∨ w.heap.size ≤ b) ∧ ¬ ({ s with own := Bl (Da (.own k)) s.own } : AS).avoid E b ∧ B.fresh b := fun b hb => by
        rcases p3 b hb with h | h
        · obtain ⟨q1, q2, q3⟩ := hX b h
          exact ⟨.inl q1, q2, q3⟩
        · refine ⟨.inr h, fun hav => ?_, .inl (Nat.le_trans hs.base.size h)⟩
          have := hs.avoid_lt (hI.sub b hav)
          omega
      have hd0 : Cu E w _ _ (.own k) v := hv 0 _ rfl
      cases hd0 with
      | own hk' =>
        obtain ⟨E', g1, _⟩ := B37 [.own k] [y] [E.ov k] (fun _ => fp') _ E hI2 ⟨trivial, trivial⟩ rfl (fun i j hj => by
          cases i with
          | zero => simp at hj; subst hj; exact ⟨hk', rfl⟩
          | succ i => simp at hj) (by simpa [Da] using hnd) (fun j hj z hz e => (C5.1 hz).2 (by rw [e]; simpa [Da] using hj)) (fun i d hd => by
          cases i with
          | zero => simp at hd; subst hd; exact p1
          | succ i => simp at hd) (by simpa using p2) (fun b hb => hnew b (by simpa using hb))
        exact (h.rec id : G P B Q K _) E' _ w' ((g1.put dst (.tup [] rfl Cg)).is)
theorem Mm (xs:List A9)(hx:xs.length≤1000000):Bi Tryz.prog 99 [.one (Aa xs)] [.one (Aa (Cv xs))]:=by
 refine Bd A0 false Tryz.func99 rfl Aw fun W=>?_
 conv=>whnf
 refine Cx (Sm xs Ab) rfl (A8 ?_)
 refine B4a (B53 Sn xs hx) rfl rfl (A8 ?_)
 refine B2 A0 rfl rfl ?_
 exact At
theorem U3 (x:A6)(h:x.w≤100000):Bi Tryz.prog 70 [.agg x.c] [.one (Aa (Dc x))]:=by
 have hpw:=Na x
 exact Yg x Ab (Mm (I4 x) (by rw [I5,List.length_append];omega))
theorem Q5 (x:A6)(h:x.w≤100000):Bi Tryz.prog 38 [.agg x.c] [.one (Cw (Ef (Dc x)))]:=by
 have hpe:Cv (Dc x)=Dc x:=(Pc (List.Perm.refl _) (J4 (I4 x))).symm
 have hpl:(Dc x).length≤100000:=by
  have h1:=Na x
  rw [show Dc x=Cv (I4 x) from rfl,Gc,I5,List.length_append]
  omega
 have hC:=W4 (Dc x) hpl (Mm (Dc x) Ab)
 rw [hpe] at hC
 refine Bd A0 false Tryz.func38 rfl Aw fun W=>?_
 conv=>whnf
 refine Cx (U3 x h) rfl (A8 ?_)
 refine Cx (hC) rfl (A8 ?_)
 refine B2 A0 rfl rfl ?_
 exact At
theorem A1n (l:List Bq)(hl:l.length≤1000000):Bi Tryz.prog 37 [.one (Cw l),.one (Cw l)] [.one (vb true)]:=by
 refine Bd A0 false Tryz.func37 rfl Aw fun W=>?_
 conv=>whnf
 refine ⟨fun hn=>have hn:=bne_iff_ne.1 hn;?_,fun hn=>have hn:=bne_eq_false_iff_eq.1 hn;?_⟩<;>conv=>whnf
 ·omega
 refine Bv A0 false [] (fun k:Nat=>[(5,.c (vi k))]) (fun k=>[]) (fun k=>[])
  (fun k=>k≤l.length) (fun k=>l.length-k) 0 (Nat.zero_le _) ⟨F3,trivial⟩ trivial trivial Cj A7 (fun k hk=>?_)
 conv=>whnf
 refine Es (fun h=>?_) fun h=>?_<;>conv=>whnf
 ·have h:k<l.length:=by omega
  first|(refine B5 6 rfl [0,1,2,3,4,5,6,7,8] A7 (A8 ?_))
  (repeat refine Am ?_)
  refine Ru Cg ?_
  conv=>whnf
  (repeat refine Am ?_)
  refine B6 [] (k+1) Ab Ab ⟨rfl,trivial⟩ trivial trivial A7 Cj A7
 refine B2 A0 rfl rfl ?_
 exact At
set_option maxHeartbeats 4000000 in
theorem A87 (xs:List UInt8):Bi Tryz.prog 4 [.one (B0v xs)] [.one (vb true)]:=by
 refine B4h A0 false Tryz.func4 rfl Aw fun W a cp hp=>?_
 conv=>whnf
 have hH:∀w,B0.rel ⟨W,fun _=>False⟩ w→HT w:=fun _ _=>trivial
 refine Az (B4m a xs.length cp) rfl (A8 ?_)
 refine ⟨fun hb=>?_,fun hb=>?_⟩<;>conv=>whnf
 ·exact B2 A0 rfl rfl ⟨rfl,trivial⟩
 have hb:(xs.length:Int)≤16777216:=by have:=of_decide_eq_false hb;omega
 let d:Dy:=⟨a,xs.length,cp,fun i=>(xs.getD i default).toNat,fun i=>by have:=(xs.getD i default).toNat_lt;omega,by omega⟩
 have hp:K8 ⟨W,fun _=>False⟩ d.pins:=hp
 refine A8h (B4c d) hH hp rfl (fun c hc=>go A0 false ?_)
 conv=>whnf
 obtain ⟨hcw,hco⟩:B34 c:=hc
 have og:=hco.1.2.1
 have hpc:=A29 c
 have hll:=A0u (c:=c) Ab
 have hpe:Cv (Dc c)=Dc c:=(Pc (List.Perm.refl _) (J4 (I4 c))).symm
 have hpl:(Dc c).length≤7000:=by
  have h1:=Na c
  rw [show Dc c=Cv (I4 c) from rfl,Gc,I5,List.length_append]
  omega
 have hcl:=N2 (Dc c)
 first|(refine B5 4 rfl [0,2,1,3,4,5,6,8,7,9,10,11,12,13,15,14,16,17,18,19,20,22,21,23,24,25,26,27,29,28,30,31,32,33] A7 (A8 ?_))|(refine B5 7 rfl [0,2,5,1,3,4,6,7,8,9,10,11,12,13,14,16,19,15,17,18,20,21,22,23,26,24,25,27,28,29,30,31,32,33,34,36,35,37,38,39,40,41,42,43,44,45,46,47] A7 (A8 ?_))
 refine Az (Lx c Ab) rfl (A8 ?_)
 refine Az (Z6 c Ab) rfl (A8 ?_)
 repeat refine B7 ?_
 refine Az (O6 c Ab) rfl (A8 ?_)
 repeat refine B7 ?_
 refine Az (Wc c Ab) rfl (A8 ?_)
 repeat refine B7 ?_
 refine Az (U4 c Ab) rfl (A8 ?_)
 repeat refine B7 ?_
 refine Az (A3n c Ab) rfl (A8 ?_)
 repeat refine B7 ?_
 refine Az (X3 c Ab) rfl (A8 ?_)
 repeat refine B7 ?_
 refine Az (A7d c Ab) rfl (A8 ?_)
 repeat refine B7 ?_
 refine Az (Q5 c Ab) rfl (A8 ?_)
 repeat refine B7 ?_
 refine Az (Z4 c Ab) rfl (A8 ?_)
 repeat refine B7 ?_
 refine Az (A1n (Ef (Dc c)) Ab) rfl (A8 ?_)
 repeat refine B7 ?_
 refine A8h (B4d d) hH hp rfl (fun t ht=>go A0 false ?_)
 conv=>whnf
 have ht:t.length≤7:=ht
 have hs:Gn (fun l:B8=>(l.queue.length:Int)) c.links+((c.workers.map I9).sum:Nat)=((Dc c).length:Nat):=by rw [hll,hpc,Int.natCast_add]
 first|(refine B5 4 rfl [0,2,1,3,4,5,6,8,7,9,10,11,12,13,15,14,16,17,18,19,20,22,21,23,24,25,26,27,29,28,30,31,32,33] A7 (A8 ?_))|(refine B5 7 rfl [0,2,5,1,3,4,6,7,8,9,10,11,12,13,14,16,19,15,17,18,20,21,22,23,26,24,25,27,28,29,30,31,32,33,34,36,35,37,38,39,40,41,42,43,44,45,46,47] A7 (A8 ?_))
 refine Az (Lx c Ab) rfl (A8 ?_)
 refine Az (O6 c Ab) rfl (A8 ?_)
 refine ⟨by rw [hs];exact ⟨by omega,by omega⟩,?_⟩
 conv=>whnf
 rw [hs]
 refine Az (K4 c Ab) rfl (A8 ?_)
 refine ⟨fun h1=>have h1:=eq_of_beq h1;?_,fun h1=>have h1:=beq_eq_false_iff_ne.1 h1;?_⟩<;>conv=>whnf
 rotate_left
 ·exact absurd rfl h1
 repeat refine B7 ?_
 refine Az (Oe c Ab) rfl (A8 ?_)
 repeat refine B7 ?_
 refine ⟨fun h2=>?_,fun h2=>?_⟩<;>conv=>whnf
 ·repeat refine B7 ?_
  refine Az (Kr t Ab) rfl (A8 ?_)
  repeat refine B7 ?_
  refine Az (Sg t Ab) rfl (A8 ?_)
  repeat refine B7 ?_
  refine Em 7 (Aa [⟨0,⟨0,3⟩,0,0⟩]) rfl (Ba rfl Cf) ?_
  refine Az (Kr [⟨0,⟨0,3⟩,0,0⟩] Aw) rfl (A8 ?_)
  repeat refine B7 ?_
  exact B2 A0 rfl rfl ⟨rfl,trivial⟩
 have hC:B4 c:=by
  have:B3 c=true:=by simpa using h2
  exact of_decide_eq_true this
 obtain ⟨sg,b1,b2⟩:=B0x hC Ab
 have hcn:Sl 7000 (Ef (Dc c)):=by
  have:=(Lp (J4 (I4 c)) (Dc c).length (Nat.le_refl _)).1
  rw [show Cv (I4 c)=Dc c from rfl,List.take_length] at this
  exact ⟨fun x hx=>⟨(this.ok x hx).1,(this.ok x hx).2.1,Int.le_trans (this.ok x hx).2.2 Ab⟩,this.pw⟩
 have hsm:=A1x (A07 hC)
 repeat refine B7 ?_
 refine Az (U4 c Ab) rfl (A8 ?_)
 repeat refine B7 ?_
 refine Az (X3 c Ab) rfl (A8 ?_)
 repeat refine B7 ?_
 rw [sg]
 repeat refine B7 ?_
 refine Az (Lx c Ab) rfl (A8 ?_)
 rw [hll]
 repeat refine B7 ?_
 refine Az (Q5 c Ab) rfl (A8 ?_)
 repeat refine B7 ?_
 refine Az (Vh 7000 Aw (Ef (Dc c)) hcn Ab) rfl (A8 ?_)
 rw [hsm]
 repeat refine B7 ?_
 refine Az (K4 c Ab) rfl (A8 ?_)
 repeat refine B7 ?_
 refine Az (Kr t Ab) rfl (A8 ?_)
 repeat refine B7 ?_
 refine Az (Sg t Ab) rfl (A8 ?_)
 repeat refine B7 ?_
 refine Em 7 (Aa [⟨0,⟨0,3⟩,0,0⟩]) rfl (Ba rfl Cf) ?_
 refine Az (Kr [⟨0,⟨0,3⟩,0,0⟩] Aw) rfl (A8 ?_)
 repeat refine B7 ?_
 exact B2 A0 rfl rfl ⟨rfl,trivial⟩
end Go.Proofs.YtdendlkeiaccpaaGreat
