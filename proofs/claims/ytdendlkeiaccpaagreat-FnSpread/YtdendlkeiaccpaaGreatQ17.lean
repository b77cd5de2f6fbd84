/- Part 17 of the proof that each of the laws FnSpread returns true for every input. No conditions. -/
import Derived.Test.YtdendlkeiaccpaaGreatQ14
import Derived.Test.YtdendlkeiaccpaaGreatQ16
import Derived.Test.YtdendlkeiaccpaaGreatQ11
import Derived.Test.YtdendlkeiaccpaaGreatQ13
import Derived.Test.YtdendlkeiaccpaaGreatQ5
import Derived.Test.YtdendlkeiaccpaaGreatQ6
import Derived.Test.YtdendlkeiaccpaaGreatQ8
import Derived.Test.YtdendlkeiaccpaaGreatQ7

set_option linter.unusedSimpArgs false
set_option linter.unusedVariables false
set_option maxRecDepth 100000
namespace Go.Proofs.YtdendlkeiaccpaaGreat
open Go.Sx
structure JFx where
 b:List Ae
 l:List Ae
set_option maxHeartbeats 4000000 in
theorem A6t (g:Ah)(e:Int)(ins:List Aa)(hg:g.w≤16777216)(hG:Ea g)(hi:Yj ins)(he:0≤e∧e≤3)(hl:ins.length≤20):Z7 Tryz.prog (fun _=>True) 68 [.agg g.c,.one (vi e),.one (Af ins)] (fun best:List Ae=>Sp g ins e best []∧best.length≤800000) (fun best=>[.one (Ak best)]):=by
 refine B7v A0 false Tryz.func68 rfl B5 fun W hW=>?_;conv=>whnf
 refine Es 1 (Ak []) rfl Cq ?_;refine Es 2 (Ak []) rfl Cq ?_
 refine Bk A0 false [14] (fun k:Nat=>[(9,.c (vi k))]) (fun k=>[⟨0,[.c (Bg g.nodes),.c (vi g.workers),.c (vi g.cap)]⟩]) (fun k=>[⟨1,Ak []⟩,⟨2,Ak (Of e (ins.take k))⟩])
  (fun k=>k≤ins.length) (fun k=>ins.length-k) 0 (Nat.zero_le _) ⟨F0,trivial⟩ C2 ⟨Dm,Dm,trivial⟩ C1 A6 (fun k hk=>?_)
 conv=>whnf
 conv=>whnf
 refine Eo (fun h=>?_) fun h=>?_<;>conv=>whnf
 ·have h:k<ins.length:=by omega
  have hsl:=A2l e (ins.take k);have htl:=List.length_take_le k ins;have hst:=A91 (e:=e) h;(repeat refine Ap ?_);refine ⟨fun h1=>have h1:=eq_of_beq h1;?_,fun h1=>have h1:=beq_eq_false_iff_ne.1 h1;?_⟩<;>conv=>whnf
  ·repeat refine B2 ?_
   refine As (I1 (ins.getD k default)) rfl (A7 ?_)
   repeat refine B2 ?_
   have h1:(ins.getD k default).stamp.epoch=e:=h1;refine ⟨fun h2=>?_,fun h2=>?_⟩<;>conv=>whnf
   ·have hb:((ins.getD k default).stamp.epoch==e&&Ev (ins.getD k default))=true:=by rw [h1,h2,beq_self_eq_true];rfl
    rw [if_pos hb] at hst;refine Bj A0 rfl rfl rfl rfl rfl rfl rfl rfl rfl rfl rfl (Ak (Of e (ins.take k)++[⟨0,e,(ins.getD k default).key,(ins.getD k default).val⟩])) (An rfl) C6 Ad (A7 ?_);(repeat refine Ap ?_);refine Az [(2,5)] (k+1) Ad Ad ⟨rfl,trivial⟩ ⟨rfl,congrArg Ak hst.symm,trivial⟩ C2 A6 C1 A6
   have hb:¬ ((ins.getD k default).stamp.epoch==e&&Ev (ins.getD k default))=true:=by rw [h2,Bool.and_false];decide
   rw [if_neg hb,List.append_nil] at hst
   repeat refine B2 ?_
   refine Az [] (k+1) Ad Ad ⟨rfl,trivial⟩ ⟨rfl,congrArg Ak hst.symm,trivial⟩ C2 A6 C1 A6
  have h1:(ins.getD k default).stamp.epoch≠e:=h1
  have hb:¬ ((ins.getD k default).stamp.epoch==e&&Ev (ins.getD k default))=true:=by
   have:((ins.getD k default).stamp.epoch==e)=false:=beq_eq_false_iff_ne.2 h1
   rw [this,Bool.false_and];decide
  rw [if_neg hb,List.append_nil] at hst
  repeat refine B2 ?_
  refine Az [] (k+1) Ad Ad ⟨rfl,trivial⟩ ⟨rfl,congrArg Ak hst.symm,trivial⟩ C2 A6 C1 A6
 have hk:k=ins.length:=by omega
 subst hk;rw [List.take_length];have hs0:=A2l e ins;have hu0:=C4k e [];refine Bk A0 false [13,14] (fun j:JFx=>[]) (fun j=>[⟨0,[.c (Bg g.nodes),.c (vi g.workers),.c (vi g.cap)]⟩]) (fun j=>[⟨1,Ak j.b⟩,⟨2,Ak j.l⟩]) (fun j=>Sp g ins e j.b j.l∧j.b.length+unc e j.b≤800000∧3 * unc e j.b+j.l.length≤2400020) (fun j=>3 * unc e j.b+j.l.length) (⟨[],Of e ins⟩) (⟨B6c hG hi,by show 0+unc e []≤_;omega,by show 3 * unc e []+(Of e ins).length≤_;omega⟩) trivial C2 ⟨Dm,Dm,trivial⟩ C1 A6 (fun j hj=>?_)
 conv=>whnf
 obtain ⟨b,l⟩:=j;obtain ⟨hFx,hb1,hm1⟩:Sp g ins e b l∧b.length+unc e b≤800000∧3 * unc e b+l.length≤2400020:=hj;refine ⟨fun h2=>?_,fun h2=>?_⟩<;>conv=>whnf
 ·have h2:0<l.length:=by have:=of_decide_eq_true h2;simp only at this;omega
  have hc:l=l.getD 0 default::l.drop 1:=by
   cases l with
   |nil=>exact absurd h2 (Nat.lt_irrefl 0)
   |cons x r=>rfl
  have hF2:=hFx;rw [hc] at hF2;have hF3:=B74 hG hi he hF2;obtain ⟨hm2,hb2⟩:=C3t hG hi hF2;have hlc:(l.getD 0 default::l.drop 1).length=l.length:=by rw [←hc]
  refine H0 rfl ?_;refine Bp A0 false 1 rfl rfl A6 rfl (A4 Br) ?_;refine Bp A0 false 2 rfl rfl A6 rfl (A4 Br) ?_;refine Cl (s':=?_) 0 rfl A6 ?_ ?_;rotate_left;refine A7 ?_;(repeat refine Ap ?_);exact B6
  refine Cl (s':=?_) 3 rfl A6 ?_ ?_;rotate_left;refine A7 ?_;(repeat refine Ap ?_);exact B6
  refine Cl (s':=?_) 4 rfl A6 ?_ ?_;rotate_left;refine A7 ?_;(repeat refine Ap ?_);exact B6
  refine Dp [5] A6 ⟨?_,trivial⟩;refine A7 ?_;refine Bd (A9v g b (l.getD 0 default) hg Ad) rfl (A7 ?_);refine Dq ?_;refine Bp A0 false 6 rfl rfl A6 rfl (A4 Br) ?_;refine Kx (s':=?_) 7 rfl A6 ?_ ?_;rotate_left;refine A7 ?_;(repeat refine Ap ?_);exact B6
  refine Bp A0 false 9 rfl rfl A6 rfl (A4 Br) ?_;refine Kx (s':=?_) 8 rfl A6 ?_ ?_;rotate_left;refine A7 ?_;(repeat refine Ap ?_);exact B6
  refine Bp A0 false 10 rfl rfl A6 rfl (A4 Br) ?_;refine Qk A6 (A7 ?_);refine Xh A0 rfl rfl rfl rfl rfl rfl rfl rfl (l:=1) rfl rfl (⟨by omega,(show (1:Int)≤(l.length:Int) by omega),by omega⟩) (Ak (l.drop 1)) (Fq (k:=1) h2) (A7 ?_)
  have hdl:(l.drop 1).length=l.length-1:=List.length_drop;simp only [List.length_append] at hm2;refine Bj A0 rfl rfl rfl rfl rfl rfl rfl rfl rfl rfl rfl (Ak (l.drop 1)) (C9) (fun _=>Ex _) Ad (A7 ?_);refine Bj A0 rfl rfl rfl rfl rfl rfl rfl rfl rfl rfl rfl (Ak (l.drop 1++(Fb g b (l.getD 0 default)).2)) (Vv _ _ _ _) (fun _=>Ex _) Ad (A7 ?_);refine Az [(1,3),(2,8)] (⟨(Fb g b (l.getD 0 default)).1,l.drop 1++(Fb g b (l.getD 0 default)).2⟩) (⟨hF3,by show (Fb g b (l.getD 0 default)).1.length+unc e (Fb g b (l.getD 0 default)).1≤_;omega,by show 3 * unc e (Fb g b (l.getD 0 default)).1+(l.drop 1++(Fb g b (l.getD 0 default)).2).length≤_;rw [List.length_append];omega⟩) ((by show 3 * unc e (Fb g b (l.getD 0 default)).1+(l.drop 1++(Fb g b (l.getD 0 default)).2).length<3 * unc e b+l.length;rw [List.length_append];omega)) trivial ⟨rfl,rfl,trivial⟩ C2 A6 C1 A6
 have h2:¬ 0<l.length:=by have:=of_decide_eq_false h2;simp only at this;omega
 have hn:l=[]:=List.eq_nil_of_length_eq_zero Ad;refine C5l b ⟨by rw [hn] at hFx;exact hFx,by omega⟩ ?_;refine Am A0 rfl rfl ?_;exact B0
theorem A6w (g:Ah)(e:Int)(ins:List Aa)(hg:g.w≤16777216)(hG:Ea g)(hi:Yj ins)(he:0≤e∧e≤3)(hl:ins.length≤20):Z7 Tryz.prog (fun _=>True) 27 [.agg g.c,.one (vi e),.one (Af ins)] (fun l:List Ae=>∃best,Sp g ins e best []∧l=Dn g best∧l.length≤800000) (fun l=>[.one (Ak l)]):=by
 refine B7v A0 false Tryz.func27 rfl B5 fun W hW=>?_;conv=>whnf
 refine H0 rfl ?_;refine Bp A0 false 2 rfl rfl A6 rfl (A4 Br) ?_;refine Bp A0 false 3 rfl rfl A6 rfl (A4 Br) ?_;refine Cl (s':=?_) 0 rfl A6 ?_ ?_;rotate_left;refine A7 ?_;(repeat refine Ap ?_);exact B6
 refine Cl (s':=?_) 1 rfl A6 ?_ ?_;rotate_left;refine A7 ?_;(repeat refine Ap ?_);exact B6
 refine Dp [4] A6 ⟨?_,trivial⟩;refine A7 ?_;refine B7d (A6t g e ins hg hG hi he hl) (fun _ _ _ _=>trivial) hW rfl (fun best hbest=>go A0 false ?_);conv=>whnf
 refine Dq ?_;refine Dp [5] A6 ⟨?_,trivial⟩;refine A7 ?_;refine Bd (Vy g best hg (by have:=hbest.2;omega)) rfl (A7 ?_);refine Dq ?_;refine Bp A0 false 6 rfl rfl A6 rfl (A4 Br) ?_;refine Qk A6 (A7 ?_)
 all_goals
  obtain ⟨hb1,hb2⟩:=hbest;refine C5l (Dn g best) ⟨best,hb1,rfl,Nat.le_trans (List.length_filter_le _ _) hb2⟩ ?_;refine Am A0 rfl rfl ?_;exact B0
theorem A63 (c:A3)(e:Int):(Ci c e).1.workers.length=c.workers.length:=by
 unfold Ci
 dsimp only
 repeat' split
 all_goals first
  |rfl
  |exact List.length_set
  |(unfold Gw;split<;>first|rfl|exact List.length_set)
theorem C2u (c:A3)(p:D7):(Aq c p).1.workers.length=c.workers.length:=by
 unfold Aq
 split
 ·unfold Dk;split<;>first|rfl|exact List.length_set
 split
 ·unfold D9;split<;>first|rfl|exact List.length_set
 split
 ·unfold C7;repeat' split
  all_goals first|rfl|exact List.length_set
 split
 ·unfold Ct;split<;>first|rfl|exact List.length_set
 split
 ·unfold D4;split<;>rfl
 split
 ·exact A63 c p.a
 split
 ·unfold Dj;repeat' split
  all_goals first|rfl|exact List.length_set
 rfl
theorem B9z (l:List D7):∀s:A3×List Bool,(l.foldl G8 s).1.workers.length=s.1.workers.length:=by
 induction l with
 |nil=>intro s;rfl
 |cons p r ih=>intro s;exact (ih (G8 s p)).trans (C2u s.1 p)
theorem B3y (c:A3)(l:List D7):(Bb c l).1.workers.length=c.workers.length:=B9z l (c,[])
theorem A0j (n:Nat):∀c:A3,(Cy n c).1.workers.length=c.workers.length:=by
 induction n with
 |zero=>intro c;rfl
 |succ n ih=>
  intro c;rw [Cy]
  split
  ·exact B3y c _
  exact (ih _).trans (B3y c _)
theorem S7 (n:Nat):∀c:A3,(Cy n c).1.w≤c.w+176 * n:=by
 induction n with
 |zero=>intro c;exact Nat.le_refl _
 |succ n ih=>
  intro c;have h1:=B3v (c:=c);rw [Cy]
  split
  ·show (C5 c).1.w≤_
   omega
  have h2:=ih (C5 c).1
  show (Cy n (C5 c).1).1.w≤_
  omega
theorem A0e {w:Ab}{e:Int}{k:Nat}(hk:k<w.dones.length)(hb:∀i,i<k→(w.dones.getD i default).epoch≠e)(h:(w.dones.getD k default).epoch=e):Ee w e=(w.dones.getD k default,true):=by
 have hd:Cv w e=true:=Lu hk (by simpa using h);have hf:Fa (fun d:F6=>d.epoch==e) w.dones=k:=Pm _ _ k hk (fun i hi=>by simpa using hb i hi) (by simpa using h);unfold Ee;rw [if_pos hd,hf]
theorem A3v {w:Ab}{e:Int}(hb:∀i,i<w.dones.length→(w.dones.getD i default).epoch≠e):Ee w e=(default,false):=by
 have hd:Cv w e=false:=by
  unfold Cv;rw [List.any_eq_false];intro y hy;obtain ⟨i,hi,rfl⟩:=List.getElem_of_mem hy
  have:=hb i hi
  rw [show w.dones.getD i default=w.dones[i] by simp [List.getD,hi]] at this
  simpa using this
 unfold Ee;rw [if_neg (by rw [hd];decide)]
theorem B12 (x:Ab)(e:Int)(h:x.w≤16000000):B3 Tryz.prog 86 [.agg x.c,.one (vi e)] [.agg (Ee x e).1.c,.one (vb (Ee x e).2)]:=by
 have hl:x.dones.length≤16000000:=by simp only [Ab.w] at h;omega
 refine Aw A0 false Tryz.func86 rfl B5 fun W=>?_;conv=>whnf
 refine Bk A0 false [] (fun k:Nat=>[(6,.c (vi k))]) (fun k=>[⟨0,[.c (Af x.queue),.c (Af x.staged),.c (Af x.inputs),.c (Ak x.cells),.c (Bh x.sums),.c (Dw x.black),.c (Dw x.caps),.c (G1 x.dones)]⟩,⟨1,[.c (vi 0),.c (vb false)]⟩]) (fun k=>[])
  (fun k=>k≤x.dones.length∧∀i,i<k→(x.dones.getD i default).epoch≠e) (fun k=>x.dones.length-k) 0 ⟨Nat.zero_le _,by first|rfl|assumption|simp⟩ ⟨F0,trivial⟩ C2 trivial C1 A6 (fun k hk=>?_)
 obtain ⟨hk,he⟩:=hk;conv=>whnf
 conv=>whnf
 refine Eo (fun h1=>?_) fun h1=>?_<;>conv=>whnf
 ·have h1:k<x.dones.length:=by omega
  (repeat refine Ap ?_);refine ⟨fun h2=>have h2:=eq_of_beq h2;?_,fun h2=>have h2:=beq_eq_false_iff_ne.1 h2;?_⟩<;>conv=>whnf
  ·rw [Int.toNat_natCast] at h2
   (repeat refine Ap ?_);rw [A0e h1 he h2];refine Am A0 rfl rfl ?_;exact B0
  rw [Int.toNat_natCast] at h2;(repeat refine Ap ?_);refine Az [] (k+1) ⟨by omega,fun i hi=>(Nat.lt_succ_iff_lt_or_eq.1 hi).elim (fun h4=>he i h4) (fun h4=>by subst h4;exact h2)⟩ Ad ⟨rfl,trivial⟩ trivial C2 A6 C1 A6
 rw [A3v (fun i hi=>he i Ad)];refine Am A0 rfl rfl ?_;exact B0
theorem B06 (x:Ab)(e:Int)(h:x.w≤16000000):B3 Tryz.prog 82 [.agg x.c,.one (vi e)] [.agg (Ee x e).1.c,.one (vb (Ee x e).2)]:=by
 have hl:x.dones.length≤16000000:=by simp only [Ab.w] at h;omega
 refine Aw A0 false Tryz.func82 rfl B5 fun W=>?_;conv=>whnf
 refine Bk A0 false [] (fun k:Nat=>[(11,.c (vi k))]) (fun k=>[⟨0,[.c (Af x.queue),.c (Af x.staged),.c (Af x.inputs),.c (Ak x.cells),.c (Bh x.sums),.c (Dw x.black),.c (Dw x.caps),.c (G1 x.dones)]⟩,⟨1,[.c (vi 0),.c (vb false)]⟩]) (fun k=>[])
  (fun k=>k≤x.dones.length∧∀i,i<k→(x.dones.getD i default).epoch≠e) (fun k=>x.dones.length-k) 0 ⟨Nat.zero_le _,by first|rfl|assumption|simp⟩ ⟨F0,trivial⟩ C2 trivial C1 A6 (fun k hk=>?_)
 obtain ⟨hk,he⟩:=hk;conv=>whnf
 conv=>whnf
 refine Eo (fun h1=>?_) fun h1=>?_<;>conv=>whnf
 ·have h1:k<x.dones.length:=by omega
  (repeat refine Ap ?_);refine ⟨fun h2=>have h2:=eq_of_beq h2;?_,fun h2=>have h2:=beq_eq_false_iff_ne.1 h2;?_⟩<;>conv=>whnf
  ·rw [Int.toNat_natCast] at h2
   (repeat refine Ap ?_);rw [A0e h1 he h2];refine Am A0 rfl rfl ?_;exact B0
  rw [Int.toNat_natCast] at h2;(repeat refine Ap ?_);refine Az [] (k+1) ⟨by omega,fun i hi=>(Nat.lt_succ_iff_lt_or_eq.1 hi).elim (fun h4=>he i h4) (fun h4=>by subst h4;exact h2)⟩ Ad ⟨rfl,trivial⟩ trivial C2 A6 C1 A6
 rw [A3v (fun i hi=>he i Ad)];refine Am A0 rfl rfl ?_;exact B0
theorem A0l (l:List Di)(n:Nat):F5 n fun i=>Di.c (l.getD i default):=by
 intro i hi c hc;simp only [Di.c,List.mem_cons,List.not_mem_nil,or_false] at hc
 rcases hc with rfl|rfl|rfl<;>exact ⟨_,rfl⟩
theorem A2o (l:List Di):(He Di.c l).length=l.length * 3:=A60 (es:=3) (fun _=>rfl) l
theorem A0g (l:List Di)(k:Nat):l.eraseIdx k=l.take k++l.drop (k+1):=List.eraseIdx_eq_take_drop_succ l k
set_option maxHeartbeats 4000000 in
theorem B05 (l:List Di)(k:Nat)(hk:k<l.length)(hl:l.length≤16777216):J6 Tryz.prog (fun _=>True) 238 [] [.one (Cc l)] [.one (vi k),.one (vi ((k:Int)+1))] (fun _:Unit=>True) (fun _=>[.one (Cc (l.eraseIdx k))]):=by
 refine O6 A0 false Tryz.func238 rfl B5 fun B hH hp=>?_;conv=>whnf
 refine B55 A0 rfl rfl rfl rfl rfl rfl rfl (l:=(k:Int)) (h:=(k:Int)+1) (m:=(l.length:Int)) rfl rfl rfl ⟨by omega,by omega,by omega,by omega⟩ (A7 ?_);refine ⟨fun hz=>have hz:=eq_of_beq hz;?_,fun hz=>have hz:=beq_eq_false_iff_ne.1 hz;?_⟩<;>conv=>whnf
 ·omega
 refine Z1 0 3 Di.c l rfl Ad (A0l _ _) (fun b off cap pre D5 p1 p2 p3 p4=>?_);refine N6 0 0 rfl rfl ?_
 have hlast:l.drop k=(l.drop k).take (l.length-(k+1))++l.drop (l.length-1):=by
  have e:=List.take_append_drop (l.length-(k+1)) (l.drop k);rw [List.drop_drop,show k+(l.length-(k+1))=l.length-1 by omega] at e
  exact e.symm
 have hcut:l=l.take k++l.drop k:=(List.take_append_drop k l).symm;have hcut2:l=l.take (k+1)++l.drop (k+1):=(List.take_append_drop (k+1) l).symm;have t1:(l.take k).length=k:=by rw [List.length_take];omega
 have t2:((l.drop k).take (l.length-(k+1))).length=l.length-(k+1):=by rw [List.length_take,List.length_drop];omega
 have t3:(l.drop (k+1)).length=l.length-(k+1):=List.length_drop;have t4:(l.take (k+1)).length=k+1:=by rw [List.length_take];omega
 have t5:(l.drop (l.length-1)).length=1:=by rw [List.length_drop];omega
 have te:(l.take k++l.drop (k+1)).length=l.length-1:=by rw [List.length_append,t1,t3];omega
 have c1:pre++He Di.c l++D5=(pre++He Di.c (l.take k))++He Di.c ((l.drop k).take (l.length-(k+1)))++(He Di.c (l.drop (l.length-1))++D5):=by
  conv=>lhs;rw [hcut,hlast,I4,I4]
  simp only [List.append_assoc]
 have c2:pre++He Di.c l++D5=(pre++He Di.c (l.take (k+1)))++He Di.c (l.drop (k+1))++D5:=by
  conv=>lhs;rw [hcut2,I4]
  simp only [List.append_assoc]
 refine N2 A0 false ?_;conv=>whnf
 rcases Nat.lt_or_ge (k+1) cap with hlc|hlc
 ·refine H0 rfl ?_
  refine Bp A0 false 0 rfl rfl A6 rfl (A4 Br) ?_;refine Bp A0 false 1 rfl rfl A6 rfl (A4 Br) ?_;refine Bp A0 false 3 rfl rfl A6 rfl (A4 Br) ?_;refine Bp A0 false 4 rfl rfl A6 rfl (A4 Br) ?_;refine Cl (s':=?_) 2 rfl A6 ?_ ?_;rotate_left;refine N2 A0 false ?_;conv=>whnf
  refine J9 A0 rfl rfl rfl rfl rfl rfl (l:=0) (h:=(k:Int)) rfl rfl ⟨by omega,by omega,by omega,(fun h=>by cases h),by omega⟩ (off * 3) k cap C8 C8 C8 (N2 A0 false ?_);conv=>whnf
  exact B6
  refine Cl (s':=?_) 5 rfl A6 ?_ ?_;rotate_left;refine N2 A0 false ?_;conv=>whnf
  refine J9 A0 rfl rfl rfl rfl rfl rfl (l:=(k:Int)+1) (h:=(l.length:Int)) rfl rfl ⟨by omega,by omega,by omega,fun _=>by omega,by omega⟩ (off * 3+(k+1) * 3) (l.length-(k+1)) (cap-(k+1)) C8 Ad Ad (N2 A0 false ?_);conv=>whnf
  exact B6
  refine Kz [6,7] [] A6 ?_;refine Bl (s':=?_) A0 rfl A6 E8 ?_ ?_;rotate_left;refine N2 A0 false ?_;conv=>whnf
  refine C22 (kb:=1) (kb2:=1) A0 rfl rfl rfl rfl rfl rfl rfl rfl rfl rfl rfl rfl rfl Ad (pre++He Di.c (l.take k)) (He Di.c ((l.drop k).take (l.length-(k+1)))) (He Di.c (l.drop (l.length-1))++D5) (pre++He Di.c (l.take (k+1))) (He Di.c (l.drop (k+1))) D5 (by exact c1) (by rw [List.length_append,A2o,t1,p1]) (by rw [A2o,A2o,t2,t3]) (by exact c2) (by rw [List.length_append,A2o,t4,p1]) (by rw [A2o,t3]) (by exact C0h Di.c _) (N2 A0 false ?_);conv=>whnf
  exact B6
  refine Bl (s':=?_) A0 rfl A6 E8 ?_ ?_;rotate_left;refine N2 A0 false ?_;conv=>whnf
  (repeat refine Ap ?_);exact B6
  refine Jf A0 A6 E8 (GW.out (N2 A0 false ?_));conv=>whnf
  refine J9 A0 rfl rfl rfl rfl rfl rfl (l:=((k+(l.length-(k+1)):Nat):Int)) (h:=(l.length:Int)) rfl rfl ⟨by omega,by omega,by omega,(fun h=>by cases h),by omega⟩ (off * 3+(l.length-1) * 3) 1 (cap-(l.length-1)) (by rw [show k+(l.length-(k+1))=l.length-1 by omega];simp) Ad Ad (N2 A0 false ?_)
  conv=>whnf
  refine B0q (kb:=1) A0 rfl rfl rfl rfl rfl rfl rfl rfl Ad (pre++He Di.c (l.take k)++He Di.c (l.drop (k+1))) (He Di.c (l.drop (l.length-1))) D5 (by simp only [List.append_assoc]) (by rw [List.length_append,List.length_append,A2o,A2o,p1,t1,t3];omega) (by rw [A2o,t5]) (N2 A0 false ?_);conv=>whnf
  refine A84 Tryz.prog 6 1 off 3 Di.c (l.take k++l.drop (k+1)) pre (List.replicate (1 * 3) .any++D5) rfl (by rw [I4];simp only [List.append_assoc]) (by exact p1) (fun _=>rfl) (A0l _ _) (by exact p3) (by exact ⟨by rw [te];omega,by rw [te,List.length_append,List.length_replicate];omega⟩) rfl rfl rfl (by rw [te];omega) ?_;rw [←A0g];exact Vq A0 () trivial rfl rfl B0
 have e1:l.length=cap:=by omega
 have e2:k+1=l.length:=by omega
 have d1:l.drop (k+1)=[]:=List.drop_eq_nil_of_le Ad;have d2:(l.drop k).length=1:=by rw [List.length_drop];omega
 have c3:pre++He Di.c l++D5=(pre++He Di.c (l.take k))++[]++(He Di.c (l.drop k)++D5):=by
  conv=>lhs;rw [hcut,I4]
  simp only [List.append_assoc,List.nil_append,List.append_nil]
 refine H0 rfl ?_;refine Bp A0 false 0 rfl rfl A6 rfl (A4 Br) ?_;refine Bp A0 false 1 rfl rfl A6 rfl (A4 Br) ?_;refine Bp A0 false 3 rfl rfl A6 rfl (A4 Br) ?_;refine Bp A0 false 4 rfl rfl A6 rfl (A4 Br) ?_;refine Cl (s':=?_) 2 rfl A6 ?_ ?_;rotate_left;refine N2 A0 false ?_;conv=>whnf
 refine J9 A0 rfl rfl rfl rfl rfl rfl (l:=0) (h:=(k:Int)) rfl rfl ⟨by omega,by omega,by omega,(fun h=>by cases h),by omega⟩ (off * 3) k cap C8 C8 C8 (N2 A0 false ?_);conv=>whnf
 exact B6
 refine Cl (s':=?_) 5 rfl A6 ?_ ?_;rotate_left;refine N2 A0 false ?_;conv=>whnf
 refine C4c A0 rfl rfl rfl rfl rfl rfl (l:=(k:Int)+1) rfl ⟨by omega,by omega,by omega⟩ (N2 A0 false ?_);conv=>whnf
 exact B6
 refine Kz [6,7] [] A6 ?_;refine Bl (s':=?_) A0 rfl A6 E8 ?_ ?_;rotate_left;refine N2 A0 false ?_;conv=>whnf
 refine C22 (kb:=1) (kb2:=1) A0 rfl rfl rfl rfl rfl rfl rfl rfl rfl rfl rfl rfl rfl Ad (pre++He Di.c (l.take k)) [] (He Di.c (l.drop k)++D5) pre [] (He Di.c l++D5) (by exact c3) (by rw [List.length_append,A2o,t1,p1]) rfl (by simp only [List.append_nil,List.append_assoc]) (by exact p1) C8 (fun _ h=>by cases h) (N2 A0 false ?_);conv=>whnf
 exact B6
 refine Bl (s':=?_) A0 rfl A6 E8 ?_ ?_;rotate_left;refine N2 A0 false ?_;conv=>whnf
 (repeat refine Ap ?_);exact B6
 refine Jf A0 A6 E8 (GW.out (N2 A0 false ?_));conv=>whnf
 refine J9 A0 rfl rfl rfl rfl rfl rfl (l:=((k+0:Nat):Int)) (h:=(l.length:Int)) rfl rfl ⟨by omega,by omega,by omega,(fun h=>by cases h),by omega⟩ (off * 3+k * 3) 1 (cap-k) C8 Ad Ad (N2 A0 false ?_);conv=>whnf
 refine B0q (kb:=1) A0 rfl rfl rfl rfl rfl rfl rfl rfl Ad (pre++He Di.c (l.take k)) (He Di.c (l.drop k)) D5 (by simp only [List.append_assoc,List.nil_append,List.append_nil]) (by rw [List.length_append,A2o,p1,t1]) (by rw [A2o,d2]) (N2 A0 false ?_);conv=>whnf
 refine A84 Tryz.prog 6 1 off 3 Di.c (l.take k) pre (List.replicate (1 * 3) .any++D5) rfl (by simp only [List.append_assoc]) (by exact p1) (fun _=>rfl) (A0l _ _) (by exact p3) (by exact ⟨by rw [t1];omega,by rw [t1,List.length_append,List.length_replicate];omega⟩) rfl rfl rfl (by rw [t1];rfl) ?_;rw [show l.eraseIdx k=l.take k by rw [A0g,d1,List.append_nil]]
 exact Vq A0 () trivial rfl rfl B0
theorem O1 {l:Ca}{r:Aa}(h:¬ A7g l r):Cf l r=(l,false):=if_neg h
theorem A9o {l:Ca}{r:Aa}(h:A7g l r):Cf l r=(⟨l.cap,l.queue++[r],l.credits-1,l.back,l.sent+1,l.got⟩,true):=if_pos h
theorem Sn {l:Ca}(h:¬ (Gn l∧0<l.queue.length)):Bc l=(l,default,false):=if_neg h
theorem W5 {l:Ca}(h:Gn l∧0<l.queue.length):Bc l=(⟨l.cap,l.queue.drop 1,l.credits,l.back+1,l.sent,l.got+1⟩,l.queue.getD 0 default,true):=if_pos h
theorem Ys {l:Ca}(h:¬ (Gn l∧l.back≠0)):Ce l=(l,false):=if_neg h
theorem A7u {l:Ca}(h:Gn l∧l.back≠0):Ce l=(⟨l.cap,l.queue,l.credits+1,l.back-1,l.sent,l.got⟩,true):=if_pos h
set_option maxHeartbeats 1000000 in
theorem Ub (l:Ca)(r:Aa)(hl:l.w≤16777216):B3 Tryz.prog 158 [.agg l.c,.agg r.c] [.agg (Cf l r).1.c,.one (vb (Cf l r).2)]:=by
 have hq:l.queue.length≤16777216:=hl;refine Aw A0 false Tryz.func158 rfl B5 fun W=>?_;conv=>whnf
 refine Bd (Mm l Ad) rfl (A7 ?_);refine As (Qc l Ad) rfl (A7 ?_);refine ⟨fun h1=>?_,fun h1=>?_⟩<;>conv=>whnf
 ·have h1:Il l=false:=by simpa using h1
  repeat refine B2 ?_
  rw [O1 (fun p=>absurd p.1 (of_decide_eq_false h1))];refine Am A0 rfl rfl ?_;exact B0
 have h1:Gn l:=of_decide_eq_true (show Il l=true by simpa using h1)
 obtain ⟨⟨n1,n2,n3,n4,n5,n6,n7⟩,nA⟩:=id h1
 repeat refine B2 ?_
 refine As (I1 r) rfl (A7 ?_)
 repeat refine B2 ?_
 refine ⟨fun h2=>?_,fun h2=>?_⟩<;>conv=>whnf
 ·have h2:Ev r=false:=by simpa using h2
  repeat refine B2 ?_
  rw [O1 (fun p=>absurd p.2.1 (of_decide_eq_false h2))];refine Am A0 rfl rfl ?_;exact B0
 have h2:H2 r:=of_decide_eq_true (show Ev r=true by simpa using h2)
 repeat refine B2 ?_
 refine ⟨fun h3=>have h3:=eq_of_beq h3;?_,fun h3=>have h3:=beq_eq_false_iff_ne.1 h3;?_⟩<;>conv=>whnf
 ·repeat refine B2 ?_
  rw [O1 (fun p=>p.2.2.1 h3)];refine Am A0 rfl rfl ?_;exact B0
 repeat refine B2 ?_
 refine ⟨fun h4=>?_,fun h4=>?_⟩<;>conv=>whnf
 ·have h4:l.sent=1000000000:=by (have:=of_decide_eq_true h4;omega)
  repeat refine B2 ?_
  rw [O1 (fun p=>p.2.2.2 h4)];refine Am A0 rfl rfl ?_;exact B0
 have h4:l.sent≠1000000000:=by (have:=of_decide_eq_false h4;omega)
 repeat refine B2 ?_
 refine Bj A0 rfl rfl rfl rfl rfl rfl rfl rfl rfl rfl rfl (Af (l.queue++[r])) (An rfl) C6 Ad (A7 ?_);(repeat refine Ap ?_);rw [A9o ⟨h1,h2,h3,h4⟩];refine Am A0 rfl rfl ?_;exact B0
set_option maxHeartbeats 1000000 in
theorem A09 (l:Ca)(r:Aa)(hl:l.w≤16777216)(og2:l.got≤9223372036854775807):B3 Tryz.prog 227 [.agg l.c,.agg r.c] [.agg (Cf l r).1.c,.one (vb (Cf l r).2)]:=by
 have hq:l.queue.length≤16777216:=hl;refine Aw A0 false Tryz.func227 rfl B5 fun W=>?_;conv=>whnf
 refine Bd (Ml l Ad) rfl (A7 ?_);refine As (Pv l Ad og2) rfl (A7 ?_);refine ⟨fun h1=>?_,fun h1=>?_⟩<;>conv=>whnf
 ·have h1:Il l=false:=by simpa using h1
  repeat refine B2 ?_
  rw [O1 (fun p=>absurd p.1 (of_decide_eq_false h1))];refine Am A0 rfl rfl ?_;exact B0
 have h1:Gn l:=of_decide_eq_true (show Il l=true by simpa using h1)
 obtain ⟨⟨n1,n2,n3,n4,n5,n6,n7⟩,nA⟩:=id h1
 repeat refine B2 ?_
 refine As (J0 r) rfl (A7 ?_)
 repeat refine B2 ?_
 refine ⟨fun h2=>?_,fun h2=>?_⟩<;>conv=>whnf
 ·have h2:Ev r=false:=by simpa using h2
  repeat refine B2 ?_
  rw [O1 (fun p=>absurd p.2.1 (of_decide_eq_false h2))];refine Am A0 rfl rfl ?_;exact B0
 have h2:H2 r:=of_decide_eq_true (show Ev r=true by simpa using h2)
 repeat refine B2 ?_
 refine ⟨fun h3=>have h3:=eq_of_beq h3;?_,fun h3=>have h3:=beq_eq_false_iff_ne.1 h3;?_⟩<;>conv=>whnf
 ·repeat refine B2 ?_
  rw [O1 (fun p=>p.2.2.1 h3)];refine Am A0 rfl rfl ?_;exact B0
 repeat refine B2 ?_
 refine ⟨fun h4=>?_,fun h4=>?_⟩<;>conv=>whnf
 ·have h4:l.sent=1000000000:=eq_of_beq h4
  repeat refine B2 ?_
  rw [O1 (fun p=>p.2.2.2 h4)];refine Am A0 rfl rfl ?_;exact B0
 have h4:l.sent≠1000000000:=beq_eq_false_iff_ne.1 h4
 repeat refine B2 ?_
 refine Bj A0 rfl rfl rfl rfl rfl rfl rfl rfl rfl rfl rfl (Af (l.queue++[r])) (An rfl) C6 Ad (A7 ?_);(repeat refine Ap ?_);rw [A9o ⟨h1,h2,h3,h4⟩];refine Am A0 rfl rfl ?_;exact B0
set_option maxHeartbeats 1000000 in
theorem W1 (l:Ca)(hl:l.w≤16777216):B3 Tryz.prog 156 [.agg l.c] [.agg (Bc l).1.c,.agg (Bc l).2.1.c,.one (vb (Bc l).2.2)]:=by
 have hq:l.queue.length≤16777216:=hl;refine Aw A0 false Tryz.func156 rfl B5 fun W=>?_;conv=>whnf
 refine Bd (Mm l Ad) rfl (A7 ?_);refine As (Qc l Ad) rfl (A7 ?_);refine ⟨fun h1=>?_,fun h1=>?_⟩<;>conv=>whnf
 ·have h1:Il l=false:=by simpa using h1
  repeat refine B2 ?_
  rw [Sn (fun p=>absurd p.1 (of_decide_eq_false h1))];refine Am A0 rfl rfl ?_;exact B0
 have h1:Gn l:=of_decide_eq_true (show Il l=true by simpa using h1)
 obtain ⟨⟨n1,n2,n3,n4,n5,n6,n7⟩,nA⟩:=id h1
 repeat refine B2 ?_
 refine ⟨fun h2=>have h2:=eq_of_beq h2;?_,fun h2=>have h2:=beq_eq_false_iff_ne.1 h2;?_⟩<;>conv=>whnf
 ·repeat refine B2 ?_
  rw [Sn (fun p=>by omega)];refine Am A0 rfl rfl ?_;exact B0
 have h2:0<l.queue.length:=by omega
 repeat refine B2 ?_
 refine Xh A0 rfl rfl rfl rfl rfl rfl rfl rfl (l:=1) rfl rfl (⟨by omega,by omega,by omega⟩) (Af (l.queue.drop 1)) (Fq (k:=1) h2) (A7 ?_);refine Bj A0 rfl rfl rfl rfl rfl rfl rfl rfl rfl rfl rfl (Af (l.queue.drop 1)) (C9) (fun _=>G5 _) (by (rw [List.length_drop];omega)) (A7 ?_);(repeat refine Ap ?_);refine H0 rfl ?_;refine Cl (s':=?_) 0 rfl A6 ?_ ?_;rotate_left;refine A7 ?_;(repeat refine Ap ?_);exact B6
 refine Dp [1,2] A6 ⟨?_,?_,trivial⟩
 focus
  refine A7 ?_;(repeat refine Ap ?_);refine Dq ?_;refine Dp [2] A6 ⟨?_,trivial⟩;refine A7 ?_;(repeat refine Ap ?_);refine Dq ?_
 rotate_left 1
 focus
  refine A7 ?_;(repeat refine Ap ?_);refine Dq ?_;refine Cl (s':=?_) 1 rfl A6 ?_ ?_;rotate_left;refine A7 ?_;(repeat refine Ap ?_);exact B6
 all_goals
  refine Dp [3] A6 ⟨?_,trivial⟩;refine A7 ?_;(repeat refine Ap ?_);refine Dq ?_;refine Bp A0 false 4 rfl rfl A6 rfl (A4 Br) ?_;refine Qk A6 (A7 ?_)
 all_goals
  rw [W5 ⟨h1,h2⟩];refine Am A0 rfl rfl ?_;exact B0
set_option maxHeartbeats 1000000 in
theorem A51 (l:Ca)(hl:l.w≤16777216)(og2:l.got≤9223372036854775807):B3 Tryz.prog 230 [.agg l.c] [.agg (Bc l).1.c,.agg (Bc l).2.1.c,.one (vb (Bc l).2.2)]:=by
 have hq:l.queue.length≤16777216:=hl;refine Aw A0 false Tryz.func230 rfl B5 fun W=>?_;conv=>whnf
 refine Bd (Ml l Ad) rfl (A7 ?_);refine As (Pv l Ad og2) rfl (A7 ?_);refine ⟨fun h1=>?_,fun h1=>?_⟩<;>conv=>whnf
 ·have h1:Il l=false:=by simpa using h1
  repeat refine B2 ?_
  rw [Sn (fun p=>absurd p.1 (of_decide_eq_false h1))];refine Am A0 rfl rfl ?_;exact B0
 have h1:Gn l:=of_decide_eq_true (show Il l=true by simpa using h1)
 obtain ⟨⟨n1,n2,n3,n4,n5,n6,n7⟩,nA⟩:=id h1
 repeat refine B2 ?_
 refine ⟨fun h2=>have h2:=eq_of_beq h2;?_,fun h2=>have h2:=beq_eq_false_iff_ne.1 h2;?_⟩<;>conv=>whnf
 ·repeat refine B2 ?_
  rw [Sn (fun p=>by omega)];refine Am A0 rfl rfl ?_;exact B0
 have h2:0<l.queue.length:=by omega
 repeat refine B2 ?_
 refine Xh A0 rfl rfl rfl rfl rfl rfl rfl rfl (l:=1) rfl rfl (⟨by omega,by omega,by omega⟩) (Af (l.queue.drop 1)) (Fq (k:=1) h2) (A7 ?_);(repeat refine Ap ?_);refine H0 rfl ?_;refine Bp A0 false 1 rfl rfl A6 rfl (A4 Br) ?_;refine Cl (s':=?_) 0 rfl A6 ?_ ?_;rotate_left;refine A7 ?_;(repeat refine Ap ?_);exact B6
 refine Dp [2,5] A6 ⟨?_,?_,trivial⟩
 focus
  refine A7 ?_;(repeat refine Ap ?_);refine Dq ?_;refine Dp [3,5] A6 ⟨?_,?_,trivial⟩
  focus
   refine A7 ?_;(repeat refine Ap ?_);refine Dq ?_;refine Dp [4,5] A6 ⟨?_,?_,trivial⟩
   focus
    refine A7 ?_;(repeat refine Ap ?_);refine Dq ?_;refine Dp [5] A6 ⟨?_,trivial⟩;refine A7 ?_;(repeat refine Ap ?_);refine Dq ?_
   rotate_left 1
   focus
    refine A7 ?_;(repeat refine Ap ?_);refine Dq ?_;refine Cl (s':=?_) 4 rfl A6 ?_ ?_;rotate_left;refine A7 ?_;(repeat refine Ap ?_);exact B6
  rotate_left 2
  focus
   refine A7 ?_;(repeat refine Ap ?_);refine Dq ?_;refine Cl (s':=?_) 3 rfl A6 ?_ ?_;rotate_left;refine A7 ?_;(repeat refine Ap ?_);exact B6
   refine Cl (s':=?_) 4 rfl A6 ?_ ?_;rotate_left;refine A7 ?_;(repeat refine Ap ?_);exact B6
 rotate_left 3
 focus
  refine A7 ?_;(repeat refine Ap ?_);refine Dq ?_;refine Cl (s':=?_) 2 rfl A6 ?_ ?_;rotate_left;refine A7 ?_;(repeat refine Ap ?_);exact B6
  refine Cl (s':=?_) 3 rfl A6 ?_ ?_;rotate_left;refine A7 ?_;(repeat refine Ap ?_);exact B6
  refine Cl (s':=?_) 4 rfl A6 ?_ ?_;rotate_left;refine A7 ?_;(repeat refine Ap ?_);exact B6
 all_goals
  refine Dp [6] A6 ⟨?_,trivial⟩;refine A7 ?_;(repeat refine Ap ?_);refine Dq ?_;refine Bp A0 false 7 rfl rfl A6 rfl (A4 Br) ?_;refine Qk A6 (A7 ?_)
 all_goals
  rw [W5 ⟨h1,h2⟩];refine Am A0 rfl rfl ?_;exact B0
theorem Rw (l:Ca)(hl:l.w≤16777216):B3 Tryz.prog 157 [.agg l.c] [.agg (Ce l).1.c,.one (vb (Ce l).2)]:=by
 refine Aw A0 false Tryz.func157 rfl B5 fun W=>?_;conv=>whnf
 refine Bd (Mm l Ad) rfl (A7 ?_);refine As (Qc l Ad) rfl (A7 ?_);refine ⟨fun h1=>?_,fun h1=>?_⟩<;>conv=>whnf
 ·have h1:Il l=false:=by simpa using h1
  repeat refine B2 ?_
  rw [Ys (fun p=>absurd p.1 (of_decide_eq_false h1))];refine Am A0 rfl rfl ?_;exact B0
 have h1:Gn l:=of_decide_eq_true (show Il l=true by simpa using h1)
 obtain ⟨⟨n1,n2,n3,n4,n5,n6,n7⟩,nA⟩:=id h1
 repeat refine B2 ?_
 refine ⟨fun h2=>have h2:=eq_of_beq h2;?_,fun h2=>have h2:=beq_eq_false_iff_ne.1 h2;?_⟩<;>conv=>whnf
 ·repeat refine B2 ?_
  rw [Ys (fun p=>p.2 h2)];refine Am A0 rfl rfl ?_;exact B0
 repeat refine B2 ?_
 rw [A7u ⟨h1,h2⟩];refine Am A0 rfl rfl ?_;exact B0
theorem A0z (l:Ca)(hl:l.w≤16777216)(og2:l.got≤9223372036854775807):B3 Tryz.prog 232 [.agg l.c] [.agg (Ce l).1.c,.one (vb (Ce l).2)]:=by
 refine Aw A0 false Tryz.func232 rfl B5 fun W=>?_;conv=>whnf
 refine Bd (Ml l Ad) rfl (A7 ?_);refine As (Pv l Ad og2) rfl (A7 ?_);refine ⟨fun h1=>?_,fun h1=>?_⟩<;>conv=>whnf
 ·have h1:Il l=false:=by simpa using h1
  repeat refine B2 ?_
  rw [Ys (fun p=>absurd p.1 (of_decide_eq_false h1))];refine Am A0 rfl rfl ?_;exact B0
 have h1:Gn l:=of_decide_eq_true (show Il l=true by simpa using h1)
 obtain ⟨⟨n1,n2,n3,n4,n5,n6,n7⟩,nA⟩:=id h1
 repeat refine B2 ?_
 refine ⟨fun h2=>have h2:=eq_of_beq h2;?_,fun h2=>have h2:=beq_eq_false_iff_ne.1 h2;?_⟩<;>conv=>whnf
 ·repeat refine B2 ?_
  rw [Ys (fun p=>p.2 h2)];refine Am A0 rfl rfl ?_;exact B0
 repeat refine B2 ?_
 rw [A7u ⟨h1,h2⟩];refine Am A0 rfl rfl ?_;exact B0
theorem Lo (x:Ab):x.queue.length≤x.w∧x.staged.length≤x.w∧x.inputs.length≤x.w∧x.cells.length≤x.w∧x.sums.length≤x.w∧x.black.length≤x.w∧x.caps.length≤x.w:=by simp only [Ab.w];omega
theorem A8g (x:Ab)(r:Aa)(h:x.w≤16000000):B3 Tryz.prog 225 [.agg x.c,.agg r.c] [.agg (kept x r).c]:=by
 have hw:=Lo x;refine Aw A0 false Tryz.func225 rfl B5 fun W=>?_;conv=>whnf
 refine Bd (Hm x Ad) rfl (A7 ?_);refine Bj A0 rfl rfl rfl rfl rfl rfl rfl rfl rfl rfl rfl (Af (x.queue++[r])) (An rfl) C6 Ad (A7 ?_);refine Am A0 rfl rfl ?_;exact B0
theorem A9p {w:Ab}{e:Int}(h:¬ (0≤e∧e<w.sums.length)):E5 w e=w:=if_neg h
theorem Vt {w:Ab}{e:Int}(h:0≤e∧e<w.sums.length):E5 w e=Fk w e 1:=if_pos h
theorem A5z (x:Ab)(e:Int)(h:x.w≤16000000)(hS:Zf x.sums):B3 Tryz.prog 228 [.agg x.c,.one (vi e)] [.agg (E5 x e).c]:=by
 have hw:=Lo x;refine Aw A0 false Tryz.func228 rfl B5 fun W=>?_;conv=>whnf
 refine Bd (Hm x Ad) rfl (A7 ?_);(repeat refine Ap ?_);refine As (Ik e 0 (x.sums.length-1)) rfl (A7 ?_);refine ⟨fun h1=>?_,fun h1=>?_⟩<;>conv=>whnf
 ·have hb:=Go.Sx.Al.1 h1
  have hk:e.toNat<x.sums.length:=by omega
  have hs:Hf (x.sums.getD e.toNat default):=hS _ (At hk);obtain ⟨s1,s2⟩:=hs
  repeat refine B2 ?_
  refine Bv (j:=e) A0 rfl rfl rfl rfl rfl rfl rfl rfl (Bh (x.sums.set e.toNat (x.sums.getD e.toNat default+1))) (Ck hk rfl) (A7 ?_);rw [Vt ⟨by omega,by omega⟩];refine Am A0 rfl rfl ?_;exact B0
 have hb:=Go.Sx.B4.1 h1
 repeat refine B2 ?_
 rw [A9p (fun p=>hb ⟨by omega,by omega⟩)];refine Am A0 rfl rfl ?_;exact B0
theorem Y4 {w:Ab}{r:Aa}(h1:w.sums.length=4)(h2:w.black.length=4)(he:0≤r.stamp.epoch∧r.stamp.epoch≤3):D0 w r=Hw (Fk (kept w r) r.stamp.epoch (-1)) r.stamp.epoch:=by
 unfold D0;rw [if_pos ⟨by omega,by omega,by omega⟩]
set_option maxHeartbeats 1000000 in
theorem A5y (x:Ab)(r:Aa)(h:x.w≤8000000)(hS:Zf x.sums)(h1:x.sums.length=4)(h2:x.black.length=4)(he:0≤r.stamp.epoch∧r.stamp.epoch≤3):B3 Tryz.prog 231 [.agg x.c,.agg r.c] [.agg (D0 x r).c]:=by
 have hw:=Lo x;have hk:r.stamp.epoch.toNat<x.sums.length:=by omega
 have hk2:r.stamp.epoch.toNat<x.black.length:=by omega
 have hs:Hf (x.sums.getD r.stamp.epoch.toNat default):=hS _ (At hk);obtain ⟨s1,s2⟩:=hs;have g1:(kept x r).sums.length=4:=h1;have g2:(kept x r).black.length=4:=h2;have g3:(kept x r).sums.getD r.stamp.epoch.toNat default=x.sums.getD r.stamp.epoch.toNat default:=rfl;have hm:(if (x.black.length:Int)<x.sums.length then (x.black.length:Int) else x.sums.length)=4:=by split<;>omega
 refine Aw A0 false Tryz.func231 rfl B5 fun W=>?_;conv=>whnf
 refine Bd (A8g x r Ad) rfl (A7 ?_);rw [hm];(repeat refine Ap ?_);refine As (Ik r.stamp.epoch 0 3) rfl (A7 ?_);rw [show E6 r.stamp.epoch 0 3=true from Go.Sx.Al.2 he]
 repeat refine B2 ?_
 refine Bv (j:=r.stamp.epoch) A0 rfl rfl rfl rfl rfl rfl rfl rfl (Bh (x.sums.set r.stamp.epoch.toNat (x.sums.getD r.stamp.epoch.toNat default+ -1))) (Ck hk rfl) (A7 ?_);(repeat refine Ap ?_);refine Bv (j:=r.stamp.epoch) A0 rfl rfl rfl rfl rfl rfl rfl rfl (Dw (x.black.set r.stamp.epoch.toNat true)) (Ck hk2 rfl) (A7 ?_);rw [Y4 h1 h2 he];refine Am A0 rfl rfl ?_;exact B0
theorem B0b {w:Ab}(h:¬ 0<w.staged.length):Gx w=(w,default,false):=if_neg h
theorem W7 {w:Ab}(h:0<w.staged.length):Gx w=(Cd w,w.staged.getD 0 default,true):=if_pos h
theorem A52 (x:Ab)(h:x.w≤16000000):B3 Tryz.prog 224 [.agg x.c] [.agg (Gx x).1.c,.agg (Gx x).2.1.c,.one (vb (Gx x).2.2)]:=by
 have hw:=Lo x;refine Aw A0 false Tryz.func224 rfl B5 fun W=>?_;conv=>whnf
 refine Bd (Hm x Ad) rfl (A7 ?_);refine ⟨fun h1=>have h1:=eq_of_beq h1;?_,fun h1=>have h1:=beq_eq_false_iff_ne.1 h1;?_⟩<;>conv=>whnf
 ·repeat refine B2 ?_
  rw [B0b Ad];refine Am A0 rfl rfl ?_;exact B0
 have h1:0<x.staged.length:=by omega
 repeat refine B2 ?_
 refine Xh A0 rfl rfl rfl rfl rfl rfl rfl rfl (l:=1) rfl rfl (⟨by omega,by omega,by omega⟩) (Af (x.staged.drop 1)) (Fq (k:=1) h1) (A7 ?_);refine H0 rfl ?_;refine Bp A0 false 1 rfl rfl A6 rfl (A4 Br) ?_;refine Cl (s':=?_) 0 rfl A6 ?_ ?_;rotate_left;refine A7 ?_;(repeat refine Ap ?_);exact B6
 refine Dp [2,5] A6 ⟨?_,?_,trivial⟩
 focus
  refine A7 ?_;(repeat refine Ap ?_);refine Dq ?_;refine Dp [3,5] A6 ⟨?_,?_,trivial⟩
  focus
   refine A7 ?_;(repeat refine Ap ?_);refine Dq ?_;refine Dp [4,5] A6 ⟨?_,?_,trivial⟩
   focus
    refine A7 ?_;(repeat refine Ap ?_);refine Dq ?_;refine Dp [5] A6 ⟨?_,trivial⟩;refine A7 ?_;(repeat refine Ap ?_);refine Dq ?_
   rotate_left 1
   focus
    refine A7 ?_;(repeat refine Ap ?_);refine Dq ?_;refine Cl (s':=?_) 4 rfl A6 ?_ ?_;rotate_left;refine A7 ?_;(repeat refine Ap ?_);exact B6
  rotate_left 2
  focus
   refine A7 ?_;(repeat refine Ap ?_);refine Dq ?_;refine Cl (s':=?_) 3 rfl A6 ?_ ?_;rotate_left;refine A7 ?_;(repeat refine Ap ?_);exact B6
   refine Cl (s':=?_) 4 rfl A6 ?_ ?_;rotate_left;refine A7 ?_;(repeat refine Ap ?_);exact B6
 rotate_left 3
 focus
  refine A7 ?_;(repeat refine Ap ?_);refine Dq ?_;refine Cl (s':=?_) 2 rfl A6 ?_ ?_;rotate_left;refine A7 ?_;(repeat refine Ap ?_);exact B6
  refine Cl (s':=?_) 3 rfl A6 ?_ ?_;rotate_left;refine A7 ?_;(repeat refine Ap ?_);exact B6
  refine Cl (s':=?_) 4 rfl A6 ?_ ?_;rotate_left;refine A7 ?_;(repeat refine Ap ?_);exact B6
 all_goals
  refine Dp [6] A6 ⟨?_,trivial⟩;refine A7 ?_;(repeat refine Ap ?_);refine Dq ?_;refine Bp A0 false 7 rfl rfl A6 rfl (A4 Br) ?_;refine Qk A6 (A7 ?_)
 all_goals
  rw [W7 h1];refine Am A0 rfl rfl ?_;exact B0
theorem Ou {g:Ah}{w:Ab}(h:¬ O4 g w):Df g w=(w,false):=if_neg h
theorem A38 {g:Ah}{w:Ab}(h:O4 g w):Df g w=(I7 w,true):=if_pos h
set_option maxHeartbeats 1000000 in
theorem Sw (g:Ah)(x:Ab)(hg:g.w≤16777216)(h:x.w≤16000000):B3 Tryz.prog 223 [.agg g.c,.agg x.c] [.agg (Df g x).1.c,.one (vb (Df g x).2)]:=by
 have hw:=Lo x;refine Aw A0 false Tryz.func223 rfl B5 fun W=>?_;conv=>whnf
 refine Bd (Hm x Ad) rfl (A7 ?_);refine As (K0 g Ad) rfl (A7 ?_);refine ⟨fun h1=>?_,fun h1=>?_⟩<;>conv=>whnf
 ·have h1:F1 g=false:=by simpa using h1
  repeat refine B2 ?_
  rw [Ou (fun p=>absurd p.1 (of_decide_eq_false h1))];refine Am A0 rfl rfl ?_;exact B0
 have h1:Ea g:=of_decide_eq_true (show F1 g=true by simpa using h1)
 repeat refine B2 ?_
 refine As (Py g x Ad Ad) rfl (A7 ?_)
 repeat refine B2 ?_
 refine ⟨fun h2=>?_,fun h2=>?_⟩<;>conv=>whnf
 ·have h2:Hd g.nodes.length x=false:=by simpa using h2
  repeat refine B2 ?_
  rw [Ou (fun p=>absurd p.2.1 (of_decide_eq_false h2))];refine Am A0 rfl rfl ?_;exact B0
 have h2:Db g.nodes.length x:=of_decide_eq_true (show Hd g.nodes.length x=true by simpa using h2)
 repeat refine B2 ?_
 refine ⟨fun h3=>?_,fun h3=>?_⟩<;>conv=>whnf
 ·have h3:¬ x.staged.length=0:=by have:=of_decide_eq_true h3;omega
  repeat refine B2 ?_
  rw [Ou (fun p=>h3 p.2.2.1)];refine Am A0 rfl rfl ?_;exact B0
 have h3:x.staged.length=0:=by have:=of_decide_eq_false h3;omega
 repeat refine B2 ?_
 refine ⟨fun h4=>?_,fun h4=>?_⟩<;>conv=>whnf
 ·have h4:¬ x.queue.length=0:=by have:=of_decide_eq_true h4;omega
  repeat refine B2 ?_
  rw [Ou (fun p=>h4 p.2.2.2.1)];refine Am A0 rfl rfl ?_;exact B0
 have h4:x.queue.length=0:=by have:=of_decide_eq_false h4;omega
 repeat refine B2 ?_
 refine ⟨fun h5=>have h5:=eq_of_beq h5;?_,fun h5=>have h5:=beq_eq_false_iff_ne.1 h5;?_⟩<;>conv=>whnf
 ·repeat refine B2 ?_
  rw [Ou (fun p=>by have:=p.2.2.2.2;omega)];refine Am A0 rfl rfl ?_;exact B0
 have h5:0<x.inputs.length:=by omega
 repeat refine B2 ?_
 first|(refine Ax 4 rfl [0,1,2,3,4,5,6,7,8,9] A6 (A7 ?_))
 (repeat refine Ap ?_);refine Bj A0 rfl rfl rfl rfl rfl rfl rfl rfl rfl rfl rfl (Af (x.queue++[x.inputs.getD 0 default])) (An rfl) C6 Ad (A7 ?_);(repeat refine Ap ?_);refine Xh A0 rfl rfl rfl rfl rfl rfl rfl rfl (l:=1) rfl rfl (⟨by omega,by omega,by omega⟩) (Af (x.inputs.drop 1)) (Fq (k:=1) h5) (A7 ?_);rw [A38 ⟨h1,h2,h3,h4,h5⟩];refine Am A0 rfl rfl ?_;exact B0
theorem Wa {g:Ah}{w:Ab}(h:¬ Qu g w):Fi g w=(w,false):=if_neg h
theorem A2r {g:Ah}{w:Ab}(h:Qu g w):Fi g w=(F9 g w,true):=if_pos h
set_option maxHeartbeats 1000000 in
theorem A1a (g:Ah)(x:Ab)(hg:g.w≤16777216)(h:x.w≤16000000):B3 Tryz.prog 222 [.agg g.c,.agg x.c] [.agg (Fi g x).1.c,.one (vb (Fi g x).2)]:=by
 have hw:=Lo x;refine Aw A0 false Tryz.func222 rfl B5 fun W=>?_;conv=>whnf
 refine Bd (Hm x Ad) rfl (A7 ?_);refine As (K0 g Ad) rfl (A7 ?_);refine ⟨fun h1=>?_,fun h1=>?_⟩<;>conv=>whnf
 ·have h1:F1 g=false:=by simpa using h1
  repeat refine B2 ?_
  rw [Wa (fun p=>absurd p.1 (of_decide_eq_false h1))];refine Am A0 rfl rfl ?_;exact B0
 have h1:Ea g:=of_decide_eq_true (show F1 g=true by simpa using h1)
 repeat refine B2 ?_
 refine As (Py g x Ad Ad) rfl (A7 ?_)
 repeat refine B2 ?_
 refine ⟨fun h2=>?_,fun h2=>?_⟩<;>conv=>whnf
 ·have h2:Hd g.nodes.length x=false:=by simpa using h2
  repeat refine B2 ?_
  rw [Wa (fun p=>absurd p.2.1 (of_decide_eq_false h2))];refine Am A0 rfl rfl ?_;exact B0
 have h2:Db g.nodes.length x:=of_decide_eq_true (show Hd g.nodes.length x=true by simpa using h2)
 repeat refine B2 ?_
 refine ⟨fun h3=>?_,fun h3=>?_⟩<;>conv=>whnf
 ·have h3:¬ x.staged.length=0:=by have:=of_decide_eq_true h3;omega
  repeat refine B2 ?_
  rw [Wa (fun p=>h3 p.2.2.1)];refine Am A0 rfl rfl ?_;exact B0
 have h3:x.staged.length=0:=by have:=of_decide_eq_false h3;omega
 repeat refine B2 ?_
 refine ⟨fun h4=>have h4:=eq_of_beq h4;?_,fun h4=>have h4:=beq_eq_false_iff_ne.1 h4;?_⟩<;>conv=>whnf
 ·repeat refine B2 ?_
  rw [Wa (fun p=>by have:=p.2.2.2;omega)];refine Am A0 rfl rfl ?_;exact B0
 have h4:0<x.queue.length:=by omega
 have hR:=h2.1.1 _ (At (d:=default) h4);have hE:=hR.1.2.1;have hcl:x.caps.length=4:=h2.2.1.2.2;have hc:(x.queue.getD 0 default).stamp.epoch.toNat<x.caps.length:=by have:=h2.2.1.2.2;omega
 repeat refine B2 ?_
 refine Xh A0 rfl rfl rfl rfl rfl rfl rfl rfl (l:=1) rfl rfl (⟨by omega,by omega,by omega⟩) (Af (x.queue.drop 1)) (Fq (k:=1) h4) (A7 ?_);refine Bd (B08 g x.cells (x.queue.getD 0 default) hg Ad) rfl (A7 ?_);refine As (B03 g (x.queue.getD 0 default) hg) rfl (A7 ?_);refine ⟨fun h5=>?_,fun h5=>?_⟩<;>conv=>whnf
 ·have h5:capped g (x.queue.getD 0 default)=true:=h5
  refine ⟨by (show 0≤(x.queue.getD 0 default).stamp.epoch∧(x.queue.getD 0 default).stamp.epoch<x.caps.length;omega),?_⟩
  conv=>whnf
  refine Bv (j:=(x.queue.getD 0 default).stamp.epoch) A0 rfl rfl rfl rfl rfl rfl rfl rfl (Dw (x.caps.set (x.queue.getD 0 default).stamp.epoch.toNat true)) (Ck hc rfl) (A7 ?_);rw [A2r ⟨h1,h2,h3,h4⟩,F9,if_pos h5];refine Am A0 rfl rfl ?_;exact B0
 have h5:capped g (x.queue.getD 0 default)=false:=h5;rw [A2r ⟨h1,h2,h3,h4⟩,F9,if_neg (by rw [h5];decide)];refine Am A0 rfl rfl ?_;exact B0
end Go.Proofs.YtdendlkeiaccpaaGreat
