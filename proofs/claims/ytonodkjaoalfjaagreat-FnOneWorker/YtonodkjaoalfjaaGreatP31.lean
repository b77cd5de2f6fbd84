/- Part 31 of the proof that each of the laws FnOneWorker returns true for every input. No conditions. -/
import Derived.Test.YtonodkjaoalfjaaGreatP26
import Derived.Test.YtonodkjaoalfjaaGreatP29
import Derived.Test.YtonodkjaoalfjaaGreatP30
import Derived.Test.YtonodkjaoalfjaaGreatP28
import Derived.Test.YtonodkjaoalfjaaGreatP5
import Derived.Test.YtonodkjaoalfjaaGreatP13

set_option linter.unusedSimpArgs false
set_option linter.unusedVariables false
set_option maxRecDepth 100000
namespace Go.Proofs.YtonodkjaoalfjaaGreat
open Go.Sx
theorem Xm (B:Nat):∀(l:List Nat),(∀x∈l,x≤B)→l.sum≤B * l.length
 | [],_=>Nat.zero_le _
 |x::l,h=>by
  have h1:=Xm B l fun y hy=>h y (List.mem_cons_of_mem _ hy)
  have h2:=h x (List.mem_cons_self ..)
  rw [List.sum_cons,List.length_cons,Nat.mul_succ]
  omega
theorem A82:∀(l:List A5),(∀r∈l,r.op=0)→Oa l=6 * l.length
 | [],_=>rfl
 |r::l,h=>by
  have h1:=A82 l fun q hq=>h q (List.mem_cons_of_mem _ hq)
  have h2:qw r.op=5:=by rw [h r (List.mem_cons_self ..)];rfl
  unfold Oa at *
  rw [List.map_cons,List.sum_cons,h1,h2,List.length_cons]
  omega
theorem A63 (n:Int)(l:List A5)(w:Nat):(Nr n l w).length≤4 * l.length:=by
 have h:∀k:Nat,((List.range k).flatMap fun (e:Nat)=>(Bs l e).filter fun r=>Cf r.key n==w).length≤k * l.length:=by
  intro k
  induction k with
  |zero=>exact Nat.le_of_eq (Nat.zero_mul _).symm
  |succ k ih=>
   rw [Hj,List.length_append,Nat.succ_mul]
   have h1:=List.length_filter_le (fun r:A5=>Cf r.key n==w) (Bs l k)
   have h2:(Bs l k).length≤l.length:=List.length_filter_le _ _
   omega
 exact h 4
theorem A32 {g:Ad}{a b:Int}{ins:List A5}(hN:K6 g ins)(hI:Me ins):H9 g a b ins (Ah g ins).1:=by
 have hwk:=Pv hN
 refine ⟨by unfold Ah;rw [if_pos hN],fun i hi r hr=>?_,fun i hi r hr=>?_,fun i hi r hr=>?_,fun j hj r hr=>?_⟩
 ·rw [hwk i hi] at hr;cases hr
 ·rw [hwk i hi] at hr;cases hr
 ·rw [hwk i hi] at hr
  obtain ⟨h1,h2⟩:=Mm hr
  obtain ⟨o1,o2,_⟩:=hI.2 r h1
  exact ⟨⟨r,h1,0,0,rfl,o2,by omega,.inl ⟨.inl o1,rfl,rfl,rfl⟩⟩,h2⟩
 ·rw [P4 hN _ (Aq (d:=default) hj)] at hr
  cases hr
theorem B4d {g:Ad}{a b:Int}{ins:List A5}(hN:K6 g ins)(hI:Me ins):pot (D3 a b ins) (Ah g ins).1≤2500:=by
 have hwk:=Pv hN
 have hlen:=S3 hN
 have hn:=hN.1.2.1
 have h1:((Ah g ins).1.workers.map Hw).sum≤120 * ((Ah g ins).1.workers.map Hw).length:=Xm 120 _ fun x hx=>by
  obtain ⟨y,hy,rfl⟩:=List.mem_map.1 hx
  obtain ⟨i,hi,rfl⟩:=T9 hy
  show Hw (wk (Ah g ins).1 i)≤120
  rw [hwk i hi]
  have h2:=A63 g.workers ins i
  have h3:=A82 (Nr g.workers ins i) fun r hr=>(hI.2 r (Mm hr).1).1
  have:=hI.1
  show Xu []+Oa []+Oa (Nr g.workers ins i)≤120
  have e1:Xu []=0:=rfl
  have e2:Oa []=0:=rfl
  omega
 have h4:((Ah g ins).1.links.map Mn).sum=0:=Q3 _ fun x hx=>by
  obtain ⟨y,hy,rfl⟩:=List.mem_map.1 hx
  rw [P4 hN y hy]
  rfl
 have h5:K4 (Ah g ins).1 (D3 a b ins)≤28 * ins.length:=by
  rw [←Z5 a b ins]
  exact List.length_filter_le _ _
 have:=hI.1
 rw [List.length_map] at h1
 unfold pot
 omega
theorem A6w {g:Ad}{ins:List A5}(hN:K6 g ins):Oe (Ah g ins).1:=by
 unfold Ah
 rw [if_pos hN]
 intro x hx
 cases hx
theorem B46 {g:Ad}{ins:List A5}{pk:List Bl}(N:Nat)(hN':2900≤N)(hS:Uz g.nodes)(hN:K6 g ins)(hI:Me ins)(hp:pk.length≤80)(h1:g.cap=1∨g.workers=1):
  Et 80 (Bh (Ah g ins).1 pk).1∧(Di N (Bh (Ah g ins).1 pk).1).2<2900∧(∃k',Et k' (Di N (Bh (Ah g ins).1 pk).1).1)∧Lj (Di N (Bh (Ah g ins).1 pk).1).1∧(Di N (Bh (Ah g ins).1 pk).1).1.graph=g:=by
 obtain ⟨a,b,hF⟩:=B3f hS
 have hR0:=A33 hN
 obtain ⟨hD,hP⟩:=Mo (a:=a) (b:=b) hF hI pk ((Ah g ins).1,[]) hR0 Ac (A32 hN hI)
 have hR:Et 80 (Bh (Ah g ins).1 pk).1:=(hR0.runs (l:=pk) Ac).more Ac
 have hgr:(Bh (Ah g ins).1 pk).1.graph=g:=by
  refine (Um pk ((Ah g ins).1,[])).trans ?_
  unfold Ah
  rw [if_pos hN]
 have hT:Oe (Bh (Ah g ins).1 pk).1:=R4 pk ((Ah g ins).1,[]) (A6w hN)
 have hpt:=B4d (a:=a) (b:=b) hN hI
 have hP:pot (D3 a b ins) (Bh (Ah g ins).1 pk).1≤pot (D3 a b ins) (Ah g ins).1:=hP
 have hD:H9 g a b ins (Bh (Ah g ins).1 pk).1:=hD
 obtain ⟨e1,e2,e3,e4⟩:=B0a N hN' hF hI hR Ac hD hT Ac (by rw [hgr];exact h1)
 exact ⟨hR,e1,e2,e3,e4.trans hgr⟩
theorem B4e {g:Ad}{ins:List A5}{e:Int}(hN:K6 g ins):Mw g ins e (Ah g ins).1 (fun _ _ _=>False):=by
 have hwk:=Pv hN
 have hlen:=S3 hN
 have hn:=hN.1.2.1
 have hp:∀q,H7 (Ah g ins).1 q→q∈ins:=by
  rintro q (⟨i,hi,hq⟩|⟨j,hj,hq⟩)
  ·rw [hwk i hi] at hq
   rcases hq with hq|hq|hq
   ·cases hq
   ·cases hq
   ·exact (Mm hq).1
  ·rw [P4 hN _ (Aq (d:=default) hj)] at hq
   cases hq
 refine ⟨by unfold Ah;rw [if_pos hN],fun r hr he=>⟨r.val,Int.le_refl _,.inl ⟨r,.inl ⟨(Cf r.key g.workers).toNat,?_,.inr (.inr ?_)⟩,(hN.2.2 r hr).2.1,he,rfl,rfl⟩⟩,fun _ _ _ _ h=>h.elim,?_,fun i hi x hx _=>?_,fun _ _ _ h=>h.elim,fun i hi x hx=>?_⟩
 ·have hb:=Ns (k:=r.key) (n:=g.workers) (hN.2.2 r hr).1.2.2.2.1.1 hn.1
  omega
 ·have hb:=Ns (k:=r.key) (n:=g.workers) (hN.2.2 r hr).1.2.2.2.1.1 hn.1
  rw [hwk _ Ac]
  have he4:=(hN.2.2 r hr).1.2.1
  show r∈Nr g.workers ins _
  refine List.mem_flatMap.2 ⟨r.stamp.epoch.toNat,List.mem_range.2 Ac,List.mem_filter.2 ⟨Ik.2 ⟨hr,by omega⟩,?_⟩⟩
  rw [beq_iff_eq]
  omega
 ·rintro op k v (⟨q,hq,h1,h2,h3,h4⟩|h)
  ·have hm:=hp q hq
   have:=Drv.inp (g:=g) (ins:=ins) (e:=e) q hm h2
   rw [h3,h4] at this
   have h0:op=0:=by rw [←h1];exact (hN.2.2 q hm).2.1
   rw [h0]
   exact this
  ·exact h.elim
 ·rw [hwk i hi] at hx
  cases hx
 ·rw [hwk i hi] at hx
  cases hx
theorem A6v {g:Ad}{ins:List A5}(hN:K6 g ins):Kr (Ah g ins).1:=fun i hi x hx=>by
 rw [Pv hN i hi] at hx
 cases hx
theorem B44 {g:Ad}{a b:Int}{ins:List A5}{e:Int}{c:A3}{p:Bl}(hC:Ap c)(hD:H9 g a b ins c)(hO:Kr c)(h:∃H,Mw g ins e c H)(he:0≤e∧e≤3):∃H,Mw g ins e (Ag c p).1 H:=by
 obtain ⟨H,h⟩:=h
 by_cases hp:p.kind=1
 ·have e0:Ag c p=Cr c p.a:=by unfold Ag;rw [if_pos hp]
  rw [e0]
  exact B45 hC hD hO h he
 ·exact ⟨H,B08 hC hp h⟩
theorem X8 {g:Ad}{a b:Int}{ins:List A5}{e:Int}(hF:GrF g a b)(hI:Me ins)(he:0≤e∧e≤3):∀(l:List Bl) {k:Nat} (s:A3×List Bool),Et k s.1→k+l.length≤200000→H9 g a b ins s.1→Kr s.1→(∃H,Mw g ins e s.1 H)→
  H9 g a b ins (l.foldl Cl s).1∧Kr (l.foldl Cl s).1∧∃H,Mw g ins e (l.foldl Cl s).1 H
 | [],_,_,_,_,hD,hO,h=>⟨hD,hO,h⟩
 |p::l,k,s,hR,hk,hD,hO,h=>by
  simp only [List.length_cons] at hk
  exact X8 hF hI he l (k:=k+1) (Cl s p) (hR.step Ac) Ac (X1 hF hI hR.ok hD).1 (A50 hD hO) (B44 hR.ok hD hO h he)
theorem A88 {g:Ad}{a b:Int}{ins:List A5}{e:Int}(hF:GrF g a b)(hI:Me ins)(he:0≤e∧e≤3){k:Nat}{c:A3}(hR:Et k c)(hD:H9 g a b ins c)(hO:Kr c)(h:∃H,Mw g ins e c H):∀n,k+44 * n≤200000→
  H9 g a b ins (frN c n)∧Kr (frN c n)∧∃H,Mw g ins e (frN c n) H
 | 0,_=>⟨hD,hO,h⟩
 |n+1,hk=>by
  obtain ⟨i1,i2,i3⟩:=A88 hF hI he hR hD hO h n Ac
  have:=H0 (frN c n)
  exact X8 hF hI he (Gz (Co (frN c n))) (frN c n,[]) (hR.frN n Ac) Ac i1 i2 i3
theorem A8n {g:Ad}{ins:List A5}(hN:K6 g ins):Uc ins:=fun r hr=>hN.2.2 r hr
theorem A7d {g:Ad}{ins:List A5}{pk:List Bl}(N:Nat)(hN3:N≤3000)(hS:Uz g.nodes)(hN:K6 g ins)(hI:Me ins)(hp:pk.length≤80){e:Int}(he:0≤e∧e≤3){best:List A7}(hF:Si g ins e best [])
  (hd:(Dc (wk (Di N (Bh (Ah g ins).1 pk).1).1 0) e).2=true)(hc:(Dc (wk (Di N (Bh (Ah g ins).1 pk).1).1 0) e).1.capped=false):Hv (Di N (Bh (Ah g ins).1 pk).1).1 e=Ee g best:=by
 obtain ⟨a,b,hG⟩:=B3f hS
 have hR0:=A33 hN
 obtain ⟨hD,hO,hRs⟩:=X8 hG hI he pk ((Ah g ins).1,[]) hR0 Ac (A32 (a:=a) (b:=b) hN hI) (A6v hN) ⟨_,B4e hN⟩
 have hR:Et 80 (Bh (Ah g ins).1 pk).1:=(hR0.runs (l:=pk) Ac).more Ac
 have hD:H9 g a b ins (Bh (Ah g ins).1 pk).1:=hD
 have hO:Kr (Bh (Ah g ins).1 pk).1:=hO
 have hRs:∃H,Mw g ins e (Bh (Ah g ins).1 pk).1 H:=hRs
 generalize (Bh (Ah g ins).1 pk).1=c at *
 obtain ⟨m,hm,hf,_⟩:=A0w N c
 rw [hf] at hd hc ⊢
 dsimp only at hd hc ⊢
 have hRm:=hR.frN m Ac
 obtain ⟨hDm,hOm,H,hRm2⟩:=A88 hG hI he hR hD hO hRs m Ac
 obtain ⟨d1,d2,d3⟩:=(hRm.sf e he.1 he.2).2.2 hd
 refine B65 hRm2 hN.1 (A8n hN) hOm (fun q hq hqe=>?_) (d3 hc) hF
 rcases hq with ⟨i,hi,hq⟩|⟨j,hj,hq⟩
 ·obtain ⟨p1,p2,p3⟩:=Dw.1 (d1 i hi)
  rcases hq with hq|hq|hq
  ·exact p2 q hq hqe
  ·exact p3 q hq hqe
  ·have:=p1 q hq;omega
 ·have:=A1d (List.mem_map_of_mem (f:=fun l:C2=>(Bs l.queue e).length) (Aq (d:=default) hj))
  have hz:(Bs ((frN c m).links.getD j default).queue e).length≤0:=by rw [←d2];exact this
  have:=List.length_pos_of_mem (Ik.2 ⟨hq,hqe⟩)
  omega
theorem B0w {k:Nat}{c:A3}{e:Int}(hR:Et k c)(hA:Lj c)(he:0≤e∧e≤3):(Dc (wk c 0) e).2=true:=by
 rw [Hd]
 exact hA.dn e he.1 he.2 0 (Ki hR.ok)
theorem B0y {k:Nat}{c:A3}{e:Int}(hR:Et k c)(hA:Lj c)(he:0≤e∧e≤3):Ep c e c.workers.length=0:=by
 have h1:=(hR.sf e he.1 he.2).1
 unfold Ln at h1
 rw [h1,(hA.ov e he.1 he.2).2]
 rfl
theorem G1 {α:Type} [Inhabited α] {l:List α}{k:Nat}(hk:k<l.length):l.take (k+1)=l.take k++[l.getD k default]:=by
 rw [List.take_succ_eq_append_getElem hk]
 simp [List.getD,hk]
theorem Nk {l:List A7}{k:Nat}(hk:k<l.length)(op e key:Int):H8 (l.take (k+1)) op e key=L7 op e key (H8 (l.take k) op e key) (l.getD k default):=by
 unfold H8
 rw [G1 hk,List.foldl_append]
 rfl
set_option maxHeartbeats 1000000 in
theorem U9 (l:List A7)(op e key:Int)(hl:l.length≤16000000):B0 Tryz.prog 173 [.one (Ai l),.one (vi op),.one (vi e),.one (vi key)] [.one (vi (H8 l op e key).1),.one (vb (H8 l op e key).2)]:=by
 refine Ay A0 false Tryz.func173 rfl Bu fun W=>?_
 conv=>whnf
 refine Bw A0 false [] (fun k:Nat=>[(12,.c (vi k)),(10,.c (vi (H8 (l.take k) op e key).1)),(11,.c (vb (H8 (l.take k) op e key).2))]) (fun k=>[]) (fun k=>[])
  (fun k=>k≤l.length) (fun k=>l.length-k) 0 (Nat.zero_le _) ⟨by first|rfl|simp [Dl,ren2,ren1,ren0],by first|rfl|simp [Dl,ren2,ren1,ren0],by first|rfl|simp [Dl,ren2,ren1,ren0],trivial⟩ trivial trivial D0 Aa (fun k hk=>?_)
 conv=>whnf
 refine G5 (fun h0=>?_) fun h0=>?_<;>conv=>whnf
 ·have h0:k<l.length:=by omega
  (repeat refine Ar ?_)
  repeat' (first|(refine Ms ?_;conv=>whnf)|(refine Mt ?_;conv=>whnf)|(refine ⟨fun h=>?_,fun h=>?_⟩<;>conv=>whnf)|(refine Kf ?_;conv=>whnf)|fail)
  all_goals
   refine B5 [] (k+1) Ac Ac ⟨rfl,congrArg (fun n=>AV.c (vi n)) (by rw [Nk h0];simp_all [L7]<;>rw [if_neg Ac]<;>assumption),congrArg (fun n=>AV.c (vb n)) (by rw [Nk h0];simp_all [L7]<;>rw [if_neg Ac]<;>assumption),trivial⟩ trivial trivial Aa D0 Aa
 ·refine Ao A0 rfl rfl ⟨?_,?_,trivial⟩
  ·rw [show l.take k=l from List.take_of_length_le Ac];rfl
  ·rw [show l.take k=l from List.take_of_length_le Ac];rfl
theorem Rx (a b:A7):B0 Tryz.prog 259 [.agg a.c,.agg b.c] [.one (vb (B2 a b))]:=by
 refine Ay A0 false Tryz.func259 rfl Bu fun W=>?_
 conv=>whnf
 repeat' (first|(refine Ms ?_;conv=>whnf)|(refine Mt ?_;conv=>whnf)|(refine ⟨fun h=>?_,fun h=>?_⟩<;>conv=>whnf)|(refine Ao A0 rfl rfl ⟨?_,trivial⟩;conv=>whnf)|(refine Kf ?_;conv=>whnf)|fail)
 all_goals (refine congrArg vb ?_;simp_all [B2]<;>rfl)
set_option maxHeartbeats 1000000 in
theorem A3q (l:List A7)(op e key:Int)(hl:l.length≤16000000):B0 Tryz.prog 256 [.one (Ai l),.one (vi op),.one (vi e),.one (vi key)] [.one (vi (H8 l op e key).1),.one (vb (H8 l op e key).2)]:=by
 refine Ay A0 false Tryz.func256 rfl Bu fun W=>?_
 conv=>whnf
 refine Bw A0 false [] (fun k:Nat=>[(16,.c (vi k)),(10,.c (vi (H8 (l.take k) op e key).1)),(11,.c (vb (H8 (l.take k) op e key).2))]) (fun k=>[]) (fun k=>[])
  (fun k=>k≤l.length) (fun k=>l.length-k) 0 (Nat.zero_le _) ⟨by first|rfl|simp [Dl,ren2,ren1,ren0],by first|rfl|simp [Dl,ren2,ren1,ren0],by first|rfl|simp [Dl,ren2,ren1,ren0],trivial⟩ trivial trivial D0 Aa (fun k hk=>?_)
 conv=>whnf
 refine G5 (fun h0=>?_) fun h0=>?_<;>conv=>whnf
 ·have h0:k<l.length:=by omega
  (repeat refine Ar ?_)
  refine Aw (Rx (l.getD k default) ⟨op,e,key,0⟩) rfl (Al ?_)
  repeat' (first|(refine Ms ?_;conv=>whnf)|(refine Mt ?_;conv=>whnf)|(refine ⟨fun h=>?_,fun h=>?_⟩<;>conv=>whnf)|(refine Kf ?_;conv=>whnf)|fail)
  all_goals
   refine B5 [] (k+1) Ac Ac ⟨rfl,congrArg (fun n=>AV.c (vi n)) (by rw [Nk h0];simp_all [L7,B2]<;>rw [if_neg Ac]<;>assumption),congrArg (fun n=>AV.c (vb n)) (by rw [Nk h0];simp_all [L7,B2]<;>rw [if_neg Ac]<;>assumption),trivial⟩ trivial trivial Aa D0 Aa
 ·refine Ao A0 rfl rfl ⟨?_,?_,trivial⟩
  ·rw [show l.take k=l from List.take_of_length_le Ac];rfl
  ·rw [show l.take k=l from List.take_of_length_le Ac];rfl
theorem B3n (xs:List A7)(hx:xs.length≤16777216)(f:Nat)(cs:List A8)(p:A7→Bool)(hf:∀x∈xs,B0 Tryz.prog f [.agg x.c,.ptr cs] [.one (vb (p x))]):
  B0 Tryz.prog 262 [.one (Ai xs),.fn f [.ptr cs]] [.one (vi (Kd p xs))]:=by
 refine Ay A0 false Tryz.func262 rfl Bu fun W=>?_
 conv=>whnf
 refine Bw A0 false [] (fun k:Nat=>[(8,.c (vi k))]) (fun k=>[]) (fun k=>[])
  (fun k=>k≤xs.length∧(xs.take k).any p=false) (fun k=>xs.length-k) 0 ⟨Nat.zero_le _,by first|rfl|assumption|simp⟩ ⟨by first|rfl|simp [Dl,ren2,ren1,ren0],trivial⟩ trivial trivial D0 Aa (fun k hk=>?_)
 obtain ⟨hk,he⟩:=hk
 conv=>whnf
 refine G5 (fun h=>?_) fun h=>?_<;>conv=>whnf
 ·have h:k<xs.length:=by omega
  (repeat refine Ar ?_)
  refine Aw (hf (xs.getD k default) (Aq h)) rfl (Al ?_)
  refine ⟨fun hc=>?_,fun hc=>?_⟩<;>conv=>whnf
  ·exact Ao A0 rfl rfl ⟨congrArg vi (Mj p xs k he h hc),trivial⟩
  ·(repeat refine Ar ?_)
   refine B5 [] (k+1) ⟨by omega,Gd he h hc⟩ Ac ⟨rfl,trivial⟩ trivial trivial Aa D0 Aa
 ·exact Ao A0 rfl rfl ⟨congrArg vi (I4 p xs (by rw [Fi xs k Ac] at he;exact he)),trivial⟩
def Iq (q:A7→Bool) (l:List A7) (j:Nat):Nat:=((l.take j).filter q).length
def L3 (q:A7→Bool) (l:List A7) (j:Nat):List A7:=(l.take j).filter q++l.drop (Iq q l j)
theorem B2n (q:A7→Bool)(l:List A7)(j:Nat):Iq q l j≤j:=Nat.le_trans (List.length_filter_le _ _) (List.length_take_le _ _)
theorem A77 (q:A7→Bool)(l:List A7)(j:Nat):Iq q l j≤l.length:=Nat.le_trans (List.length_filter_le _ _) (List.length_take_le' _ _)
theorem Vl {q:A7→Bool}{l:List A7}{j:Nat}(hj:j<l.length):Iq q l (j+1)=Iq q l j+if q (l.getD j default)=true then 1 else 0:=by
 unfold Iq
 rw [Ez q l j hj,List.length_append]
 split<;>rfl
theorem B2q {q:A7→Bool}{l:List A7}{j:Nat}:(L3 q l j).length=l.length:=by
 have:=A77 q l j
 rw [L3,List.length_append,List.length_drop]
 show Iq q l j+_=_
 omega
theorem B2p {q:A7→Bool}{l:List A7}{j i:Nat}(h:Iq q l j≤i):(L3 q l j).getD i default=l.getD i default:=by
 have e:((l.take j).filter q).length≤i:=h
 simp only [L3,List.getD,List.getElem?_append_right e,List.getElem?_drop]
 rw [show Iq q l j+(i-((l.take j).filter q).length)=i by show Iq q l j+(i-Iq q l j)=i;omega]
theorem A9x {q:A7→Bool}{l:List A7}{j:Nat}(hj:j<l.length)(hq:q (l.getD j default)=true):L3 q l (j+1)=(L3 q l j).set (Iq q l j) (l.getD j default):=by
 have h1:=B2n q l j
 have e:Iq q l (j+1)=Iq q l j+1:=by rw [Vl hj,if_pos hq]
 unfold L3
 rw [e,Ez q l j hj,if_pos hq,List.set_append_right _ _ (show ((l.take j).filter q).length≤Iq q l j from Nat.le_refl _),show Iq q l j-((l.take j).filter q).length=0 from Nat.sub_self _,List.append_assoc]
 congr 1
 rw [show l.drop (Iq q l j)=l.getD (Iq q l j) default::l.drop (Iq q l j+1) by rw [List.drop_eq_getElem_cons Ac];simp [List.getD,show Iq q l j<l.length by omega]]
 rfl
theorem Su {q:A7→Bool}{l:List A7}{j:Nat}(hj:j<l.length)(hq:q (l.getD j default)=false):L3 q l (j+1)=L3 q l j∧Iq q l (j+1)=Iq q l j:=by
 have e:Iq q l (j+1)=Iq q l j:=by rw [Vl hj,if_neg (by rw [hq];decide)];rfl
 refine ⟨?_,e⟩
 unfold L3
 rw [e,Ez q l j hj,if_neg (by rw [hq];decide),List.append_nil]
theorem Va {q:A7→Bool}{l:List A7}{k:Nat}(h:(l.take k).any (fun y=>!q y)=false):(l.take k).filter q=l.take k:=by
 rw [List.filter_eq_self]
 intro y hy
 have:=List.any_eq_false.1 h y hy
 simpa using this
theorem A56 {q:A7→Bool}{l:List A7}{k:Nat}(hk:k<l.length)(h:(l.take k).any (fun y=>!q y)=false)(hq:q (l.getD k default)=false):L3 q l (k+1)=l∧Iq q l (k+1)=k:=by
 have e:=Su hk hq
 have c:Iq q l k=k:=by rw [Iq,Va h,List.length_take];omega
 rw [e.1,e.2,c,L3,c,Va h,List.take_append_drop]
 exact ⟨rfl,rfl⟩
theorem B2o {q:A7→Bool}{l:List A7}{j:Nat}(h:l.length≤j):L3 q l j=l.filter q++l.drop (l.filter q).length∧Iq q l j=(l.filter q).length:=by
 rw [L3,Iq,List.take_of_length_le h]
 exact ⟨rfl,rfl⟩
theorem B28 (p:A7→Bool)(l:List A7)(h:l.any p=true):∃k,k<l.length∧(l.take k).any p=false∧p (l.getD k default)=true:=by
 induction l with
 |nil=>simp at h
 |cons y r ih=>
  by_cases hy:p y=true
  ·exact ⟨0,by simp,by simp,hy⟩
  ·have hy:p y=false:=by simpa using hy
   rw [List.any_cons,hy,Bool.false_or] at h
   obtain ⟨k,h1,h2,h3⟩:=ih h
   exact ⟨k+1,by simpa using h1,by rw [List.take_succ_cons,List.any_cons,hy,h2];rfl,h3⟩
theorem A3c (p:A7→Bool)(l:List A7):(Kd p l= -1∧l.any p=false)∨∃k,k<l.length∧Kd p l=(k:Int)∧(l.take k).any p=false∧p (l.getD k default)=true:=by
 cases h:l.any p with
 |false=>exact .inl ⟨I4 p l h,rfl⟩
 |true=>
  right
  have ex:=B28 p l h
  obtain ⟨k,h1,h2,h3⟩:=ex
  exact ⟨k,h1,Mj p l k h2 h1 h3,h2,h3⟩
theorem B0b {q:A7→Bool}{l:List A7}{k:Nat}(hk:k<l.length)(hq:q (l.getD k default)=false):(l.filter q).length<l.length:=by
 exact List.length_filter_lt_length_iff_exists.2 ⟨_,Aq (d:=default) hk,by rw [hq];decide⟩
theorem B7z (l:List A7):(G9 A7.c l).length=l.length * 4:=A2d (es:=4) (fun _=>rfl) l
set_option maxHeartbeats 4000000 in
theorem Oq (l:List A7)(f:Nat)(cs:List A8)(p:A7→Bool)(hl:l.length≤16777216)(hf:∀y:A7,B0 Tryz.prog f [.agg y.c,.ptr cs] [.one (vb (p y))]):
  M0 Tryz.prog (fun _=>True) 257 [] [.one (Ai l)] [.fn f [.ptr cs]] (fun _:Unit=>True) (fun _=>[.one (Ai (l.filter fun y=>!p y))]):=by
 refine A0v A0 false Tryz.func257 rfl Bu fun B hH hp=>?_
 conv=>whnf
 refine Aw (B3n l hl f cs p (fun y _=>hf y)) rfl (Al ?_)
 rcases A3c p l with ⟨hi,ha⟩|⟨k0,hk0,hi,ha,hp0⟩
 ·rw [hi]
  repeat refine Bi ?_
  rw [show l.filter (fun y=>!p y)=l by rw [List.filter_eq_self];intro y hy;have:=List.any_eq_false.1 ha y hy;simpa using this]
  exact A4w A0 () trivial rfl rfl Ca
 ·rw [hi]
  have hpn:(fun y=>!(fun y=>!p y) y)=p:=by funext y;simp
  obtain ⟨c1,c2⟩:=A56 (q:=fun y=>!p y) hk0 (by rw [hpn];exact ha) (by show (!p (l.getD k0 default))=false;rw [hp0];rfl)
  refine O3 B16 ?_
  conv=>whnf
  (repeat refine Ar ?_)
  refine Bw A0 false [] (fun j:Nat×Nat×List A7=>[(6,.c (vi j.1)),(5,.c (vi j.2.1))]) (fun j=>[]) (fun j=>[⟨0,Ai j.2.2⟩]) (fun j=>j.1≤l.length∧k0<j.1∧j.2.1=Iq (fun y=>!p y) l j.1∧j.2.2=L3 (fun y=>!p y) l j.1) (fun j=>l.length-j.1) ((k0+1,k0,l)) (⟨hk0,Nat.lt_succ_self _,c2.symm,c1.symm⟩) ⟨by first|rfl|simp [Dl,ren2,ren1,ren0],by first|rfl|simp [Dl,ren2,ren1,ren0],trivial⟩ trivial ⟨by first|rfl|exact (congrArg (fun l=>Du _ _ l) (List.append_nil _)).symm|(show (_:A8)=_;simp)|simp,trivial⟩ D0 Aa (fun j hj=>?_)
  conv=>whnf
  obtain ⟨hj1,hjk,hj2,hj3⟩:=hj
  have hxl:j.2.2.length=l.length:=by rw [hj3];exact B2q
  have hcj:=B2n (fun y=>!p y) l j.1
  have hcl:=A77 (fun y=>!p y) l j.1
  refine G5 (fun h=>?_) fun h=>?_<;>conv=>whnf
  ·have h:j.1<l.length:=by omega
   have hg:j.2.2.getD j.1 default=l.getD j.1 default:=by rw [hj3];exact B2p hcj
   (repeat refine Ar ?_)
   refine Aw (hf (j.2.2.getD j.1 default)) rfl (Al ?_)
   refine ⟨fun hc=>?_,fun hc=>?_⟩<;>conv=>whnf
   ·have hc:(fun y=>!p y) (l.getD j.1 default)=true:=by rw [←hg];exact hc
    (repeat refine Ar ?_)
    refine D7 (j:=(j.2.1:Int)) A0 rfl rfl rfl rfl rfl rfl rfl rfl (Ai (j.2.2.set j.2.1 (j.2.2.getD j.1 default))) (E4 (by rw [Int.toNat_natCast];omega) rfl) (Al ?_)
    (repeat refine Ar ?_)
    refine B5 [] ((j.1+1,j.2.1+1,j.2.2.set j.2.1 (j.2.2.getD j.1 default))) (⟨h,by show k0<j.1+1;omega,by show j.2.1+1=_;rw [Vl h,if_pos hc,hj2],by show j.2.2.set j.2.1 _=_;rw [A9x h hc,hg,hj2,hj3]⟩) (by show l.length-(j.1+1)<_;omega) ⟨rfl,rfl,trivial⟩ ⟨rfl,trivial⟩ trivial Aa D0 Aa
   ·have hc:(fun y=>!p y) (l.getD j.1 default)=false:=by rw [←hg];exact hc
    (repeat refine Ar ?_)
    refine B5 [] ((j.1+1,j.2.1,j.2.2)) (⟨h,by show k0<j.1+1;omega,by show j.2.1=_;rw [(Su h hc).2,hj2],by show j.2.2=_;rw [(Su h hc).1,hj3]⟩) (by show l.length-(j.1+1)<_;omega) ⟨rfl,rfl,trivial⟩ ⟨rfl,trivial⟩ trivial Aa D0 Aa
  ·have h:l.length≤j.1:=by omega
   obtain ⟨e1,e2⟩:=B2o (q:=fun y=>!p y) h
   have hlt:=B0b (q:=fun y=>!p y) hk0 (by show (!p (l.getD k0 default))=false;rw [hp0];rfl)
   rw [e1] at hj3
   rw [e2] at hj2
   rw [hj3] at hxl
   rw [hj2,hj3]
   generalize hf':l.filter (fun y=>!p y)=F at *
   generalize hD:l.drop F.length=D at *
   have hxl2:F.length+D.length=l.length:=by rw [←hxl,List.length_append]
   refine Uq 0 4 A7.c (F++D) rfl (by rw [hxl];omega) (Iz _ _) (fun b off cap pre C7 p1 p2 p3 p4=>?_)
   rw [hxl] at p2 p4
   refine Lb 0 0 rfl rfl ?_
   refine Lb 36 0 rfl rfl ?_
   refine Hr A0 rfl rfl rfl rfl rfl rfl (l:=(F.length:Int)) (h:=((F++D).length:Int)) rfl rfl ⟨by omega,by rw [hxl];omega,by rw [hxl];omega,fun _=>by rw [hxl];omega,by omega⟩ (off * 4+F.length * 4) D.length (cap-F.length) Bj (by rw [hxl];omega) Bj (L6 A0 false ?_)
   conv=>whnf
   refine A53 (kb:=1) A0 rfl rfl rfl rfl rfl rfl rfl rfl Ac (pre++G9 A7.c F) (G9 A7.c D) C7 (by show pre++G9 A7.c (F++D)++C7=_;rw [Gw];simp only [List.append_assoc]) (by rw [List.length_append,B7z,p1]) (B7z D) (L6 A0 false ?_)
   conv=>whnf
   refine Hr A0 rfl rfl rfl rfl rfl rfl (l:=0) (h:=(F.length:Int)) rfl rfl ⟨by omega,by omega,by omega,(fun h=>by cases h),by omega⟩ (off * 4) F.length cap Bj Bj Bj (L6 A0 false ?_)
   conv=>whnf
   refine A4d Tryz.prog 4 1 off 4 A7.c F pre (List.replicate (D.length * 4) .any++C7) rfl (by simp only [List.append_assoc]) (by exact p1) (fun _=>rfl) (Iz _ _) (by exact p3) (by exact ⟨by omega,by rw [List.length_append,List.length_replicate];omega⟩) rfl rfl rfl rfl ?_
   exact A4w A0 () trivial rfl rfl Ca
end Go.Proofs.YtonodkjaoalfjaaGreat
