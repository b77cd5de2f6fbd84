/- Part 34 of the proof that each of the laws FnConsole returns true for every input. No conditions. -/
import Derived.Test.YtmhcebdkjgkmlaaGreatDoorQ33

set_option linter.unusedSimpArgs false
set_option linter.unusedVariables false
set_option maxRecDepth 100000
namespace Go.Proofs.YtmhcebdkjgkmlaaGreatDoor
open Go.Sx
def D9 (x:A3) (w:Int):ByteArray:=
 if E4 w 0 (x.aq.length-1) then
  (if D6 (G9 (x.aq.getD w.toNat default).an)=(⟨#[]⟩:ByteArray) then
   I9 (x.aq.getD w.toNat default).ar.length++(⟨#[32]⟩:ByteArray)++I9 (x.aq.getD w.toNat default).aa.length++(⟨#[32]⟩:ByteArray)++I9 (x.aq.getD w.toNat default).au.length
  else I9 (x.aq.getD w.toNat default).ar.length++(⟨#[32]⟩:ByteArray)++I9 (x.aq.getD w.toNat default).aa.length++(⟨#[32]⟩:ByteArray)++I9 (x.aq.getD w.toNat default).au.length++(⟨#[32]⟩:ByteArray)++D6 (G9 (x.aq.getD w.toNat default).an))
 else (⟨#[]⟩:ByteArray)
theorem A85 (x:A3)(w:Int)(hx:x.w≤1040000)(ox:x.ok):Di 107 [.agg x.c,.one (vi w)] [.one (vs (D9 x w))]:=by
 have hl:=A3.workers_le hx;refine E7 Tryz.func107 fun W=>?_;refine B4 ?_;refine Fp (Hg w 0 (x.aq.length-1)) ?_
 by_cases h1:E4 w 0 (x.aq.length-1)=true
 ·have h2:=Go.Sx.Cl.1 h1
  have hk:w.toNat<x.aq.length:=by omega
  have hw:=Go.Sx.A3.worker_le hx hk;have hy:(x.aq.getD w.toNat default).w≤1040000:=by omega
  have oy:=ox.2.1.2 _ (Al (d:=default) hk);have h3:=A89 (x.aq.getD w.toNat default);have d1:Gv .i64 ((x.aq.getD w.toNat default).ar.length:Int):=by show _∧_;omega
  have d2:Gv .i64 ((x.aq.getD w.toNat default).aa.length:Int):=by show _∧_;omega
  have d3:Gv .i64 ((x.aq.getD w.toNat default).au.length:Int):=by show _∧_;omega
  have e1:=B8 d1;have e2:=B8 d2;have e3:=B8 d3;have e4:=Zd _ oy hy;rw [h1];refine Vy B8l ?_;conv=>whnf
  repeat' (first|(refine Ho ?_;conv=>whnf)|(refine Hp ?_;conv=>whnf)|(refine ⟨fun h=>?_,fun h=>?_⟩<;>conv=>whnf)|(refine Aq (Cq _ d1) rfl (Ah ?_))|(refine Aq (Cq _ d2) rfl (Ah ?_))|(refine Aq (Cq _ d3) rfl (Ah ?_))|(refine Aq (B0m _ oy hy) rfl (Ah ?_))|(refine Cp ?_;conv=>whnf)|(refine Aj 4 rfl [0,1,2,5,6,7,11,12,13,3,4,8,9,10,14,15,16] Am (Ah ?_))|fail)
  ·have hn:¬ D6 (G9 (x.aq.getD w.toNat default).an)=(⟨#[]⟩:ByteArray):=fun e=>by rw [e] at h;exact absurd h Bq
   exact An A0 rfl rfl ⟨A6 vs (by rw [D9,Ak h1,Ab hn]),trivial⟩
  have hn:D6 (G9 (x.aq.getD w.toNat default).an)=(⟨#[]⟩:ByteArray):=by
   have h':(D6 (G9 (x.aq.getD w.toNat default).an)==(⟨#[]⟩:ByteArray))=true:=by simpa using h
   exact Kl h'
  exact An A0 rfl rfl ⟨A6 vs (by rw [D9,Ak h1,Ak hn]),trivial⟩
 have h3:E4 w 0 (x.aq.length-1)=false:=by simpa using h1
 rw [h3];refine Yc B49 ?_;conv=>whnf
 exact An A0 rfl rfl ⟨A6 vs (by rw [D9,Ab h1]),trivial⟩
theorem A7m (x:A3)(w:Int)(hx:x.w≤1040000)(ox:x.ok):E3 Tryz.prog X8 109 [.agg x.c,.one (vi w)] [.one (vs (D9 x w))]:=by
 have hl:=A3.workers_le hx;refine He A0 false Tryz.func109 rfl Bq fun W hW=>?_;conv=>whnf
 refine B4 ?_;refine Fp (Hm w 0 (x.aq.length-1)) ?_
 by_cases h1:E4 w 0 (x.aq.length-1)=true
 ·have h2:=Go.Sx.Cl.1 h1
  have hk:w.toNat<x.aq.length:=by omega
  have hw:=Go.Sx.A3.worker_le hx hk;have hy:(x.aq.getD w.toNat default).w≤1040000:=by omega
  have oy:=ox.2.1.2 _ (Al (d:=default) hk);have h3:=A89 (x.aq.getD w.toNat default);have d1:Gv .i64 ((x.aq.getD w.toNat default).ar.length:Int):=by show _∧_;omega
  have d2:Gv .i64 ((x.aq.getD w.toNat default).aa.length:Int):=by show _∧_;omega
  have d3:Gv .i64 ((x.aq.getD w.toNat default).au.length:Int):=by show _∧_;omega
  have e1:=B8 d1;have e2:=B8 d2;have e3:=B8 d3;have e4:=Zd _ oy hy;rw [h1];refine Vy B8l ?_;conv=>whnf
  repeat' (first|(refine Ho ?_;conv=>whnf)|(refine Hp ?_;conv=>whnf)|(refine ⟨fun h=>?_,fun h=>?_⟩<;>conv=>whnf)|(refine Dj (Dq _ d1) B5 hW rfl (Ah ?_))|(refine Dj (Dq _ d2) B5 hW rfl (Ah ?_))|(refine Dj (Dq _ d3) B5 hW rfl (Ah ?_))|(refine Dj (A93 _ oy hy) B5 hW rfl (Ah ?_))|(refine Cp ?_;conv=>whnf)|(refine Aj 4 rfl [0,1,2,5,6,7,11,12,13,3,4,8,9,10,14,15,16] Am (Ah ?_))|fail)
  ·have hn:¬ D6 (G9 (x.aq.getD w.toNat default).an)=(⟨#[]⟩:ByteArray):=fun e=>by rw [e] at h;exact absurd h Bq
   exact An A0 rfl rfl ⟨A6 vs (by rw [D9,Ak h1,Ab hn];simp only [A9u]),trivial⟩
  have hn:D6 (G9 (x.aq.getD w.toNat default).an)=(⟨#[]⟩:ByteArray):=by
   have h':(D6 (G9 (x.aq.getD w.toNat default).an)==(⟨#[]⟩:ByteArray))=true:=by simpa using h
   exact Kl h'
  exact An A0 rfl rfl ⟨A6 vs (by rw [D9,Ak h1,Ak hn]),trivial⟩
 have h3:E4 w 0 (x.aq.length-1)=false:=by simpa using h1
 rw [h3];refine Yc B49 ?_;conv=>whnf
 exact An A0 rfl rfl ⟨A6 vs (by rw [D9,Ab h1]),trivial⟩
def Hu (t:Gg):ByteArray:=
 if t.bz then
  (if t.ao then I9 t.aj++(⟨#[32]⟩:ByteArray)++I9 t.sum++(if t.ah then (⟨#[32,98,108,97,99,107]⟩:ByteArray) else (⟨#[32,119,104,105,116,101]⟩:ByteArray))++(⟨#[32,99,97,112,112,101,100]⟩:ByteArray) else I9 t.aj++(⟨#[32]⟩:ByteArray)++I9 t.sum++(if t.ah then (⟨#[32,98,108,97,99,107]⟩:ByteArray) else (⟨#[32,119,104,105,116,101]⟩:ByteArray)))
 else (⟨#[114,101,115,116]⟩:ByteArray)
theorem B0q (t:Gg)(o:t.ok):Di 108 [.agg t.c] [.one (vs (Hu t))]:=by
 obtain ⟨g,a,s,b,c⟩:=t;have o1:Gv .i64 a:=by simp [Gg.ok] at o;exact o.1
 have o2:Gv .i64 s:=by simp [Gg.ok] at o;exact o.2
 have d1:=B8 o1;have d2:=B8 o2;refine E7 Tryz.func108 fun W=>?_
 repeat' (first|(refine Ho ?_;conv=>whnf)|(refine Hp ?_;conv=>whnf)|(refine ⟨fun h=>?_,fun h=>?_⟩<;>conv=>whnf)|(refine Aq (Cq _ o1) rfl (Ah ?_))|(refine Aq (Cq _ o2) rfl (Ah ?_))|(refine Cp ?_;conv=>whnf)|(refine Aj 3 rfl [0,1,4,5,2,3,6,7,8] Am (Ah ?_))|fail)
 all_goals (refine An A0 rfl rfl ⟨A6 vs ?_,trivial⟩;simp_all [Hu])
theorem B0b (t:Gg)(o:t.ok):E3 Tryz.prog X8 110 [.agg t.c] [.one (vs (Hu t))]:=by
 obtain ⟨g,a,s,b,c⟩:=t;have o1:Gv .i64 a:=by simp [Gg.ok] at o;exact o.1
 have o2:Gv .i64 s:=by simp [Gg.ok] at o;exact o.2
 have d1:=B8 o1;have d2:=B8 o2;refine He A0 false Tryz.func110 rfl Bq fun W hW=>?_;conv=>whnf
 repeat' (first|(refine Ho ?_;conv=>whnf)|(refine Hp ?_;conv=>whnf)|(refine ⟨fun h=>?_,fun h=>?_⟩<;>conv=>whnf)|(refine Dj (Dq _ o1) B5 hW rfl (Ah ?_))|(refine Dj (Dq _ o2) B5 hW rfl (Ah ?_))|(refine Cp ?_;conv=>whnf)|(refine Aj 3 rfl [0,1,4,5,2,3,6,7,8] Am (Ah ?_))|fail)
 all_goals (refine An A0 rfl rfl ⟨A6 vs ?_,trivial⟩;simp_all [Hu])
def N3 (x:A3):List ByteArray:=((List.range x.aq.length).map fun (w:Nat)=>D9 x w)++x.ap.map Hu++Oy x
theorem Ot {x:A3}{n:Nat}(h:x.w≤n):(N3 x).length≤n:=by
 have h1:=A1s x 4;have h2:=A5n x.aq;rw [←A0v] at h2;simp only [A3.w,wS] at h;simp only [N3,D3,Jd,Rx];have e:(Oy x).length=(A1r x 4).length:=rfl;omega
theorem A8e {β:Type}(f:Nat→β)(k:Nat):(List.range (k+1)).map f=(List.range k).map f++[f k]:=by
 rw [Yy,Qu];rfl
set_option maxHeartbeats 1000000 in
theorem T6 (x:A3)(ox:x.ok)(hx:x.w≤1040000):Di 52 [.agg x.c] [.one (C6 (N3 x))]:=by
 have hl:=A3.workers_le hx;have ht:=A3.tokens_le hx;have hcl:=Ot hx;simp only [N3,D3,Jd,Rx] at hcl;refine E7 Tryz.func52 fun W=>?_;refine Eu 1 (C6 []) rfl C0 ?_;refine Fx [6] (fun k:Nat=>[(4,.c (vi k))]) (fun k=>[⟨0,[.c (At x.az.ak),.c (vi x.az.aq),.c (vi x.az.cap),.c (Af x.aq),.c (Ba x.ay),.c (Aw x.ap),.c (Bf x.ac)]⟩]) (fun k=>[⟨1,C6 ((List.range k).map fun (w:Nat)=>D9 x w)⟩]) (fun k=>k≤x.aq.length) (fun k=>x.aq.length-k) fun k hk=>?_;conv=>whnf
 refine Dv (fun h=>?_) fun h=>?_
 ·have h:k<x.aq.length:=by omega
  refine B4 ?_;refine Fp (A85 x k hx ox) ?_;refine B6 A0 rfl (C6 (((List.range k).map fun (w:Nat)=>D9 x w)++[D9 x k])) (Ao rfl) Hd (by (simp only [Jd,Rx];omega)) (Em ?_);refine Cc [(1,3)] (k+1) A7 A7 ⟨rfl,trivial⟩ ⟨A6 C6 (A8e (fun (w:Nat)=>D9 x w) k).symm,trivial⟩
 have e1:k=x.aq.length:=by omega
 refine B4 ?_;refine Fx [] (fun j:Nat=>[(5,.c (vi j))]) (fun j=>[⟨0,[.c (At x.az.ak),.c (vi x.az.aq),.c (vi x.az.cap),.c (Af x.aq),.c (Ba x.ay),.c (Aw x.ap),.c (Bf x.ac)]⟩]) (fun j=>[⟨1,C6 (((List.range k).map fun (w:Nat)=>D9 x w)++(x.ap.take j).map Hu)⟩]) (fun j=>j≤x.ap.length) (fun j=>x.ap.length-j) fun j hj=>?_;conv=>whnf
 refine Dv (fun h2=>?_) fun h2=>?_
 ·have h2:j<x.ap.length:=by omega
  refine B4 ?_;refine Aq (B0q (x.ap.getD j default) (ox.2.2.2.1.2 _ (Al (d:=default) h2))) rfl (Ah ?_);refine B6 A0 rfl (C6 (((List.range k).map fun (w:Nat)=>D9 x w)++(x.ap.take j).map Hu++[Hu (x.ap.getD j default)])) (Ao rfl) Hd C9b (Em ?_);refine Cc [(1,3)] (j+1) A7 A7 ⟨rfl,trivial⟩ ⟨A6 C6 (by rw [W4 _ h2,←Cr]),trivial⟩
 have e2:j=x.ap.length:=by omega
 refine B4 ?_;refine Gf (A17 x ox A7) ?_;refine B6 A0 rfl (C6 (((List.range k).map fun (w:Nat)=>D9 x w)++(x.ap.take j).map Hu++Oy x)) (Oj 1 _ _ _) (fun _=>Q0 _) C9b (Ah ?_);refine An A0 rfl rfl ⟨?_,trivial⟩;exact A6 C6 (by rw [e1,e2,H4];rfl)
set_option maxHeartbeats 1000000 in
theorem Sy (x:A3)(ox:x.ok)(hx:x.w≤1040000):E3 Tryz.prog X8 53 [.agg x.c] [.one (C6 (N3 x))]:=by
 have hl:=A3.workers_le hx;have ht:=A3.tokens_le hx;have hcl:=Ot hx;simp only [N3,D3,Jd,Rx] at hcl;refine He A0 false Tryz.func53 rfl Bq fun W hW=>?_;conv=>whnf
 refine U5 3 1 (fun i=>[vs (([]:List ByteArray).getD i default)]) rfl ?_;refine Fx [4] (fun k:Nat=>[(10,.c (vi k))]) (fun k=>[⟨0,[.c (At x.az.ak),.c (vi x.az.aq),.c (vi x.az.cap),.c (Af x.aq),.c (Ba x.ay),.c (Aw x.ap),.c (Bf x.ac)]⟩]) (fun k=>[⟨1,C6 ((List.range k).map fun (w:Nat)=>D9 x w)⟩]) (fun k=>k≤x.aq.length) (fun k=>x.aq.length-k) fun k hk=>?_;conv=>whnf
 refine Dv (fun h=>?_) fun h=>?_
 ·have h:k<x.aq.length:=by omega
  refine B4 ?_;refine Dj (A7m x k hx ox) B5 hW rfl (Ah ?_);conv=>whnf
  refine B6 A0 rfl (C6 (((List.range k).map fun (w:Nat)=>D9 x w)++[D9 x k])) (Ao rfl) Hd (by (simp only [Jd,Rx];omega)) (Em ?_);refine Cc [(1,3)] (k+1) A7 A7 ⟨rfl,trivial⟩ ⟨A6 C6 (A8e (fun (w:Nat)=>D9 x w) k).symm,trivial⟩
 have e1:k=x.aq.length:=by omega
 refine B4 ?_;refine Fx [] (fun j:Nat=>[(23,.c (vi j))]) (fun j=>[⟨0,[.c (At x.az.ak),.c (vi x.az.aq),.c (vi x.az.cap),.c (Af x.aq),.c (Ba x.ay),.c (Aw x.ap),.c (Bf x.ac)]⟩]) (fun j=>[⟨1,C6 (((List.range k).map fun (w:Nat)=>D9 x w)++(x.ap.take j).map Hu)⟩]) (fun j=>j≤x.ap.length) (fun j=>x.ap.length-j) fun j hj=>?_;conv=>whnf
 refine Dv (fun h2=>?_) fun h2=>?_
 ·have h2:j<x.ap.length:=by omega
  refine B4 ?_;refine Dj (B0b (x.ap.getD j default) (ox.2.2.2.1.2 _ (Al (d:=default) h2))) B5 hW rfl (Ah ?_);conv=>whnf
  refine B6 A0 rfl (C6 (((List.range k).map fun (w:Nat)=>D9 x w)++(x.ap.take j).map Hu++[Hu (x.ap.getD j default)])) (Ao rfl) Hd C9b (Em ?_);refine Cc [(1,4)] (j+1) A7 A7 ⟨rfl,trivial⟩ ⟨A6 C6 (by rw [W4 _ h2,←Cr]),trivial⟩
 have e2:j=x.ap.length:=by omega
 refine B4 ?_;refine A2m (A1d x ox A7) B5 hW rfl (Ah ?_);refine B6 A0 rfl (C6 (((List.range k).map fun (w:Nat)=>D9 x w)++(x.ap.take j).map Hu++Oy x)) (Oj 1 _ _ _) (fun _=>Q0 _) C9b (Ah ?_);refine An A0 rfl rfl ⟨?_,trivial⟩;exact A6 C6 (by rw [e1,e2,H4];rfl)
def Ni (x:ByteArray):List ByteArray×Int:=if (Bu x).2.2.1=true then (Oy (Eb (Cs 3000 0 3000).toNat (Bu x).1).1,0) else ([],(Bu x).2.2.2)
theorem Wi {x:ByteArray}(h:(Bu x).2.2.1=true):Ni x=(Oy (Eb (Cs 3000 0 3000).toNat (Bu x).1).1,0):=Ak h
theorem Zp {x:ByteArray}(h:¬ (Bu x).2.2.1=true):Ni x=([],(Bu x).2.2.2):=Ab h
theorem A5k (x:ByteArray):(Eb (Cs 3000 0 3000).toNat (Bu x).1).1.w≤1100000:=by
 have h:=(Jp x).1;have hb:=G2 3000 0 3000 Bq
 have:=B1f (Cs 3000 0 3000).toNat (Bu x).1
 omega
theorem B5u {x:ByteArray}(h:(Bu x).2.2.1=true):(Eb (Cs 3000 0 3000).toNat (Bu x).1).1.ok:=by
 have:=A5k x
 exact C7o (B5v _ (B7k h)) A7
theorem B7g (x:ByteArray):(Ni x).1.length≤1100000:=by
 by_cases h:(Bu x).2.2.1=true
 ·rw [Wi h]
  have hw:=A5k x;generalize (Eb (Cs 3000 0 3000).toNat (Bu x).1).1=y at hw ⊢;exact Fk (A1s y 4) (Mg hw)
 rw [Zp h];exact Fe _
theorem A82 (t:ByteArray)(hx:t.size≤1048576):Di 13 [.one (vs t)] [.one (C6 (Ni t).1),.one (vi (Ni t).2)]:=by
 have hL:=Zw t hx;have hw:=(Jp t).1;have ho:=Uf t;have hy:= @Wi t;have hn:= @Zp t;have hF:=fun h=> @B5u t h
 have hFw:=A5k t;have hR:=A4v (Bu t).1 3000 A7 ho.1.2.1;generalize Ni t=z at hy hn ⊢;generalize Eb (Cs 3000 0 3000).toNat (Bu t).1=y at hy hF hFw hR;generalize Bu t=r at hL hw ho hy hn hF hR;obtain ⟨x,told,ok,n⟩:=r;obtain ⟨y,m⟩:=y
 dsimp only at hL hw ho hy hn hF hFw hR
 refine E7 Tryz.func13 fun W=>?_;refine Fp (hL) ?_;refine C1 (fun hk=>?_) fun hk=>?_
 ·have hk:ok=false:=by simpa using hk
  rw [hn (by rw [hk];decide)];refine Oq 1 (C6 []) rfl C0 ?_;exact D4
 have hk:ok=true:=by simpa using hk
 rw [hy hk];refine Fp (hR) ?_;refine Gf (A17 y (hF hk) hFw) ?_;exact D4
theorem Vw (t:ByteArray)(hx:t.size≤1048576):E3 Tryz.prog X8 14 [.one (vs t)] [.one (C6 (Ni t).1),.one (vi (Ni t).2)]:=by
 have hL:=U1 t hx;have hw:=(Jp t).1;have ho:=Uf t;have hy:= @Wi t;have hn:= @Zp t;have hF:=fun h=> @B5u t h
 have hFw:=A5k t;have hR:=A32 (Bu t).1 3000 A7 (B7j t);generalize Ni t=z at hy hn ⊢;generalize Eb (Cs 3000 0 3000).toNat (Bu t).1=y at hy hF hFw hR;generalize Bu t=r at hL hw ho hy hn hF hR;obtain ⟨x,told,ok,n⟩:=r;obtain ⟨y,m⟩:=y
 dsimp only at hL hw ho hy hn hF hFw hR
 refine He A0 false Tryz.func14 rfl Bq fun W hW=>?_;conv=>whnf
 refine Dj (hL) B5 hW rfl (Ah ?_);refine C1 (fun hk=>?_) fun hk=>?_
 ·have hk:ok=false:=by simpa using hk
  rw [hn (by rw [hk];decide)];exact D4
 have hk:ok=true:=by simpa using hk
 rw [hy hk];refine Fp (hR) ?_;refine A2m (A1d y (hF hk) hFw) B5 hW rfl (Ah ?_);exact D4
def A7u (b:Bool):UInt8:=if b then 43 else 46
def Kb (l:List Bool):List UInt8:=l.map A7u
theorem A7v {l:List Bool}{k:Nat}(h:k<l.length):Kb (l.take (k+1))=Kb (l.take k)++[A7u (l.getD k default)]:=W4 A7u h
def A1z (x:ByteArray):List ByteArray×Int:=if (Bu x).2.2.1=true then ((if (Bu x).2.1.length=0 then [] else [⟨(Kb (Bu x).2.1).toArray⟩])++N3 (Bu x).1,0) else ([],(Bu x).2.2.2)
theorem C4i (x:ByteArray):(A1z x).1.length≤600000:=by
 have h:=Ot (Jp x).1;unfold A1z
 split
 ·rw [D3]
  split<;>simp only [Fb,H3]<;>omega
 exact Fe _
theorem Xj (l:List Bool)(k:Nat)(h:k≤l.length):(Kb (l.take k)).length=k:=by
 rw [Kb,Jd,F9];omega
theorem A4f (l:List UInt8)(b:UInt8):(⟨l.toArray⟩:ByteArray)++⟨#[b]⟩=⟨(l++[b]).toArray⟩:=by
 apply Tg
 simp [Wz]
theorem B9s {l:List Bool}(h:(⟨(Kb l).toArray⟩:ByteArray)=⟨#[]⟩):l.length=0:=by
 have:=A6 ByteArray.size h
 have e:(⟨(Kb l).toArray⟩:ByteArray).size=l.length:=by simp [ByteArray.size,Kb]
 rw [e] at this;exact this
theorem B7z (t:ByteArray)(hx:t.size≤1048576):Di 18 [.one (vs t)] [.one (C6 (A1z t).1),.one (vi (A1z t).2)]:=by
 have hL:=Zw t hx;have hw:=Jp t;have ho:=Uf t;unfold A1z;generalize Bu t=r at hL hw ho ⊢;obtain ⟨x,told,ok,n⟩:=r
 dsimp only at hL hw ho ⊢
 have hcl:=Ot hw.1;refine E7 Tryz.func18 fun W=>?_;refine Fp (hL) ?_;refine C1 (fun hk=>?_) fun hk=>?_
 ·have hk:ok=false:=by simpa using hk
  rw [Ab (by rw [hk];decide)];refine Oq 1 (C6 []) rfl C0 ?_;exact D4
 have hk:ok=true:=by simpa using hk
 rw [Ak hk];refine Eu 1 (C6 []) rfl C0 ?_;refine Eu 2 (Kf []) rfl C0 ?_;refine Fx [23] (fun k:Nat=>[(10,.c (vi k))]) (fun k=>[⟨0,[.c (At x.az.ak),.c (vi x.az.aq),.c (vi x.az.cap),.c (Af x.aq),.c (Ba x.ay),.c (Aw x.ap),.c (Bf x.ac)]⟩]) (fun k=>[⟨1,C6 []⟩,⟨2,Kf (Kb (told.take k))⟩]) (fun k=>k≤told.length) (fun k=>told.length-k) fun k hk=>?_;refine Dv (fun h'=>?_) fun h'=>?_
 ·have h':k<told.length:=by omega
  have hs:=A7v h';have hl:=Xj told k A7;refine B4 ?_;refine C1 (fun hc=>?_) fun hc=>?_
  ·rw [Bv] at hc
   refine B4 ?_;refine B6 A0 rfl (Kf (Kb (told.take k)++[43])) (Ao rfl) Hd A7 (Em ?_);refine Cc [(2,4)] (k+1) A7 A7 ⟨rfl,trivial⟩ ⟨rfl,A6 Kf (by rw [hs,A7u,Ak hc]),trivial⟩
  rw [Bv] at hc;refine B4 ?_;refine B6 A0 rfl (Kf (Kb (told.take k)++[46])) (Ao rfl) Hd A7 (Em ?_);refine Cc [(2,4)] (k+1) A7 A7 ⟨rfl,trivial⟩ ⟨rfl,A6 Kf (by rw [hs,A7u,Ab (by rw [hc];decide)]),trivial⟩
 have e:k=told.length:=by omega
 have hl:=Xj told k hk;refine Dv (fun hz=>?_) fun hz=>?_
 ·refine C8q A0 rfl (Kb (told.take k)) rfl (Ah ?_)
  refine B6 A0 rfl (C6 ([]++[⟨(Kb (told.take k)).toArray⟩])) (Ao rfl) Hd Bq (Em ?_);refine Gf (T6 x ho A7) ?_;refine B6 A0 rfl (C6 ([⟨(Kb (told.take k)).toArray⟩]++N3 x)) (Oj 1 _ _ _) (fun _=>Q0 _) (by (show 1+_≤_;omega)) (Ah ?_)
  refine An A0 rfl rfl ⟨?_,rfl,trivial⟩;exact A6 C6 (by rw [Ab A7,e,H4])
 refine Gf (T6 x ho A7) ?_;refine B6 A0 rfl (C6 ([]++N3 x)) (Oj 1 _ _ _) (fun _=>Q0 _) (by (show 0+_≤_;omega)) (Ah ?_)
 refine An A0 rfl rfl ⟨?_,rfl,trivial⟩;exact A6 C6 (by rw [Ak A7])
theorem B3o (t:ByteArray)(hx:t.size≤1048576):E3 Tryz.prog X8 19 [.one (vs t)] [.one (C6 (A1z t).1),.one (vi (A1z t).2)]:=by
 have hL:=U1 t hx;have hw:=Jp t;have ho:=Uf t;unfold A1z;generalize Bu t=r at hL hw ho ⊢;obtain ⟨x,told,ok,n⟩:=r
 dsimp only at hL hw ho ⊢
 have hcl:=Ot hw.1;refine He A0 false Tryz.func19 rfl Bq fun W hW=>?_;conv=>whnf
 refine Dj (hL) B5 hW rfl (Ah ?_);refine C1 (fun hk=>?_) fun hk=>?_
 ·have hk:ok=false:=by simpa using hk
  rw [Ab (by rw [hk];decide)];exact D4
 have hk:ok=true:=by simpa using hk
 rw [Ak hk];refine Fx [] (fun k:Nat=>[(8,.c (vs ⟨(Kb (told.take k)).toArray⟩)),(24,.c (vi k))]) (fun k=>[⟨0,[.c (At x.az.ak),.c (vi x.az.aq),.c (vi x.az.cap),.c (Af x.aq),.c (Ba x.ay),.c (Aw x.ap),.c (Bf x.ac)]⟩]) (fun k=>[]) (fun k=>k≤told.length) (fun k=>told.length-k) fun k hk=>?_;refine Dv (fun h'=>?_) fun h'=>?_
 ·have h':k<told.length:=by omega
  have hs:=A7v h';have hl:=Xj told k A7;refine B4 ?_;refine C1 (fun hc=>?_) fun hc=>?_
  ·rw [Bv] at hc
   refine B4 ?_;refine Cc [] (k+1) A7 A7 ⟨A6 (fun b=>AV.c (vs b)) (by rw [hs,A7u,Ak hc];exact A4f _ _),rfl,trivial⟩ trivial
  rw [Bv] at hc;refine B4 ?_;refine Cc [] (k+1) A7 A7 ⟨A6 (fun b=>AV.c (vs b)) (by rw [hs,A7u,Ab (by rw [hc];decide)];exact A4f _ _),rfl,trivial⟩ trivial
 have e:k=told.length:=by omega
 have hl:=Xj told k hk;refine C1 (fun hz=>?_) fun hz=>?_
 ·refine U5 36 1 (fun i=>[vs (([]:List ByteArray).getD i default)]) rfl ?_
  conv=>whnf
  refine B6 A0 rfl (C6 ([]++[⟨(Kb (told.take k)).toArray⟩])) (Ao rfl) Hd Bq (Em ?_);refine A2m (Sy x ho A7) B5 hW rfl (Ah ?_);refine B6 A0 rfl (C6 ([⟨(Kb (told.take k)).toArray⟩]++N3 x)) (Oj 1 _ _ _) (fun _=>Q0 _) (by (show 1+_≤_;omega)) (Ah ?_)
  refine An A0 rfl rfl ⟨?_,rfl,trivial⟩;exact A6 C6 (by rw [Ab (fun h0=>by rw [Pj h0,List.take_nil] at hz;simp [Kb,Fj] at hz),e,H4])
 refine A2m (Sy x ho A7) B5 hW rfl (Ah ?_);refine U5 40 1 (fun i=>[vs (([]:List ByteArray).getD i default)]) rfl ?_;conv=>whnf
 refine B6 A0 rfl (C6 ([]++N3 x)) (Oj 1 _ _ _) (fun _=>Q0 _) (by (show 0+_≤_;omega)) (Ah ?_)
 refine An A0 rfl rfl ⟨?_,rfl,trivial⟩;exact A6 C6 (by rw [Ak (by have:=B9s (A5h hz);rw [F9] at this;omega)])
def Wp (p:Nat→Bool) (n:Nat):List Int:=(List.range n).flatMap fun k=>if p k then [(k:Int)] else []
theorem Zz (p:Nat→Bool)(k:Nat):Wp p (k+1)=Wp p k++if p k then [(k:Int)] else []:=Ps _ _
theorem A3f (p:Nat→Bool)(k:Nat):(Wp p k).length≤k:=by
 induction k with
 |zero=>exact Ds _
 |succ k ih=>rw [Zz,D3];split<;>simp<;>omega
theorem D3t (x:A3)(hx:x.w≤16777216)(f:Nat)(cs ds:List Ag)(p:Nat→Bool)(hf:∀k:Nat,k<x.aq.length→Di f [.one (vi k),.ptr cs,.ptr ds] [.one (vb (p k))]):
  Di 44 [.agg x.c,.fn f [.ptr cs,.ptr ds]] [.one (Cn (Wp p x.aq.length))]:=by
 have hl:=A3.workers_le hx;refine E7 Tryz.func44 fun W=>?_;refine U5 5 1 (fun i=>(fun n=>[vi n]) (([]:List Int).getD i default)) rfl ?_;refine Fx [] (fun k:Nat=>[(10,.c (vi k))]) (fun k=>[]) (fun k=>[⟨1,Cn (Wp p k)⟩]) (fun k=>k≤x.aq.length) (fun k=>x.aq.length-k) fun k hk=>?_;refine Dv (fun h'=>?_) fun h'=>?_
 ·have h':k<x.aq.length:=by omega
  have ht:=Zz p k;have hn:=A3f p k;refine B4 ?_;refine Fp (hf k h') ?_;refine C1 (fun hc=>?_) fun hc=>?_
  ·refine B4 ?_
   refine B6 A0 rfl (Cn (Wp p k++[(k:Int)])) (Ao rfl) Hd A7 (Em ?_);refine Cc [(1,3)] (k+1) A7 A7 ⟨rfl,trivial⟩ ⟨A6 Cn (by rw [ht,Ak hc]),trivial⟩
  refine B4 ?_;refine Cc [] (k+1) A7 A7 ⟨rfl,trivial⟩ ⟨A6 Cn (by rw [ht,Ab (by rw [hc];decide),I4]),trivial⟩
 refine An A0 rfl rfl ⟨?_,trivial⟩;exact A6 (fun k=>Cn (Wp p k)) (show k=x.aq.length by omega)
def Vn (x:A3) (e:Int) (k:Nat):Bool:=Kr (x.aq.getD k default) e
def Nm (x:ByteArray) (e:Int):List Int:=Wp (Vn (Bu x).1 e) (Bu x).1.aq.length
theorem B8e (x:ByteArray)(e:Int):(Nm x e).length≤1000000:=by
 have h1:=A3f (Vn (Bu x).1 e) (Bu x).1.aq.length;have h2:=A3.workers_le (Jp x).1;unfold Nm;omega
theorem B0r (t:ByteArray)(e:Int)(hx:t.size≤1048576):Di 8 [.one (vs t),.one (vi e)] [.one (Cn (Nm t e))]:=by
 have hL:=Zw t hx;have hw:=(Jp t).1;unfold Nm;generalize Bu t=r at hL hw ⊢;obtain ⟨x,told,ok,n⟩:=r
 dsimp only at hL hw ⊢
 have hl:=A3.workers_le hw;refine E7 Tryz.func8 fun W=>?_;refine Fp (hL) ?_;refine Eu 0 (Cn []) rfl C0 ?_;refine Fx [11] (fun k:Nat=>[(10,.c (vi k))]) (fun k=>[⟨1,[.c (At x.az.ak),.c (vi x.az.aq),.c (vi x.az.cap),.c (Af x.aq),.c (Ba x.ay),.c (Aw x.ap),.c (Bf x.ac)]⟩]) (fun k=>[⟨0,Cn (Wp (Vn x e) k)⟩]) (fun k=>k≤x.aq.length) (fun k=>x.aq.length-k) fun k hk=>?_;refine Dv (fun h'=>?_) fun h'=>?_
 ·have h':k<x.aq.length:=by omega
  have hw:=Go.Sx.A3.worker_le hw h';have ht:=Zz (Vn x e) k;have hn:=A3f (Vn x e) k;refine B4 ?_;refine Fp (Zv (x.aq.getD k default) e A7) ?_;refine C1 (fun hc=>?_) fun hc=>?_
  ·refine B4 ?_
   refine B6 A0 rfl (Cn (Wp (Vn x e) k++[(k:Int)])) (Ao rfl) Hd A7 (Em ?_);refine Cc [(0,3)] (k+1) A7 A7 ⟨rfl,trivial⟩ ⟨A6 Cn (by rw [ht,Ak (show Vn x e k=true from hc)]),trivial⟩
  refine B4 ?_;refine Cc [] (k+1) A7 A7 ⟨rfl,trivial⟩ ⟨A6 Cn (by rw [ht,Ab (by rw [show Vn x e k=false from hc];decide),I4]),trivial⟩
 refine An A0 rfl rfl ⟨?_,trivial⟩;exact A6 (fun k=>Cn (Wp (Vn x e) k)) (show k=x.aq.length by omega)
theorem C6w (x:A3)(e:Int)(hx:x.w≤540000)(k:Nat)(hk:k<x.aq.length):Di 45 [.one (vi k),.ptr x.c,.ptr [vi e]] [.one (vb (Vn x e k))]:=by
 have hl:=A3.workers_le hx;have hw:=Go.Sx.A3.worker_le hx hk;refine E7 Tryz.func45 fun W=>?_
 first|(refine Aj 1 rfl [0,1,2,3,4,5,6,7] Am (Ah ?_))
 refine B4 ?_;refine Aq (Zb (x.aq.getD k default) e A7) rfl (Em ?_);exact An A0 rfl rfl ⟨rfl,trivial⟩
theorem Yb (t:ByteArray)(e:Int)(hx:t.size≤1048576):E3 Tryz.prog X8 9 [.one (vs t),.one (vi e)] [.one (Cn (Nm t e))]:=by
 have hL:=U1 t hx;have hw:=(Jp t).1;unfold Nm;generalize Bu t=r at hL hw ⊢;obtain ⟨x,told,ok,n⟩:=r
 dsimp only at hL hw ⊢
 refine He A0 false Tryz.func9 rfl Bq fun W hW=>?_;conv=>whnf
 refine Dj (hL) B5 hW rfl (Ah ?_);refine Lo (D3t x A7 _ x.c [vi e] (Vn x e) (fun k hk=>C6w x e hw k hk)) rfl (Ah ?_);exact An A0 rfl rfl ⟨rfl,trivial⟩
def D22:ByteArray:=(⟨#[103,114,97,112,104,32,50,32,49,10,110,111,100,101,32,105,110,32,48,32,48,32,49,10,110,111,100,101,32,111,117,116,32,48,32,48,10,112,117,116,32,48,32,53,32,57,10,112,117,116,32,48,32,53,32,51,10]⟩:ByteArray)
def D23:ByteArray:=(⟨#[103,114,97,112,104,32,50,32,49,10,110,111,100,101,32,105,110,32,48,32,48,32,49,10,110,111,100,101,32,111,117,116,32,48,32,48,10,112,117,116,32,48,32,53,32,57,10,102,97,105,114,32,49,48,48,10]⟩:ByteArray)
theorem C5y:Ni D22=([(⟨#[48,32,49,32,53,32,51]⟩:ByteArray)],0):=by decide+kernel
theorem C5z:Nm D23 3=[0,1]:=by decide+kernel
def D1s (ins:List Aa):Prop:=ins.length≤5∧∀r∈ins,r.op=0∧r.af.turn=0∧(0≤r.af.ab∧r.af.ab≤3)∧(0≤r.key∧r.key≤11)∧(0≤r.val∧r.val≤39)
theorem C3w {xs:List Aa}{e k v:Int}(h:∀r∈xs,r.op=0∧r.af.turn=0∧(0≤r.af.ab∧r.af.ab≤3)∧(0≤r.key∧r.key≤11)∧(0≤r.val∧r.val≤39))(he:0≤e∧e≤3)(hk:0≤k∧k≤11)(hv:0≤v∧v≤39):
  ∀r∈xs++[(⟨0,⟨e,0⟩,k,v⟩:Aa)],r.op=0∧r.af.turn=0∧(0≤r.af.ab∧r.af.ab≤3)∧(0≤r.key∧r.key≤11)∧(0≤r.val∧r.val≤39):=fun r hr=>by
 rcases Ki.1 hr with hr|hr
 ·exact h r hr
 rw [I3.1 hr];exact ⟨rfl,rfl,he,hk,hv⟩
structure JIn where
 k:Nat
 i:Int
 h:Int
 e:Int
 xs:List Aa
theorem C3a (d:Kd)(i h:Int)(hi:0≤i∧i≤d.n):MtR HT 136 d.pins (d.cur i h) [] (fun r:Int×Int×List Aa=>(0≤r.1∧r.1≤d.n)∧D1s r.2.2) (fun r=>d.cur r.1 r.2.1) (fun r=>[.one (A9 r.2.2)]):=by
 refine zeP Tryz.func136 fun B b hH hp=>?_;refine Eu 1 (A9 []) rfl (Cf rfl V7) ?_;refine zlW [6] (fun j:JIn=>[(4,.c (vi j.e)),(5,.c (vi j.k))]) (fun j=>[⟨0,[.c (.val d.v),.c (vi j.i),.c (vi j.h)]⟩]) (fun j=>[⟨1,A9 j.xs⟩]) (fun j=>(0≤j.i∧j.i≤d.n)∧j.k≤5∧j.xs.length=j.k∧(0≤j.e∧j.e≤2)∧∀r∈j.xs,r.op=0∧r.af.turn=0∧(0≤r.af.ab∧r.af.ab≤3)∧(0≤r.key∧r.key≤11)∧(0≤r.val∧r.val≤39)) (fun j=>5-j.k) (⟨0,i,h,0,[]⟩) (⟨hi,Fe _,rfl,⟨Tj _,(by decide:(0:Int)≤2)⟩,fun r hr=>(Ph hr).elim⟩) fun j hj=>?_;obtain ⟨hi,hk,hx,he,hA⟩:=hj;refine M4 (Ef d j.i j.h 6 hi Bq) hH hp fun r hr=>?_;refine Dv (fun hlt=>?_) fun hlt=>?_
 ·have hlt2:r.2.2<6:=hr.2.2.2 A7
  refine M4 (Ef d r.1 r.2.1 2 hr.1 Bq) hH hp fun r2 hr2=>?_;have hr2b:r2.2.2<2:=hr2.2.2.2 A7;refine B4 ?_;refine Fp (P1 (j.e+r2.2.2) 0 2) ?_;have hB:=G2 (j.e+r2.2.2) 0 2 Bq;refine M4 (Ef d r2.1 r2.2.1 12 hr2.1 Bq) hH hp fun r3 hr3=>?_;refine M4 (Ef d r3.1 r3.2.1 40 hr3.1 Bq) hH hp fun r4 hr4=>?_;have hk3:=hr3.2.2.2 A7;have hv4:=hr4.2.2.2 A7;refine B6 A0 rfl (A9 (j.xs++[⟨0,⟨Cs (j.e+r2.2.2) 0 2,0⟩,r3.2.2,r4.2.2⟩])) (Ao rfl) Hd A7 (Em ?_);refine Cc [(1,3)] (⟨j.k+1,r4.1,r4.2.1,Cs (j.e+r2.2.2) 0 2,j.xs++[⟨0,⟨Cs (j.e+r2.2.2) 0 2,0⟩,r3.2.2,r4.2.2⟩]⟩) (⟨hr4.1,by show j.k+1≤5;omega,by simp [hx],hB,C3w hA ⟨hB.1,by omega⟩ ⟨hr3.2.1,by omega⟩ ⟨hr4.2.1,by omega⟩⟩) (by show 5-(j.k+1)<_;omega) ⟨rfl,rfl,trivial⟩ ⟨rfl,trivial⟩
 exact Jf (r.1,r.2.1,j.xs) ⟨hr.1,by show j.xs.length≤5;omega,hA⟩
end Go.Proofs.YtmhcebdkjgkmlaaGreatDoor
