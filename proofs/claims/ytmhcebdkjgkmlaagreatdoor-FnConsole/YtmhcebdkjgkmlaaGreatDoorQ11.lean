/- Part 11 of the proof that each of the laws FnConsole returns true for every input. No conditions. -/
import Derived.Test.YtmhcebdkjgkmlaaGreatDoorQ10

set_option linter.unusedSimpArgs false
set_option linter.unusedVariables false
set_option maxRecDepth 100000
namespace Go.Proofs.YtmhcebdkjgkmlaaGreatDoor
open Go.Sx
def Tk (l:List Ad):Prop:=∀i,i<l.length-1→N2 (l.getD i default) (l.getD (i+1) default)<0
instance (l:List Ad):Decidable (Tk l):=by unfold Tk;infer_instance
def Xc (l:List Ad):Bool:=decide (Tk l)
theorem B57 (l:List Ad)(hl:l.length≤16777216):Di 305 [.one (Ai l)] [.one (vb (Xc l))]:=by
 refine E7 Tryz.func305 fun W=>?_;refine zlW [] (fun j:Nat=>[(3,.c (vi ((j:Int)+1)))]) (fun j=>[]) (fun j=>[]) (fun j=>j≤l.length∧N1 (fun i=>N2 (l.getD i default) (l.getD (i+1) default)<0) j) (fun j=>l.length-j) (0) (⟨Fe _,Dn _⟩) fun j hj=>?_;obtain ⟨hj,he⟩:=hj;refine Dv (fun h=>?_) fun h=>?_
 ·have h:j+1<l.length:=by omega
  have e1:((j:Int)+1-1).toNat=j:=by omega
  have e2:((j:Int)+1).toNat=j+1:=by omega
  refine B4 ?_
  first|(refine Aj 4 rfl [0,1,2,3,4,5,6,7,8,9,10] Am (Ah ?_))
  refine B4 ?_;refine Fp (Y7 (l.getD ((j:Int)+1-1).toNat default) (l.getD ((j:Int)+1).toNat default)) ?_;refine Dv (fun h2=>?_) fun h2=>?_
  all_goals rw [e1,e2] at h2
  ·exact An A0 rfl rfl ⟨A6 vb (Cd fun p=>by have:=p j A7;omega),trivial⟩
  refine B4 ?_;refine Cc [] (j+1) (⟨by omega,Dm he A7⟩) A7 ⟨rfl,trivial⟩ trivial
 exact An A0 rfl rfl ⟨A6 vb (Dc fun i hi=>he i A7),trivial⟩
theorem B7u (l:List Ad)(hl:l.length≤16777216):Di 258 [.one (Ai l)] [.one (vb (Xc l))]:=by
 refine E7 Tryz.func258 fun W=>?_;refine zlW [] (fun j:Nat=>[(3,.c (vi ((j:Int)+1)))]) (fun j=>[]) (fun j=>[]) (fun j=>j≤l.length∧N1 (fun i=>N2 (l.getD i default) (l.getD (i+1) default)<0) j) (fun j=>l.length-j) (0) (⟨Fe _,Dn _⟩) fun j hj=>?_;obtain ⟨hj,he⟩:=hj;refine Dv (fun h=>?_) fun h=>?_
 ·have h:j+1<l.length:=by omega
  have e1:((j:Int)+1-1).toNat=j:=by omega
  have e2:((j:Int)+1).toNat=j+1:=by omega
  refine B4 ?_
  first|(refine Aj 4 rfl [0,1,2,3,4,5,6,7,8,9,10] Am (Ah ?_))
  refine B4 ?_;refine Fp (Ys (l.getD ((j:Int)+1-1).toNat default) (l.getD ((j:Int)+1).toNat default)) ?_;refine Dv (fun h2=>?_) fun h2=>?_
  all_goals rw [e1,e2] at h2
  ·exact An A0 rfl rfl ⟨A6 vb (Cd fun p=>by have:=p j A7;omega),trivial⟩
  refine B4 ?_;refine Cc [] (j+1) (⟨by omega,Dm he A7⟩) A7 ⟨rfl,trivial⟩ trivial
 exact An A0 rfl rfl ⟨A6 vb (Dc fun i hi=>he i A7),trivial⟩
def A2j (n:Nat) (l:List Aa):Prop:=∀r∈l,H5 r∧r.op<n
instance (n:Nat) (l:List Aa):Decidable (A2j n l):=by unfold A2j;infer_instance
def Yh (n:Nat) (l:List Aa):Bool:=decide (A2j n l)
theorem Tx (g:B0)(k:Int)(hg:g.w≤16777216):Di 217 [.agg g.c,.one (vi k)] [.one (vb (E4 k 0 (g.ak.length-1)))]:=by
 have hn:=B0.nodes_le hg;refine E7 Tryz.func217 fun W=>?_;refine B4 ?_;refine Fp (Hm k 0 (g.ak.length-1)) ?_;exact An A0 rfl rfl ⟨rfl,trivial⟩
theorem Kw {r:Aa}:Fh r=true↔H5 r:=decide_eq_true_iff
theorem Xi (g:B0)(l:List Aa)(hg:g.w≤16777216)(hl:l.length≤16777216):Di 272 [.agg g.c,.one (A9 l)] [.one (vb (Yh g.ak.length l))]:=by
 have hu:=Dn (fun i=>H5 (l.getD i default)∧(l.getD i default).op<g.ak.length);have hn:=B0.nodes_le hg;refine E7 Tryz.func272 fun W=>?_;refine Fx [] (fun k:Nat=>[(9,.c (vi k))]) (fun k=>[⟨0,[.c (At g.ak),.c (vi g.aq),.c (vi g.cap)]⟩]) (fun k=>[]) (fun k=>k≤l.length∧N1 (fun i=>H5 (l.getD i default)∧(l.getD i default).op<g.ak.length) k) (fun k=>l.length-k) fun k hk=>?_;obtain ⟨hk,he⟩:=hk;refine Dv (fun h'=>?_) fun h'=>?_
 ·have h':k<l.length:=by omega
  repeat' (first|(refine Ho ?_;conv=>whnf)|(refine Hp ?_;conv=>whnf)|(refine ⟨fun h=>?_,fun h=>?_⟩<;>conv=>whnf)|(refine Aq (Ij (l.getD k default)) rfl (It ?_);conv=>whnf)|(refine Aq (Tx g _ hg) rfl (Ah ?_))|(refine Cp ?_;conv=>whnf)|fail)
  all_goals try (refine An A0 rfl rfl ⟨A6 vb (Cd fun p=>?_),trivial⟩;obtain ⟨p1,p2⟩:=p _ (Al (d:=default) h');first|(rw [Kw.2 p1] at h;exact absurd h Bq)|(have p3:=p1.1;clear he hu;simp only [F4] at * <;>omega))
  all_goals
   have hp:H5 (l.getD k default):=Kw.1 (by first|(simpa using h)|(rename_i q _;simpa using q)|(rename_i q;simpa using q));refine Cc [] (k+1) ⟨by omega,Dm he ⟨hp,by clear he hu hp;simp only [F4] at * <;>omega⟩⟩ A7 ⟨rfl,trivial⟩ trivial
 have e:k=l.length:=by omega
 exact An A0 rfl rfl ⟨A6 vb (Dc (Iq (p:=fun r=>H5 r∧r.op<g.ak.length) (e▸he))),trivial⟩
theorem Xv (g:B0)(l:List Aa)(hg:g.w≤16777216)(hl:l.length≤16777216):Di 213 [.agg g.c,.one (A9 l)] [.one (vb (Yh g.ak.length l))]:=by
 have hu:=Dn (fun i=>H5 (l.getD i default)∧(l.getD i default).op<g.ak.length);have hn:=B0.nodes_le hg;refine E7 Tryz.func213 fun W=>?_;refine Fx [] (fun k:Nat=>[(5,.c (vi k))]) (fun k=>[⟨0,[.c (At g.ak),.c (vi g.aq),.c (vi g.cap)]⟩]) (fun k=>[]) (fun k=>k≤l.length∧N1 (fun i=>H5 (l.getD i default)∧(l.getD i default).op<g.ak.length) k) (fun k=>l.length-k) fun k hk=>?_;obtain ⟨hk,he⟩:=hk;refine Dv (fun h'=>?_) fun h'=>?_
 ·have h':k<l.length:=by omega
  repeat' (first|(refine Ho ?_;conv=>whnf)|(refine Hp ?_;conv=>whnf)|(refine ⟨fun h=>?_,fun h=>?_⟩<;>conv=>whnf)|(refine Aq (Jq (l.getD k default)) rfl (It ?_);conv=>whnf)|(refine Aq (Hg _ _ _) rfl (Ah ?_))|(refine Cp ?_;conv=>whnf)|(refine Aj 4 rfl [0,1,2,3,4,5,6,7,8,9,10,11,12,13,14,15,16] Am (Ah ?_))|fail)
  all_goals try (refine An A0 rfl rfl ⟨A6 vb (Cd fun p=>?_),trivial⟩;obtain ⟨p1,p2⟩:=p _ (Al (d:=default) h');first|(rw [Kw.2 p1] at h;exact absurd h Bq)|(have p3:=p1.1;clear he hu;simp only [F4] at * <;>omega))
  all_goals
   have hp:H5 (l.getD k default):=Kw.1 (by first|(simpa using h)|(rename_i q _;simpa using q)|(rename_i q;simpa using q));refine Cc [] (k+1) ⟨by omega,Dm he ⟨hp,by clear he hu hp;simp only [F4] at * <;>omega⟩⟩ A7 ⟨rfl,trivial⟩ trivial
 have e:k=l.length:=by omega
 exact An A0 rfl rfl ⟨A6 vb (Dc (Iq (p:=fun r=>H5 r∧r.op<g.ak.length) (e▸he))),trivial⟩
def C43 (l:List Aa):Prop:=∀r∈l,H5 r
instance (l:List Aa):Decidable (C43 l):=by unfold C43;infer_instance
theorem C3v (l:List Aa)(hl:l.length≤16777216):Di 309 [.one (A9 l)] [.one (vb (decide (C43 l)))]:=by
 have hu:=Dn (fun i=>H5 (l.getD i default));refine E7 Tryz.func309 fun W=>?_;refine Fx [] (fun k:Nat=>[(7,.c (vi k))]) (fun k=>[]) (fun k=>[]) (fun k=>k≤l.length∧N1 (fun i=>H5 (l.getD i default)) k) (fun k=>l.length-k) fun k hk=>?_;obtain ⟨hk,he⟩:=hk;refine Dv (fun h'=>?_) fun h'=>?_
 ·have h':k<l.length:=by omega
  refine B4 ?_;refine Fp (Ij (l.getD k default)) ?_;refine C1 (fun h=>?_) fun h=>?_
  ·exact An A0 rfl rfl ⟨A6 vb (Cd fun p=>by rw [Kw.2 (p _ (Al (d:=default) h'))] at h;exact absurd h Bq),trivial⟩
  refine B4 ?_;refine Cc [] (k+1) ⟨by omega,Dm he (Kw.1 (by simpa using h))⟩ A7 ⟨rfl,trivial⟩ trivial
 have e:k=l.length:=by omega
 exact An A0 rfl rfl ⟨A6 vb (Dc (Iq (p:=H5) (e▸he))),trivial⟩
def A5y (l:D5):Prop:=(1≤l.cap∧l.cap≤4)∧(0≤l.bv∧l.bv≤l.cap)∧(0≤l.back∧l.back≤l.cap)∧l.bv+l.back+l.ar.length=l.cap∧(0≤l.bj∧l.bj≤1000000000)∧0≤l.got∧l.bj-l.got=l.ar.length
instance (l:D5):Decidable (A5y l):=by unfold A5y;infer_instance
def Hv (l:D5):Prop:=A5y l∧C43 l.ar
instance (l:D5):Decidable (Hv l):=by unfold Hv;infer_instance
def Ka (l:D5):Bool:=decide (Hv l)
theorem Ty (l:D5)(hl:l.w≤16777216)(og2:l.got≤9223372036854775807):Di 271 [.agg l.c] [.one (vb (Ka l))]:=by
 have hq:l.ar.length≤16777216:=hl;refine E7 Tryz.func271 fun W=>?_
 repeat' (first|(refine Ho ?_;conv=>whnf)|(refine Hp ?_;conv=>whnf)|(refine ⟨fun h=>?_,fun h=>?_⟩<;>conv=>whnf)|(refine Aq (Hm _ _ _) rfl (Ah ?_))|(refine Aq (C3v l.ar hq) rfl (Ah ?_))|(refine Cp ?_;conv=>whnf)|fail)
 all_goals first
  |(refine An A0 rfl rfl ⟨A6 vb (Cd fun p=>?_),trivial⟩;obtain ⟨⟨p1,p2,p3,p4,p5,p6,p7⟩,_⟩:=p;simp only [F4] at * <;>omega)
  |(refine An A0 rfl rfl ⟨A6 vb (Uw.2 ⟨fun p=>p.2,fun p=>⟨?_,p⟩⟩),trivial⟩;refine ⟨?_,?_,?_,?_,?_,?_,?_⟩<;>(simp only [F4] at * <;>omega))
theorem Uk (l:D5)(hl:l.w≤16777216):Di 212 [.agg l.c] [.one (vb (Ka l))]:=by
 have hq:l.ar.length≤16777216:=hl;have hu:=Dn (fun i=>H5 (l.ar.getD i default));refine E7 Tryz.func212 fun W=>?_;refine Fx [] (fun k:Nat=>[(3,.c (vi k))]) (fun k=>[⟨0,[.c (vi l.cap),.c (A9 l.ar),.c (vi l.bv),.c (vi l.back),.c (vi l.bj),.c (vi l.got)]⟩]) (fun k=>[]) (fun k=>k≤l.ar.length∧N1 (fun i=>H5 (l.ar.getD i default)) k) (fun k=>l.ar.length-k) fun k hk=>?_;obtain ⟨hk,he⟩:=hk;refine Dv (fun h'=>?_) fun h'=>?_
 ·have h':k<l.ar.length:=by omega
  refine B4 ?_;refine Fp (Jq (l.ar.getD k default)) ?_;refine C1 (fun h=>?_) fun h=>?_
  ·exact An A0 rfl rfl ⟨A6 vb (Cd fun p=>by rw [Kw.2 (p.2 _ (Al (d:=default) h'))] at h;exact absurd h Bq),trivial⟩
  refine B4 ?_;refine Cc [] (k+1) ⟨by omega,Dm he (Kw.1 (by simpa using h))⟩ A7 ⟨rfl,trivial⟩ trivial
 have e:k=l.ar.length:=by omega
 have hA:C43 l.ar:=Iq (p:=H5) (e▸he)
 clear he hu
 repeat' (first|(refine Ho ?_;conv=>whnf)|(refine Hp ?_;conv=>whnf)|(refine ⟨fun h=>?_,fun h=>?_⟩<;>conv=>whnf)|(refine Aq (Hg _ _ _) rfl (Ah ?_))|(refine Cp ?_;conv=>whnf)|fail)
 all_goals first
  |(refine An A0 rfl rfl ⟨A6 vb (Cd fun p=>?_),trivial⟩;obtain ⟨⟨p1,p2,p3,p4,p5,p6,p7⟩,_⟩:=p;clear hA;simp only [F4] at * <;>omega)
  |(refine An A0 rfl rfl ⟨A6 vb (Uw.2 ⟨fun p=>p.1.2.2.2.2.2.1,fun p=>⟨?_,hA⟩⟩),trivial⟩;clear hA;refine ⟨?_,?_,?_,?_,?_,?_,?_⟩<;>(simp only [F4] at * <;>omega))
theorem A4y (xs:List Aa)(e:Int)(hx:xs.length≤16777216):Di 314 [.one (A9 xs),.one (vi e)] [.one (A9 (Ff xs e))]:=by
 refine E7 Tryz.func314 fun W=>?_;refine Eu 0 (A9 []) rfl C0 ?_;refine Fx [7] (fun k:Nat=>[(6,.c (vi k))]) (fun k=>[]) (fun k=>[⟨0,A9 (Ff (xs.take k) e)⟩]) (fun k=>k≤xs.length) (fun k=>xs.length-k) fun k hk=>?_;refine Dv (fun h=>?_) fun h=>?_
 ·have h:k<xs.length:=by omega
  have hs:=Er (fun r=>r.af.ab==e) xs k h;have hb:=E8 (fun r=>r.af.ab==e) xs k;refine B4 ?_;refine C1 (fun hc=>?_) fun hc=>?_
  ·refine B4 ?_
   refine B6 A0 rfl (A9 (Ff (xs.take k) e++[xs.getD k default])) (Ao rfl) Hd (by show (List.filter _ _).length+1≤_;omega) (Em ?_)
   refine Cc [(0,2)] (k+1) A7 A7 ⟨rfl,trivial⟩ ⟨A6 A9 (by show _=List.filter _ _;rw [hs];exact A6 (fun l=>List.filter _ (xs.take k)++l) (Ak hc).symm),trivial⟩
  refine B4 ?_;refine Cc [] (k+1) A7 A7 ⟨rfl,trivial⟩ ⟨A6 A9 (by show _=List.filter _ _;rw [hs];exact (I4 _).symm.trans (A6 (fun l=>List.filter _ (xs.take k)++l) (Ab (X0.1 hc)).symm)),trivial⟩
 refine An A0 rfl rfl ⟨?_,trivial⟩;exact A6 (fun l=>A9 (Ff l e)) (Ej xs k A7)
theorem Vu (xs:List Aa)(e:Int)(hx:xs.length≤16777216):Di 118 [.one (A9 xs),.one (vi e)] [.one (A9 (Ff xs e))]:=by
 refine E7 Tryz.func118 fun W=>?_;refine U5 5 5 (fun i=>Aa.c (([]:List Aa).getD i default)) rfl ?_;refine Fx [] (fun k:Nat=>[(10,.c (vi k))]) (fun k=>[]) (fun k=>[⟨0,A9 (Ff (xs.take k) e)⟩]) (fun k=>k≤xs.length) (fun k=>xs.length-k) fun k hk=>?_;refine Dv (fun h=>?_) fun h=>?_
 ·have h:k<xs.length:=by omega
  have hs:=Er (fun r=>r.af.ab==e) xs k h;have hb:=E8 (fun r=>r.af.ab==e) xs k;refine B4 ?_;refine C1 (fun hc=>?_) fun hc=>?_
  ·refine B4 ?_
   refine B6 A0 rfl (A9 (Ff (xs.take k) e++[xs.getD k default])) (Ao rfl) Hd (by show (List.filter _ _).length+1≤_;omega) (Em ?_)
   refine Cc [(0,3)] (k+1) A7 A7 ⟨rfl,trivial⟩ ⟨A6 A9 (by show _=List.filter _ _;rw [hs];exact A6 (fun l=>List.filter _ (xs.take k)++l) (Ak hc).symm),trivial⟩
  refine B4 ?_;refine Cc [] (k+1) A7 A7 ⟨rfl,trivial⟩ ⟨A6 A9 (by show _=List.filter _ _;rw [hs];exact (I4 _).symm.trans (A6 (fun l=>List.filter _ (xs.take k)++l) (Ab (X0.1 hc)).symm)),trivial⟩
 refine An A0 rfl rfl ⟨?_,trivial⟩;exact A6 (fun l=>A9 (Ff l e)) (Ej xs k A7)
theorem B9j (xs:List Aa)(hx:xs.length≤16777216)(f:Nat)(cs:List Ag)(p:Aa→Bool)(hf:∀x∈xs,Di f [.agg x.c,.ptr cs] [.one (vb (p x))]):
  Di 326 [.one (A9 xs),.fn f [.ptr cs]] [.one (vi (Pf p xs))]:=by
 refine E7 Tryz.func326 fun W=>?_;refine Fx [] (fun k:Nat=>[(8,.c (vi k))]) (fun k=>[]) (fun k=>[]) (fun k=>k≤xs.length∧(xs.take k).any p=false) (fun k=>xs.length-k) fun k hk=>?_;obtain ⟨hk,he⟩:=hk;refine Dv (fun h=>?_) fun h=>?_
 ·have h:k<xs.length:=by omega
  refine B4 ?_;refine Fp (hf (xs.getD k default) (Al h)) ?_;refine C1 (fun hc=>?_) fun hc=>?_
  ·exact An A0 rfl rfl ⟨A6 vi (Su p xs k he h hc),trivial⟩
  refine B4 ?_;refine Cc [] (k+1) ⟨by omega,Gy he h hc⟩ A7 ⟨rfl,trivial⟩ trivial
 exact An A0 rfl rfl ⟨A6 vi (M8 p xs (by rw [Ej xs k A7] at he;exact he)),trivial⟩
theorem B5l (xs:List Aa)(hx:xs.length≤16777216)(f:Nat)(cs:List Ag)(p:Aa→Bool)(hf:∀x∈xs,Di f [.agg x.c,.ptr cs] [.one (vb (p x))]):
  Di 310 [.one (A9 xs),.fn f [.ptr cs]] [.one (vb (xs.any p))]:=by
 refine E7 Tryz.func310 fun W=>?_;refine Fp (B9j xs hx f cs p hf) ?_;exact An A0 rfl rfl ⟨A6 vb (A2q p xs).symm,trivial⟩
theorem C6u (xs:List H6)(hx:xs.length≤16777216)(f:Nat)(cs:List Ag)(p:H6→Bool)(hf:∀x∈xs,Di f [.agg x.c,.ptr cs] [.one (vb (p x))]):
  Di 208 [.one (I0 xs),.fn f [.ptr cs]] [.one (vi (Pf p xs))]:=by
 refine E7 Tryz.func208 fun W=>?_;refine Fx [] (fun k:Nat=>[(8,.c (vi k))]) (fun k=>[]) (fun k=>[]) (fun k=>k≤xs.length∧(xs.take k).any p=false) (fun k=>xs.length-k) fun k hk=>?_;obtain ⟨hk,he⟩:=hk;refine Dv (fun h=>?_) fun h=>?_
 ·have h:k<xs.length:=by omega
  refine B4 ?_;refine Fp (hf (xs.getD k default) (Al h)) ?_;refine C1 (fun hc=>?_) fun hc=>?_
  ·exact An A0 rfl rfl ⟨A6 vi (Su p xs k he h hc),trivial⟩
  refine B4 ?_;refine Cc [] (k+1) ⟨by omega,Gy he h hc⟩ A7 ⟨rfl,trivial⟩ trivial
 exact An A0 rfl rfl ⟨A6 vi (M8 p xs (by rw [Ej xs k A7] at he;exact he)),trivial⟩
theorem C28 (xs:List H6)(hx:xs.length≤16777216)(f:Nat)(cs:List Ag)(p:H6→Bool)(hf:∀x∈xs,Di f [.agg x.c,.ptr cs] [.one (vb (p x))]):
  Di 154 [.one (I0 xs),.fn f [.ptr cs]] [.one (vb (xs.any p))]:=by
 refine E7 Tryz.func154 fun W=>?_;refine Fp (C6u xs hx f cs p hf) ?_;exact An A0 rfl rfl ⟨A6 vb (A2q p xs).symm,trivial⟩
theorem D3j (x:Aa)(e:Int):Di 311 [.agg x.c,.ptr [vi e]] [.one (vb (decide (x.af.ab≤e)))]:=by
 refine E7 Tryz.func311 fun W=>?_;exact An A0 rfl rfl ⟨rfl,trivial⟩
theorem D25 (x:H6)(e:Int):Di 155 [.agg x.c,.ptr [vi e]] [.one (vb (x.ab==e))]:=by
 refine E7 Tryz.func155 fun W=>?_;exact An A0 rfl rfl ⟨rfl,trivial⟩
theorem B9n (x:Ae)(e:Int)(h:x.w≤16777216):Di 273 [.agg x.c,.one (vi e)] [.one (vb (B9x x e))]:=by
 refine E7 Tryz.func273 fun W=>?_;refine Aq (B5l x.au (by simp only [Ae.w] at h;omega) _ [vi e] (fun r=>decide (r.af.ab≤e)) (fun r _=>D3j r e)) rfl (Ah ?_);exact An A0 rfl rfl ⟨rfl,trivial⟩
theorem C0g (x:Ae)(e:Int)(h:x.w≤16777216):Di 279 [.agg x.c,.one (vi e)] [.one (vb (B9x x e))]:=by
 have hl:x.au.length≤16777216:=by simp only [Ae.w] at h;omega
 refine E7 Tryz.func279 fun W=>?_;refine Fx [] (fun k:Nat=>[(5,.c (vi k))]) (fun k=>[⟨0,[.c (A9 x.ar),.c (A9 x.aa),.c (A9 x.au),.c (Ai x.cells),.c (Cn x.al),.c (Df x.ah),.c (Df x.ai),.c (I0 x.an)]⟩]) (fun k=>[]) (fun k=>k≤x.au.length∧(x.au.take k).any (fun r=>decide (r.af.ab≤e))=false) (fun k=>x.au.length-k) fun k hk=>?_;obtain ⟨hk,he⟩:=hk;refine Dv (fun h=>?_) fun h=>?_
 ·have h:k<x.au.length:=by omega
  refine B4 ?_;refine C1 (fun hc=>?_) fun hc=>?_
  ·exact An A0 rfl rfl ⟨A6 vb (R7 h hc),trivial⟩
  refine B4 ?_;refine Cc [] (k+1) ⟨by omega,Gy he h hc⟩ A7 ⟨rfl,trivial⟩ trivial
 exact An A0 rfl rfl ⟨A6 vb (by rw [Ej x.au k A7] at he;exact he),trivial⟩
theorem A7d (xs:List H6)(e:Int)(h:xs.length≤16777216):Di 95 [.one (I0 xs),.one (vi e)] [.one (vb (xs.any fun d=>d.ab==e))]:=by
 refine E7 Tryz.func95 fun W=>?_;refine Aq (C28 xs h _ [vi e] (fun d=>d.ab==e) (fun d _=>D25 d e)) rfl (Ah ?_);exact An A0 rfl rfl ⟨rfl,trivial⟩
theorem Zb (x:Ae)(e:Int)(h:x.w≤16777216):Di 46 [.agg x.c,.one (vi e)] [.one (vb (Kr x e))]:=by
 refine E7 Tryz.func46 fun W=>?_;refine Fp (A7d x.an e (by simp only [Ae.w] at h;omega)) ?_;exact An A0 rfl rfl ⟨rfl,trivial⟩
theorem Zv (x:Ae)(e:Int)(h:x.w≤16777216):Di 42 [.agg x.c,.one (vi e)] [.one (vb (Kr x e))]:=by
 have hl:x.an.length≤16777216:=by simp only [Ae.w] at h;omega
 refine E7 Tryz.func42 fun W=>?_;refine Fx [] (fun k:Nat=>[(5,.c (vi k))]) (fun k=>[⟨0,[.c (A9 x.ar),.c (A9 x.aa),.c (A9 x.au),.c (Ai x.cells),.c (Cn x.al),.c (Df x.ah),.c (Df x.ai),.c (I0 x.an)]⟩]) (fun k=>[]) (fun k=>k≤x.an.length∧(x.an.take k).any (fun d=>d.ab==e)=false) (fun k=>x.an.length-k) fun k hk=>?_;obtain ⟨hk,he⟩:=hk;refine Dv (fun h=>?_) fun h=>?_
 ·have h:k<x.an.length:=by omega
  refine B4 ?_;refine C1 (fun hc=>?_) fun hc=>?_
  ·exact An A0 rfl rfl ⟨A6 vb (R7 h hc),trivial⟩
  refine B4 ?_;refine Cc [] (k+1) ⟨by omega,Gy he h hc⟩ A7 ⟨rfl,trivial⟩ trivial
 exact An A0 rfl rfl ⟨A6 vb (by rw [Ej x.an k A7] at he;exact he),trivial⟩
theorem C0i (x:Ae)(e:Int)(h:x.w≤16777216):Di 280 [.agg x.c,.one (vi e)] [.one (vi (A9c x e))]:=by
 simp only [Ae.w] at h;have h1:=O4 x.ar e;have h2:=O4 x.aa e;refine E7 Tryz.func280 fun W=>?_
 first|(refine Aj 1 rfl [0,1,2,5,6,7,3,4,8,9,10,11] Am (Ah ?_))
 refine Fp (A4y x.ar e A7) ?_;refine Aq (A4y x.aa e A7) rfl (Em ?_);exact An A0 rfl rfl ⟨A6 vi (by simp only [A9c];omega),trivial⟩
theorem B0o (x:Ae)(e:Int)(hx:x.w≤16777216):Di 247 [.agg x.c,.one (vi e)] [.one (vb (Lc x e))]:=by
 refine E7 Tryz.func247 fun W=>?_;refine Fp (C0g x e hx) ?_
 repeat' (first|(refine Ho ?_;conv=>whnf)|(refine Hp ?_;conv=>whnf)|(refine ⟨fun h=>?_,fun h=>?_⟩<;>conv=>whnf)|(refine Gn ?_;conv=>whnf)|fail)
 all_goals first
  |(refine Aq (C0i x e hx) rfl (Ah ?_))
  |(refine An A0 rfl rfl ⟨?_,trivial⟩;(conv=>whnf);refine A6 vb ?_;simp_all [Lc];done)
 repeat' (first|(refine Ho ?_;conv=>whnf)|(refine Hp ?_;conv=>whnf)|(refine ⟨fun h=>?_,fun h=>?_⟩<;>conv=>whnf)|(refine Gn ?_;conv=>whnf)|fail)
 all_goals (refine An A0 rfl rfl ⟨?_,trivial⟩;(conv=>whnf);refine A6 vb ?_;simp_all [Lc])
theorem B9p (x:Ae)(e:Int)(h:x.w≤16777216):Di 274 [.agg x.c,.one (vi e)] [.one (vi (A9c x e))]:=by
 simp only [Ae.w] at h;have h1:=O4 x.ar e;have h2:=O4 x.aa e;refine E7 Tryz.func274 fun W=>?_
 first|(refine Aj 1 rfl [0,1,2,5,6,7,3,4,8,9,10,11] Am (Ah ?_))
 refine Fp (Vu x.ar e A7) ?_;refine Aq (Vu x.aa e A7) rfl (Em ?_);exact An A0 rfl rfl ⟨A6 vi (by simp only [A9c];omega),trivial⟩
theorem A97 (x:Ae)(e:Int)(hx:x.w≤16777216):Di 234 [.agg x.c,.one (vi e)] [.one (vb (Lc x e))]:=by
 refine E7 Tryz.func234 fun W=>?_;refine Fp (B9n x e hx) ?_
 repeat' (first|(refine Ho ?_;conv=>whnf)|(refine Hp ?_;conv=>whnf)|(refine ⟨fun h=>?_,fun h=>?_⟩<;>conv=>whnf)|(refine Gn ?_;conv=>whnf)|fail)
 all_goals first
  |(refine Aq (B9p x e hx) rfl (Ah ?_))
  |(refine An A0 rfl rfl ⟨?_,trivial⟩;(conv=>whnf);refine A6 vb ?_;simp_all [Lc];done)
 repeat' (first|(refine Ho ?_;conv=>whnf)|(refine Hp ?_;conv=>whnf)|(refine ⟨fun h=>?_,fun h=>?_⟩<;>conv=>whnf)|(refine Gn ?_;conv=>whnf)|fail)
 all_goals (refine An A0 rfl rfl ⟨?_,trivial⟩;(conv=>whnf);refine A6 vb ?_;simp_all [Lc])
end Go.Proofs.YtmhcebdkjgkmlaaGreatDoor
