/- Part 8 of the proof that each of the laws FnScriptsBack returns true for every input. No conditions. -/
import Derived.Test.YtmhcebdkjgkmlaaGreatDoorR7

set_option linter.unusedSimpArgs false
set_option linter.unusedVariables false
set_option maxRecDepth 100000
namespace Go.Proofs.YtmhcebdkjgkmlaaGreatDoor
open Go.Sx
def T9 (l:List Al):Prop:=∀i,i<l.length-1→Mx (l.getD i default) (l.getD (i+1) default)<0
instance (l:List Al):Decidable (T9 l):=by unfold T9;infer_instance
def Wv (l:List Al):Bool:=decide (T9 l)
theorem B4d (l:List Al)(hl:l.length≤16777216):Df 305 [.one (As l)] [.one (vb (Wv l))]:=by
 refine Dy Tryz.func305 fun W=>?_;refine zlW [] (fun j:Nat=>[(3,.c (vi ((j:Int)+1)))]) (fun j=>[]) (fun j=>[]) (fun j=>j≤l.length∧Mv (fun i=>Mx (l.getD i default) (l.getD (i+1) default)<0) j) (fun j=>l.length-j) (0) (⟨Ff _,Dm _⟩) fun j hj=>?_;obtain ⟨hj,he⟩:=hj;refine E3 (fun h=>?_) fun h=>?_
 ·have h:j+1<l.length:=by omega
  have e1:((j:Int)+1-1).toNat=j:=by omega
  have e2:((j:Int)+1).toNat=j+1:=by omega
  refine B6 ?_
  first|(refine Ae 4 rfl [0,1,2,3,4,5,6,7,8,9,10] Ak (Ag ?_))
  refine B6 ?_;refine Fh (Xp (l.getD ((j:Int)+1-1).toNat default) (l.getD ((j:Int)+1).toNat default)) ?_;refine E3 (fun h2=>?_) fun h2=>?_
  all_goals rw [e1,e2] at h2
  ·exact Af A0 rfl rfl ⟨A6 vb (Cx fun p=>by have:=p j A7;omega),trivial⟩
  refine B6 ?_;refine Co [] (j+1) (⟨by omega,Dl he A7⟩) A7 ⟨rfl,trivial⟩ trivial
 exact Af A0 rfl rfl ⟨A6 vb (D7 fun i hi=>he i A7),trivial⟩
theorem B51 (l:List Al)(hl:l.length≤16777216):Df 258 [.one (As l)] [.one (vb (Wv l))]:=by
 refine Dy Tryz.func258 fun W=>?_;refine zlW [] (fun j:Nat=>[(3,.c (vi ((j:Int)+1)))]) (fun j=>[]) (fun j=>[]) (fun j=>j≤l.length∧Mv (fun i=>Mx (l.getD i default) (l.getD (i+1) default)<0) j) (fun j=>l.length-j) (0) (⟨Ff _,Dm _⟩) fun j hj=>?_;obtain ⟨hj,he⟩:=hj;refine E3 (fun h=>?_) fun h=>?_
 ·have h:j+1<l.length:=by omega
  have e1:((j:Int)+1-1).toNat=j:=by omega
  have e2:((j:Int)+1).toNat=j+1:=by omega
  refine B6 ?_
  first|(refine Ae 4 rfl [0,1,2,3,4,5,6,7,8,9,10] Ak (Ag ?_))
  refine B6 ?_;refine Fh (Y8 (l.getD ((j:Int)+1-1).toNat default) (l.getD ((j:Int)+1).toNat default)) ?_;refine E3 (fun h2=>?_) fun h2=>?_
  all_goals rw [e1,e2] at h2
  ·exact Af A0 rfl rfl ⟨A6 vb (Cx fun p=>by have:=p j A7;omega),trivial⟩
  refine B6 ?_;refine Co [] (j+1) (⟨by omega,Dl he A7⟩) A7 ⟨rfl,trivial⟩ trivial
 exact Af A0 rfl rfl ⟨A6 vb (D7 fun i hi=>he i A7),trivial⟩
def A07 (n:Nat) (l:List A9):Prop:=∀r∈l,H8 r∧r.op<n
instance (n:Nat) (l:List A9):Decidable (A07 n l):=by unfold A07;infer_instance
def Xy (n:Nat) (l:List A9):Bool:=decide (A07 n l)
theorem Yn (g:Ax)(k:Int)(hg:g.w≤16777216):Df 217 [.agg g.c,.one (vi k)] [.one (vb (F0 k 0 (g.ay.length-1)))]:=by
 have hn:=Ax.nodes_le hg;refine Dy Tryz.func217 fun W=>?_;refine B6 ?_;refine Fh (Hw k 0 (g.ay.length-1)) ?_;exact Af A0 rfl rfl ⟨rfl,trivial⟩
theorem Kx {r:A9}:F2 r=true↔H8 r:=decide_eq_true_iff
theorem X1 (g:Ax)(l:List A9)(hg:g.w≤16777216)(hl:l.length≤16777216):Df 272 [.agg g.c,.one (Aa l)] [.one (vb (Xy g.ay.length l))]:=by
 have hu:=Dm (fun i=>H8 (l.getD i default)∧(l.getD i default).op<g.ay.length);have hn:=Ax.nodes_le hg;refine Dy Tryz.func272 fun W=>?_;refine Fs [] (fun k:Nat=>[(9,.c (vi k))]) (fun k=>[⟨0,[.c (Ay g.ay),.c (vi g.aq),.c (vi g.cap)]⟩]) (fun k=>[]) (fun k=>k≤l.length∧Mv (fun i=>H8 (l.getD i default)∧(l.getD i default).op<g.ay.length) k) (fun k=>l.length-k) fun k hk=>?_;obtain ⟨hk,he⟩:=hk;refine E3 (fun h'=>?_) fun h'=>?_
 ·have h':k<l.length:=by omega
  repeat' (first|(refine Gy ?_;conv=>whnf)|(refine Gz ?_;conv=>whnf)|(refine ⟨fun h=>?_,fun h=>?_⟩<;>conv=>whnf)|(refine Ao (Ik (l.getD k default)) rfl (I7 ?_);conv=>whnf)|(refine Ao (Yn g _ hg) rfl (Ag ?_))|(refine D6 ?_;conv=>whnf)|fail)
  all_goals try (refine Af A0 rfl rfl ⟨A6 vb (Cx fun p=>?_),trivial⟩;obtain ⟨p1,p2⟩:=p _ (Am (d:=default) h');first|(rw [Kx.2 p1] at h;exact absurd h Bk)|(have p3:=p1.1;clear he hu;simp only [Es] at * <;>omega))
  all_goals
   have hp:H8 (l.getD k default):=Kx.1 (by first|(simpa using h)|(rename_i q _;simpa using q)|(rename_i q;simpa using q));refine Co [] (k+1) ⟨by omega,Dl he ⟨hp,by clear he hu hp;simp only [Es] at * <;>omega⟩⟩ A7 ⟨rfl,trivial⟩ trivial
 have e:k=l.length:=by omega
 exact Af A0 rfl rfl ⟨A6 vb (D7 (Io (p:=fun r=>H8 r∧r.op<g.ay.length) (e▸he))),trivial⟩
theorem Xa (g:Ax)(l:List A9)(hg:g.w≤16777216)(hl:l.length≤16777216):Df 213 [.agg g.c,.one (Aa l)] [.one (vb (Xy g.ay.length l))]:=by
 have hu:=Dm (fun i=>H8 (l.getD i default)∧(l.getD i default).op<g.ay.length);have hn:=Ax.nodes_le hg;refine Dy Tryz.func213 fun W=>?_;refine Fs [] (fun k:Nat=>[(5,.c (vi k))]) (fun k=>[⟨0,[.c (Ay g.ay),.c (vi g.aq),.c (vi g.cap)]⟩]) (fun k=>[]) (fun k=>k≤l.length∧Mv (fun i=>H8 (l.getD i default)∧(l.getD i default).op<g.ay.length) k) (fun k=>l.length-k) fun k hk=>?_;obtain ⟨hk,he⟩:=hk;refine E3 (fun h'=>?_) fun h'=>?_
 ·have h':k<l.length:=by omega
  repeat' (first|(refine Gy ?_;conv=>whnf)|(refine Gz ?_;conv=>whnf)|(refine ⟨fun h=>?_,fun h=>?_⟩<;>conv=>whnf)|(refine Ao (Jl (l.getD k default)) rfl (I7 ?_);conv=>whnf)|(refine Ao (Hm _ _ _) rfl (Ag ?_))|(refine D6 ?_;conv=>whnf)|(refine Ae 4 rfl [0,1,2,3,4,5,6,7,8,9,10,11,12,13,14,15,16] Ak (Ag ?_))|fail)
  all_goals try (refine Af A0 rfl rfl ⟨A6 vb (Cx fun p=>?_),trivial⟩;obtain ⟨p1,p2⟩:=p _ (Am (d:=default) h');first|(rw [Kx.2 p1] at h;exact absurd h Bk)|(have p3:=p1.1;clear he hu;simp only [Es] at * <;>omega))
  all_goals
   have hp:H8 (l.getD k default):=Kx.1 (by first|(simpa using h)|(rename_i q _;simpa using q)|(rename_i q;simpa using q));refine Co [] (k+1) ⟨by omega,Dl he ⟨hp,by clear he hu hp;simp only [Es] at * <;>omega⟩⟩ A7 ⟨rfl,trivial⟩ trivial
 have e:k=l.length:=by omega
 exact Af A0 rfl rfl ⟨A6 vb (D7 (Io (p:=fun r=>H8 r∧r.op<g.ay.length) (e▸he))),trivial⟩
def C3k (l:List A9):Prop:=∀r∈l,H8 r
instance (l:List A9):Decidable (C3k l):=by unfold C3k;infer_instance
theorem C16 (l:List A9)(hl:l.length≤16777216):Df 309 [.one (Aa l)] [.one (vb (decide (C3k l)))]:=by
 have hu:=Dm (fun i=>H8 (l.getD i default));refine Dy Tryz.func309 fun W=>?_;refine Fs [] (fun k:Nat=>[(7,.c (vi k))]) (fun k=>[]) (fun k=>[]) (fun k=>k≤l.length∧Mv (fun i=>H8 (l.getD i default)) k) (fun k=>l.length-k) fun k hk=>?_;obtain ⟨hk,he⟩:=hk;refine E3 (fun h'=>?_) fun h'=>?_
 ·have h':k<l.length:=by omega
  refine B6 ?_;refine Fh (Ik (l.getD k default)) ?_;refine C2 (fun h=>?_) fun h=>?_
  ·exact Af A0 rfl rfl ⟨A6 vb (Cx fun p=>by rw [Kx.2 (p _ (Am (d:=default) h'))] at h;exact absurd h Bk),trivial⟩
  refine B6 ?_;refine Co [] (k+1) ⟨by omega,Dl he (Kx.1 (by simpa using h))⟩ A7 ⟨rfl,trivial⟩ trivial
 have e:k=l.length:=by omega
 exact Af A0 rfl rfl ⟨A6 vb (D7 (Io (p:=H8) (e▸he))),trivial⟩
def A4e (l:D8):Prop:=(1≤l.cap∧l.cap≤4)∧(0≤l.bk∧l.bk≤l.cap)∧(0≤l.back∧l.back≤l.cap)∧l.bk+l.back+l.al.length=l.cap∧(0≤l.bv∧l.bv≤1000000000)∧0≤l.got∧l.bv-l.got=l.al.length
instance (l:D8):Decidable (A4e l):=by unfold A4e;infer_instance
def It (l:D8):Prop:=A4e l∧C3k l.al
instance (l:D8):Decidable (It l):=by unfold It;infer_instance
def Kd (l:D8):Bool:=decide (It l)
theorem Tp (l:D8)(hl:l.w≤16777216)(og2:l.got≤9223372036854775807):Df 271 [.agg l.c] [.one (vb (Kd l))]:=by
 have hq:l.al.length≤16777216:=hl;refine Dy Tryz.func271 fun W=>?_
 repeat' (first|(refine Gy ?_;conv=>whnf)|(refine Gz ?_;conv=>whnf)|(refine ⟨fun h=>?_,fun h=>?_⟩<;>conv=>whnf)|(refine Ao (Hw _ _ _) rfl (Ag ?_))|(refine Ao (C16 l.al hq) rfl (Ag ?_))|(refine D6 ?_;conv=>whnf)|fail)
 all_goals first
  |(refine Af A0 rfl rfl ⟨A6 vb (Cx fun p=>?_),trivial⟩;obtain ⟨⟨p1,p2,p3,p4,p5,p6,p7⟩,_⟩:=p;simp only [Es] at * <;>omega)
  |(refine Af A0 rfl rfl ⟨A6 vb (Um.2 ⟨fun p=>p.2,fun p=>⟨?_,p⟩⟩),trivial⟩;refine ⟨?_,?_,?_,?_,?_,?_,?_⟩<;>(simp only [Es] at * <;>omega))
theorem U6 (l:D8)(hl:l.w≤16777216):Df 212 [.agg l.c] [.one (vb (Kd l))]:=by
 have hq:l.al.length≤16777216:=hl;have hu:=Dm (fun i=>H8 (l.al.getD i default));refine Dy Tryz.func212 fun W=>?_;refine Fs [] (fun k:Nat=>[(3,.c (vi k))]) (fun k=>[⟨0,[.c (vi l.cap),.c (Aa l.al),.c (vi l.bk),.c (vi l.back),.c (vi l.bv),.c (vi l.got)]⟩]) (fun k=>[]) (fun k=>k≤l.al.length∧Mv (fun i=>H8 (l.al.getD i default)) k) (fun k=>l.al.length-k) fun k hk=>?_;obtain ⟨hk,he⟩:=hk;refine E3 (fun h'=>?_) fun h'=>?_
 ·have h':k<l.al.length:=by omega
  refine B6 ?_;refine Fh (Jl (l.al.getD k default)) ?_;refine C2 (fun h=>?_) fun h=>?_
  ·exact Af A0 rfl rfl ⟨A6 vb (Cx fun p=>by rw [Kx.2 (p.2 _ (Am (d:=default) h'))] at h;exact absurd h Bk),trivial⟩
  refine B6 ?_;refine Co [] (k+1) ⟨by omega,Dl he (Kx.1 (by simpa using h))⟩ A7 ⟨rfl,trivial⟩ trivial
 have e:k=l.al.length:=by omega
 have hA:C3k l.al:=Io (p:=H8) (e▸he)
 clear he hu
 repeat' (first|(refine Gy ?_;conv=>whnf)|(refine Gz ?_;conv=>whnf)|(refine ⟨fun h=>?_,fun h=>?_⟩<;>conv=>whnf)|(refine Ao (Hm _ _ _) rfl (Ag ?_))|(refine D6 ?_;conv=>whnf)|fail)
 all_goals first
  |(refine Af A0 rfl rfl ⟨A6 vb (Cx fun p=>?_),trivial⟩;obtain ⟨⟨p1,p2,p3,p4,p5,p6,p7⟩,_⟩:=p;clear hA;simp only [Es] at * <;>omega)
  |(refine Af A0 rfl rfl ⟨A6 vb (Um.2 ⟨fun p=>p.1.2.2.2.2.2.1,fun p=>⟨?_,hA⟩⟩),trivial⟩;clear hA;refine ⟨?_,?_,?_,?_,?_,?_,?_⟩<;>(simp only [Es] at * <;>omega))
theorem A3l (xs:List A9)(e:Int)(hx:xs.length≤16777216):Df 314 [.one (Aa xs),.one (vi e)] [.one (Aa (F6 xs e))]:=by
 refine Dy Tryz.func314 fun W=>?_;refine Fi 0 (Aa []) rfl Dx ?_;refine Fs [7] (fun k:Nat=>[(6,.c (vi k))]) (fun k=>[]) (fun k=>[⟨0,Aa (F6 (xs.take k) e)⟩]) (fun k=>k≤xs.length) (fun k=>xs.length-k) fun k hk=>?_;refine E3 (fun h=>?_) fun h=>?_
 ·have h:k<xs.length:=by omega
  have hs:=G5 (fun r=>r.af.am==e) xs k h;have hb:=G6 (fun r=>r.af.am==e) xs k;refine B6 ?_;refine C2 (fun hc=>?_) fun hc=>?_
  ·refine B6 ?_
   refine Bg A0 rfl (Aa (F6 (xs.take k) e++[xs.getD k default])) (An rfl) Ij (by show (List.filter _ _).length+1≤_;omega) (F1 ?_)
   refine Co [(0,2)] (k+1) A7 A7 ⟨rfl,trivial⟩ ⟨A6 Aa (by show _=List.filter _ _;rw [hs];exact A6 (fun l=>List.filter _ (xs.take k)++l) (Ah hc).symm),trivial⟩
  refine B6 ?_;refine Co [] (k+1) A7 A7 ⟨rfl,trivial⟩ ⟨A6 Aa (by show _=List.filter _ _;rw [hs];exact (Gw _).symm.trans (A6 (fun l=>List.filter _ (xs.take k)++l) (Ab (Wh.1 hc)).symm)),trivial⟩
 refine Af A0 rfl rfl ⟨?_,trivial⟩;exact A6 (fun l=>Aa (F6 l e)) (Bt xs k A7)
theorem Vj (xs:List A9)(e:Int)(hx:xs.length≤16777216):Df 118 [.one (Aa xs),.one (vi e)] [.one (Aa (F6 xs e))]:=by
 refine Dy Tryz.func118 fun W=>?_;refine A85 5 5 (fun i=>A9.c (([]:List A9).getD i default)) rfl ?_;refine Fs [] (fun k:Nat=>[(10,.c (vi k))]) (fun k=>[]) (fun k=>[⟨0,Aa (F6 (xs.take k) e)⟩]) (fun k=>k≤xs.length) (fun k=>xs.length-k) fun k hk=>?_;refine E3 (fun h=>?_) fun h=>?_
 ·have h:k<xs.length:=by omega
  have hs:=G5 (fun r=>r.af.am==e) xs k h;have hb:=G6 (fun r=>r.af.am==e) xs k;refine B6 ?_;refine C2 (fun hc=>?_) fun hc=>?_
  ·refine B6 ?_
   refine Bg A0 rfl (Aa (F6 (xs.take k) e++[xs.getD k default])) (An rfl) Ij (by show (List.filter _ _).length+1≤_;omega) (F1 ?_)
   refine Co [(0,3)] (k+1) A7 A7 ⟨rfl,trivial⟩ ⟨A6 Aa (by show _=List.filter _ _;rw [hs];exact A6 (fun l=>List.filter _ (xs.take k)++l) (Ah hc).symm),trivial⟩
  refine B6 ?_;refine Co [] (k+1) A7 A7 ⟨rfl,trivial⟩ ⟨A6 Aa (by show _=List.filter _ _;rw [hs];exact (Gw _).symm.trans (A6 (fun l=>List.filter _ (xs.take k)++l) (Ab (Wh.1 hc)).symm)),trivial⟩
 refine Af A0 rfl rfl ⟨?_,trivial⟩;exact A6 (fun l=>Aa (F6 l e)) (Bt xs k A7)
theorem B7l (xs:List A9)(hx:xs.length≤16777216)(f:Nat)(cs:List Ad)(p:A9→Bool)(hf:∀x∈xs,Df f [.agg x.c,.ptr cs] [.one (vb (p x))]):
  Df 326 [.one (Aa xs),.fn f [.ptr cs]] [.one (vi (Pf p xs))]:=by
 refine Dy Tryz.func326 fun W=>?_;refine Fs [] (fun k:Nat=>[(8,.c (vi k))]) (fun k=>[]) (fun k=>[]) (fun k=>k≤xs.length∧(xs.take k).any p=false) (fun k=>xs.length-k) fun k hk=>?_;obtain ⟨hk,he⟩:=hk;refine E3 (fun h=>?_) fun h=>?_
 ·have h:k<xs.length:=by omega
  refine B6 ?_;refine Fh (hf (xs.getD k default) (Am h)) ?_;refine C2 (fun hc=>?_) fun hc=>?_
  ·exact Af A0 rfl rfl ⟨A6 vi (Sm p xs k he h hc),trivial⟩
  refine B6 ?_;refine Co [] (k+1) ⟨by omega,Gq he h hc⟩ A7 ⟨rfl,trivial⟩ trivial
 exact Af A0 rfl rfl ⟨A6 vi (M9 p xs (by rw [Bt xs k A7] at he;exact he)),trivial⟩
theorem B3t (xs:List A9)(hx:xs.length≤16777216)(f:Nat)(cs:List Ad)(p:A9→Bool)(hf:∀x∈xs,Df f [.agg x.c,.ptr cs] [.one (vb (p x))]):
  Df 310 [.one (Aa xs),.fn f [.ptr cs]] [.one (vb (xs.any p))]:=by
 refine Dy Tryz.func310 fun W=>?_;refine Fh (B7l xs hx f cs p hf) ?_;exact Af A0 rfl rfl ⟨A6 vb (A1f p xs).symm,trivial⟩
theorem C5l (xs:List Ih)(hx:xs.length≤16777216)(f:Nat)(cs:List Ad)(p:Ih→Bool)(hf:∀x∈xs,Df f [.agg x.c,.ptr cs] [.one (vb (p x))]):
  Df 208 [.one (Hy xs),.fn f [.ptr cs]] [.one (vi (Pf p xs))]:=by
 refine Dy Tryz.func208 fun W=>?_;refine Fs [] (fun k:Nat=>[(8,.c (vi k))]) (fun k=>[]) (fun k=>[]) (fun k=>k≤xs.length∧(xs.take k).any p=false) (fun k=>xs.length-k) fun k hk=>?_;obtain ⟨hk,he⟩:=hk;refine E3 (fun h=>?_) fun h=>?_
 ·have h:k<xs.length:=by omega
  refine B6 ?_;refine Fh (hf (xs.getD k default) (Am h)) ?_;refine C2 (fun hc=>?_) fun hc=>?_
  ·exact Af A0 rfl rfl ⟨A6 vi (Sm p xs k he h hc),trivial⟩
  refine B6 ?_;refine Co [] (k+1) ⟨by omega,Gq he h hc⟩ A7 ⟨rfl,trivial⟩ trivial
 exact Af A0 rfl rfl ⟨A6 vi (M9 p xs (by rw [Bt xs k A7] at he;exact he)),trivial⟩
theorem C1i (xs:List Ih)(hx:xs.length≤16777216)(f:Nat)(cs:List Ad)(p:Ih→Bool)(hf:∀x∈xs,Df f [.agg x.c,.ptr cs] [.one (vb (p x))]):
  Df 154 [.one (Hy xs),.fn f [.ptr cs]] [.one (vb (xs.any p))]:=by
 refine Dy Tryz.func154 fun W=>?_;refine Fh (C5l xs hx f cs p hf) ?_;exact Af A0 rfl rfl ⟨A6 vb (A1f p xs).symm,trivial⟩
theorem D2g (x:A9)(e:Int):Df 311 [.agg x.c,.ptr [vi e]] [.one (vb (decide (x.af.am≤e)))]:=by
 refine Dy Tryz.func311 fun W=>?_;exact Af A0 rfl rfl ⟨rfl,trivial⟩
theorem D12 (x:Ih)(e:Int):Df 155 [.agg x.c,.ptr [vi e]] [.one (vb (x.am==e))]:=by
 refine Dy Tryz.func155 fun W=>?_;exact Af A0 rfl rfl ⟨rfl,trivial⟩
theorem B7p (x:Aj)(e:Int)(h:x.w≤16777216):Df 273 [.agg x.c,.one (vi e)] [.one (vb (B71 x e))]:=by
 refine Dy Tryz.func273 fun W=>?_;refine Ao (B3t x.ap (by simp only [Aj.w] at h;omega) _ [vi e] (fun r=>decide (r.af.am≤e)) (fun r _=>D2g r e)) rfl (Ag ?_);exact Af A0 rfl rfl ⟨rfl,trivial⟩
theorem B8m (x:Aj)(e:Int)(h:x.w≤16777216):Df 279 [.agg x.c,.one (vi e)] [.one (vb (B71 x e))]:=by
 have hl:x.ap.length≤16777216:=by simp only [Aj.w] at h;omega
 refine Dy Tryz.func279 fun W=>?_;refine Fs [] (fun k:Nat=>[(5,.c (vi k))]) (fun k=>[⟨0,[.c (Aa x.al),.c (Aa x.bq),.c (Aa x.ap),.c (As x.cells),.c (De x.ai),.c (Dz x.ah),.c (Dz x.ao),.c (Hy x.bz)]⟩]) (fun k=>[]) (fun k=>k≤x.ap.length∧(x.ap.take k).any (fun r=>decide (r.af.am≤e))=false) (fun k=>x.ap.length-k) fun k hk=>?_;obtain ⟨hk,he⟩:=hk;refine E3 (fun h=>?_) fun h=>?_
 ·have h:k<x.ap.length:=by omega
  refine B6 ?_;refine C2 (fun hc=>?_) fun hc=>?_
  ·exact Af A0 rfl rfl ⟨A6 vb (R8 h hc),trivial⟩
  refine B6 ?_;refine Co [] (k+1) ⟨by omega,Gq he h hc⟩ A7 ⟨rfl,trivial⟩ trivial
 exact Af A0 rfl rfl ⟨A6 vb (by rw [Bt x.ap k A7] at he;exact he),trivial⟩
theorem A5s (xs:List Ih)(e:Int)(h:xs.length≤16777216):Df 95 [.one (Hy xs),.one (vi e)] [.one (vb (xs.any fun d=>d.am==e))]:=by
 refine Dy Tryz.func95 fun W=>?_;refine Ao (C1i xs h _ [vi e] (fun d=>d.am==e) (fun d _=>D12 d e)) rfl (Ag ?_);exact Af A0 rfl rfl ⟨rfl,trivial⟩
theorem A5u (x:Aj)(e:Int)(h:x.w≤16777216):Df 46 [.agg x.c,.one (vi e)] [.one (vb (Lh x e))]:=by
 refine Dy Tryz.func46 fun W=>?_;refine Fh (A5s x.bz e (by simp only [Aj.w] at h;omega)) ?_;exact Af A0 rfl rfl ⟨rfl,trivial⟩
theorem A7j (x:Aj)(e:Int)(h:x.w≤16777216):Df 42 [.agg x.c,.one (vi e)] [.one (vb (Lh x e))]:=by
 have hl:x.bz.length≤16777216:=by simp only [Aj.w] at h;omega
 refine Dy Tryz.func42 fun W=>?_;refine Fs [] (fun k:Nat=>[(5,.c (vi k))]) (fun k=>[⟨0,[.c (Aa x.al),.c (Aa x.bq),.c (Aa x.ap),.c (As x.cells),.c (De x.ai),.c (Dz x.ah),.c (Dz x.ao),.c (Hy x.bz)]⟩]) (fun k=>[]) (fun k=>k≤x.bz.length∧(x.bz.take k).any (fun d=>d.am==e)=false) (fun k=>x.bz.length-k) fun k hk=>?_;obtain ⟨hk,he⟩:=hk;refine E3 (fun h=>?_) fun h=>?_
 ·have h:k<x.bz.length:=by omega
  refine B6 ?_;refine C2 (fun hc=>?_) fun hc=>?_
  ·exact Af A0 rfl rfl ⟨A6 vb (R8 h hc),trivial⟩
  refine B6 ?_;refine Co [] (k+1) ⟨by omega,Gq he h hc⟩ A7 ⟨rfl,trivial⟩ trivial
 exact Af A0 rfl rfl ⟨A6 vb (by rw [Bt x.bz k A7] at he;exact he),trivial⟩
theorem B8o (x:Aj)(e:Int)(h:x.w≤16777216):Df 280 [.agg x.c,.one (vi e)] [.one (vi (A7y x e))]:=by
 simp only [Aj.w] at h;have h1:=O0 x.al e;have h2:=O0 x.bq e;refine Dy Tryz.func280 fun W=>?_
 first|(refine Ae 1 rfl [0,1,2,5,6,7,3,4,8,9,10,11] Ak (Ag ?_))
 refine Fh (A3l x.al e A7) ?_;refine Ao (A3l x.bq e A7) rfl (F1 ?_);exact Af A0 rfl rfl ⟨A6 vi (by simp only [A7y];omega),trivial⟩
theorem A9e (x:Aj)(e:Int)(hx:x.w≤16777216):Df 247 [.agg x.c,.one (vi e)] [.one (vb (L8 x e))]:=by
 refine Dy Tryz.func247 fun W=>?_;refine Fh (B8m x e hx) ?_
 repeat' (first|(refine Gy ?_;conv=>whnf)|(refine Gz ?_;conv=>whnf)|(refine ⟨fun h=>?_,fun h=>?_⟩<;>conv=>whnf)|(refine Ew ?_;conv=>whnf)|fail)
 all_goals first
  |(refine Ao (B8o x e hx) rfl (Ag ?_))
  |(refine Af A0 rfl rfl ⟨?_,trivial⟩;(conv=>whnf);refine A6 vb ?_;simp_all [L8];done)
 repeat' (first|(refine Gy ?_;conv=>whnf)|(refine Gz ?_;conv=>whnf)|(refine ⟨fun h=>?_,fun h=>?_⟩<;>conv=>whnf)|(refine Ew ?_;conv=>whnf)|fail)
 all_goals (refine Af A0 rfl rfl ⟨?_,trivial⟩;(conv=>whnf);refine A6 vb ?_;simp_all [L8])
theorem B7r (x:Aj)(e:Int)(h:x.w≤16777216):Df 274 [.agg x.c,.one (vi e)] [.one (vi (A7y x e))]:=by
 simp only [Aj.w] at h;have h1:=O0 x.al e;have h2:=O0 x.bq e;refine Dy Tryz.func274 fun W=>?_
 first|(refine Ae 1 rfl [0,1,2,5,6,7,3,4,8,9,10,11] Ak (Ag ?_))
 refine Fh (Vj x.al e A7) ?_;refine Ao (Vj x.bq e A7) rfl (F1 ?_);exact Af A0 rfl rfl ⟨A6 vi (by simp only [A7y];omega),trivial⟩
theorem A8x (x:Aj)(e:Int)(hx:x.w≤16777216):Df 234 [.agg x.c,.one (vi e)] [.one (vb (L8 x e))]:=by
 refine Dy Tryz.func234 fun W=>?_;refine Fh (B7p x e hx) ?_
 repeat' (first|(refine Gy ?_;conv=>whnf)|(refine Gz ?_;conv=>whnf)|(refine ⟨fun h=>?_,fun h=>?_⟩<;>conv=>whnf)|(refine Ew ?_;conv=>whnf)|fail)
 all_goals first
  |(refine Ao (B7r x e hx) rfl (Ag ?_))
  |(refine Af A0 rfl rfl ⟨?_,trivial⟩;(conv=>whnf);refine A6 vb ?_;simp_all [L8];done)
 repeat' (first|(refine Gy ?_;conv=>whnf)|(refine Gz ?_;conv=>whnf)|(refine ⟨fun h=>?_,fun h=>?_⟩<;>conv=>whnf)|(refine Ew ?_;conv=>whnf)|fail)
 all_goals (refine Af A0 rfl rfl ⟨?_,trivial⟩;(conv=>whnf);refine A6 vb ?_;simp_all [L8])
theorem A7o (x:A3)(e:Int)(h:x.w≤16777216):Df 246 [.agg x.c,.one (vi e)] [.one (vb (Qr x e))]:=by
 have hl:=A3.workers_le h;refine Dy Tryz.func246 fun W=>?_;refine E3 (fun h0=>?_) fun h0=>?_
 ·have hw:=Go.Sx.A3.worker_le h (show 0<x.aq.length by omega)
  repeat' (first|(refine Gy ?_;conv=>whnf)|(refine Gz ?_;conv=>whnf)|(refine ⟨fun h=>?_,fun h=>?_⟩<;>conv=>whnf)|(refine Ew ?_;conv=>whnf)|fail)
  refine Fh (A7j (x.aq.getD 0 default) e A7) ?_
  repeat' (first|(refine Gy ?_;conv=>whnf)|(refine Gz ?_;conv=>whnf)|(refine ⟨fun h=>?_,fun h=>?_⟩<;>conv=>whnf)|(refine Ew ?_;conv=>whnf)|fail)
  exact Af A0 rfl rfl ⟨A6 vb (by rw [Qr,Ah A7]),trivial⟩
 repeat' (first|(refine Gy ?_;conv=>whnf)|(refine Gz ?_;conv=>whnf)|(refine ⟨fun h=>?_,fun h=>?_⟩<;>conv=>whnf)|(refine Ew ?_;conv=>whnf)|fail)
 exact Af A0 rfl rfl ⟨A6 vb (by rw [Qr,Ab A7]),trivial⟩
end Go.Proofs.YtmhcebdkjgkmlaaGreatDoor
