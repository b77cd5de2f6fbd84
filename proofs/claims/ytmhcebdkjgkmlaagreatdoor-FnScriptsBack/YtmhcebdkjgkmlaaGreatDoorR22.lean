/- Part 22 of the proof that each of the laws FnScriptsBack returns true for every input. No conditions. -/
import Derived.Test.YtmhcebdkjgkmlaaGreatDoorR9
import Derived.Test.YtmhcebdkjgkmlaaGreatDoorR11

set_option linter.unusedSimpArgs false
set_option linter.unusedVariables false
set_option maxRecDepth 100000
namespace Go.Proofs.YtmhcebdkjgkmlaaGreatDoor
open Go.Sx
def Ce (g:Ax):ByteArray:=if Eh g then (⟨#[103,114,97,112,104,32]⟩:ByteArray)++Gf g.aq++(⟨#[32]⟩:ByteArray)++Gf g.cap else (⟨#[]⟩:ByteArray)
theorem A9d (g:Ax)(o:g.ok)(hg:g.w≤1048576):Df 64 [.agg g.c] [.one (vs (Ce g))]:=by
 have d1:=Cl o.2.1;have d2:=Cl o.2.2;refine Dy Tryz.func64 fun W=>?_
 repeat' (first|(refine Gy ?_;conv=>whnf)|(refine Gz ?_;conv=>whnf)|(refine ⟨fun h=>?_,fun h=>?_⟩<;>conv=>whnf)|(refine Ao (Mn g A7) rfl (I7 ?_);conv=>whnf)|(refine Ao (Ga _ o.2.1) rfl (Ag ?_))|(refine Ao (Ga _ o.2.2) rfl (Ag ?_))|(refine D6 ?_;conv=>whnf)|(refine Ae 3 rfl [0,1,5,6,2,3,4,7,8,9] Ak (Ag ?_))|fail)
 all_goals (refine Af A0 rfl rfl ⟨A6 vs ?_,trivial⟩;simp_all [Ce])
theorem A8v (g:Ax)(o:g.ok)(hg:g.w≤1048576):Ex Tryz.prog Tab 55 [.agg g.c] [.one (vs (Ce g))]:=by
 have d1:=Cl o.2.1;have d2:=Cl o.2.2;refine Kq A0 false Tryz.func55 rfl Bk fun W hW=>?_;conv=>whnf
 repeat' (first|(refine Gy ?_;conv=>whnf)|(refine Gz ?_;conv=>whnf)|(refine ⟨fun h=>?_,fun h=>?_⟩<;>conv=>whnf)|(refine Ao (Je g A7) rfl (I7 ?_);conv=>whnf)|(refine F4 (G8 _ o.2.1) C6 hW rfl (Ag ?_))|(refine F4 (G8 _ o.2.2) C6 hW rfl (Ag ?_))|(refine D6 ?_;conv=>whnf)|(refine Ae 3 rfl [0,1,5,6,2,3,4,7,8,9] Ak (Ag ?_))|fail)
 all_goals (refine Af A0 rfl rfl ⟨A6 vs ?_,trivial⟩;simp_all [Ce])
def Aw (s:B5):List ByteArray:=[Ce s.az]++s.az.ay.map Be++s.ap.map B8++s.an.map Bs++(if s.aa>0 then [(⟨#[102,97,105,114,32]⟩:ByteArray)++Gf s.aa] else [])
theorem Us (x:B5)(ox:x.ok)(hx:x.w≤1048576):Df 26 [.agg x.c] [.one (En (Aw x))]:=by
 have hw:x.az.w+x.ap.length+x.an.length≤1048576:=hx;have hg:x.az.w≤1048576:=by omega
 have hn:=Ax.nodes_le hg;have dr:=Cl ox.2.2.2;refine Dy Tryz.func26 fun W=>?_
 repeat' (first|(refine Gy ?_;conv=>whnf)|(refine Gz ?_;conv=>whnf)|(refine ⟨fun h=>?_,fun h=>?_⟩<;>conv=>whnf)|(refine Ao (A9d x.az ox.1 hg) rfl (Ag ?_))|(refine D6 ?_;conv=>whnf)|fail)
 refine Fi 1 (En [Ce x.az]) rfl (Zj rfl) ?_;refine Fs [10] (fun k:Nat=>[(4,.c (vi k))]) (fun k=>[⟨0,[.c (Ay x.az.ay),.c (vi x.az.aq),.c (vi x.az.cap),.c (Aa x.ap),.c (Ch x.an),.c (vi x.aa)]⟩]) (fun k=>[⟨1,En ([Ce x.az]++(x.az.ay.take k).map Be)⟩]) (fun k=>k≤x.az.ay.length) (fun k=>x.az.ay.length-k) fun k hk=>?_;refine E3 (fun h'=>?_) fun h'=>?_
 ·have h':k<x.az.ay.length:=by omega
  have hwk:=Ax.node_le hg h';refine B6 ?_;refine Ao (A0z (x.az.ay.getD k default) (ox.1.1.2 _ (Am (d:=default) h')) hwk) rfl (Ag ?_);refine Bg A0 rfl (En ([Ce x.az]++(x.az.ay.take k).map Be++[Be (x.az.ay.getD k default)])) (An rfl) Ij P4 (F1 ?_);refine Co [(1,3)] (k+1) A7 A7 ⟨rfl,trivial⟩ ⟨A6 En (by rw [Ol _ _ _ h',Ci]),trivial⟩
 have e1:k=x.az.ay.length:=by omega
 refine Fs [] (fun j:Nat=>[(5,.c (vi j))]) (fun j=>[⟨0,[.c (Ay x.az.ay),.c (vi x.az.aq),.c (vi x.az.cap),.c (Aa x.ap),.c (Ch x.an),.c (vi x.aa)]⟩]) (fun j=>[⟨1,En ([Ce x.az]++(x.az.ay.take k).map Be++(x.ap.take j).map B8)⟩]) (fun j=>j≤x.ap.length) (fun j=>x.ap.length-j) fun j hj=>?_;refine E3 (fun h2=>?_) fun h2=>?_
 ·have h2:j<x.ap.length:=by omega
  refine B6 ?_;refine Ao (Y9 (x.ap.getD j default) (ox.2.1.2 _ (Am (d:=default) h2))) rfl (Ag ?_);refine Bg A0 rfl (En ([Ce x.az]++(x.az.ay.take k).map Be++(x.ap.take j).map B8++[B8 (x.ap.getD j default)])) (An rfl) Ij P4 (F1 ?_);refine Co [(1,3)] (j+1) A7 A7 ⟨rfl,trivial⟩ ⟨A6 En (by rw [Ol _ _ _ h2];simp only [Ci]),trivial⟩
 have e2:j=x.ap.length:=by omega
 refine Fs [] (fun i:Nat=>[(6,.c (vi i))]) (fun i=>[⟨0,[.c (Ay x.az.ay),.c (vi x.az.aq),.c (vi x.az.cap),.c (Aa x.ap),.c (Ch x.an),.c (vi x.aa)]⟩]) (fun i=>[⟨1,En ([Ce x.az]++(x.az.ay.take k).map Be++(x.ap.take j).map B8++(x.an.take i).map Bs)⟩]) (fun i=>i≤x.an.length) (fun i=>x.an.length-i) fun i hi=>?_;refine E3 (fun h3=>?_) fun h3=>?_
 ·have h3:i<x.an.length:=by omega
  refine B6 ?_;refine Ao (U7 (x.an.getD i default) (ox.2.2.1.2 _ (Am (d:=default) h3))) rfl (Ag ?_);refine Bg A0 rfl (En ([Ce x.az]++(x.az.ay.take k).map Be++(x.ap.take j).map B8++(x.an.take i).map Bs++[Bs (x.an.getD i default)])) (An rfl) Ij P4 (F1 ?_);refine Co [(1,3)] (i+1) A7 A7 ⟨rfl,trivial⟩ ⟨A6 En (by rw [Ol _ _ _ h3];simp only [Ci]),trivial⟩
 have e3:i=x.an.length:=by omega
 have hT:[Ce x.az]++(x.az.ay.take k).map Be++(x.ap.take j).map B8++(x.an.take i).map Bs=[Ce x.az]++x.az.ay.map Be++x.ap.map B8++x.an.map Bs:=by
  rw [e1,e2,e3,H5,H5,H5]
 refine C2 (fun hr=>?_) fun hr=>?_
 ·have hr:x.aa>0:=Bp hr
  refine Ao (Ga x.aa ox.2.2.2) rfl (F1 ?_);refine Bg A0 rfl (En ([Ce x.az]++(x.az.ay.take k).map Be++(x.ap.take j).map B8++(x.an.take i).map Bs++[(⟨#[102,97,105,114,32]⟩:ByteArray)++Gf x.aa])) (An rfl) Ij P4 (Ag ?_);refine Af A0 rfl rfl ⟨?_,trivial⟩;exact A6 En (by rw [hT,Aw,Ah hr])
 have hr:¬ x.aa>0:=Cy hr;refine Af A0 rfl rfl ⟨?_,trivial⟩;exact A6 En (by rw [hT,Aw,Ab hr,Gw])
theorem A3p (x:B5)(ox:x.ok)(hx:x.w≤1048576):Ex Tryz.prog Tab 22 [.agg x.c] [.one (En (Aw x))]:=by
 have hw:x.az.w+x.ap.length+x.an.length≤1048576:=hx;have hg:x.az.w≤1048576:=by omega
 have hn:=Ax.nodes_le hg;have dr:=Cl ox.2.2.2;refine Kq A0 false Tryz.func22 rfl Bk fun W hW=>?_;conv=>whnf
 repeat' (first|(refine Gy ?_;conv=>whnf)|(refine Gz ?_;conv=>whnf)|(refine ⟨fun h=>?_,fun h=>?_⟩<;>conv=>whnf)|(refine F4 (A8v x.az ox.1 hg) C6 hW rfl (Ag ?_))|(refine D6 ?_;conv=>whnf)|fail)
 refine Fi 1 (En [Ce x.az]) rfl (Zj rfl) ?_;refine Fs [13] (fun k:Nat=>[(18,.c (vi k))]) (fun k=>[⟨0,[.c (Ay x.az.ay),.c (vi x.az.aq),.c (vi x.az.cap),.c (Aa x.ap),.c (Ch x.an),.c (vi x.aa)]⟩]) (fun k=>[⟨1,En ([Ce x.az]++(x.az.ay.take k).map Be)⟩]) (fun k=>k≤x.az.ay.length) (fun k=>x.az.ay.length-k) fun k hk=>?_;refine E3 (fun h'=>?_) fun h'=>?_
 ·have h':k<x.az.ay.length:=by omega
  have hwk:=Ax.node_le hg h';refine B6 ?_;refine F4 (A0d (x.az.ay.getD k default) (ox.1.1.2 _ (Am (d:=default) h')) hwk) C6 hW rfl (Ag ?_);refine Bg A0 rfl (En ([Ce x.az]++(x.az.ay.take k).map Be++[Be (x.az.ay.getD k default)])) (An rfl) Ij P4 (F1 ?_);refine Co [(1,4)] (k+1) A7 A7 ⟨rfl,trivial⟩ ⟨A6 En (by rw [Ol _ _ _ h',Ci]),trivial⟩
 have e1:k=x.az.ay.length:=by omega
 refine Fs [] (fun j:Nat=>[(31,.c (vi j))]) (fun j=>[⟨0,[.c (Ay x.az.ay),.c (vi x.az.aq),.c (vi x.az.cap),.c (Aa x.ap),.c (Ch x.an),.c (vi x.aa)]⟩]) (fun j=>[⟨1,En ([Ce x.az]++(x.az.ay.take k).map Be++(x.ap.take j).map B8)⟩]) (fun j=>j≤x.ap.length) (fun j=>x.ap.length-j) fun j hj=>?_;refine E3 (fun h2=>?_) fun h2=>?_
 ·have h2:j<x.ap.length:=by omega
  refine B6 ?_;refine F4 (Xq (x.ap.getD j default) (ox.2.1.2 _ (Am (d:=default) h2))) C6 hW rfl (Ag ?_);refine Bg A0 rfl (En ([Ce x.az]++(x.az.ay.take k).map Be++(x.ap.take j).map B8++[B8 (x.ap.getD j default)])) (An rfl) Ij P4 (F1 ?_);refine Co [(1,4)] (j+1) A7 A7 ⟨rfl,trivial⟩ ⟨A6 En (by rw [Ol _ _ _ h2];simp only [Ci]),trivial⟩
 have e2:j=x.ap.length:=by omega
 refine Fs [] (fun i:Nat=>[(44,.c (vi i))]) (fun i=>[⟨0,[.c (Ay x.az.ay),.c (vi x.az.aq),.c (vi x.az.cap),.c (Aa x.ap),.c (Ch x.an),.c (vi x.aa)]⟩]) (fun i=>[⟨1,En ([Ce x.az]++(x.az.ay.take k).map Be++(x.ap.take j).map B8++(x.an.take i).map Bs)⟩]) (fun i=>i≤x.an.length) (fun i=>x.an.length-i) fun i hi=>?_;refine E3 (fun h3=>?_) fun h3=>?_
 ·have h3:i<x.an.length:=by omega
  refine B6 ?_;refine F4 (Ts (x.an.getD i default) (ox.2.2.1.2 _ (Am (d:=default) h3))) C6 hW rfl (Ag ?_);refine Bg A0 rfl (En ([Ce x.az]++(x.az.ay.take k).map Be++(x.ap.take j).map B8++(x.an.take i).map Bs++[Bs (x.an.getD i default)])) (An rfl) Ij P4 (F1 ?_);refine Co [(1,4)] (i+1) A7 A7 ⟨rfl,trivial⟩ ⟨A6 En (by rw [Ol _ _ _ h3];simp only [Ci]),trivial⟩
 have e3:i=x.an.length:=by omega
 have hT:[Ce x.az]++(x.az.ay.take k).map Be++(x.ap.take j).map B8++(x.an.take i).map Bs=[Ce x.az]++x.az.ay.map Be++x.ap.map B8++x.an.map Bs:=by
  rw [e1,e2,e3,H5,H5,H5]
 refine C2 (fun hr=>?_) fun hr=>?_
 ·have hr:x.aa>0:=Bp hr
  refine F4 (G8 x.aa ox.2.2.2) C6 hW rfl (F1 ?_);refine Bg A0 rfl (En ([Ce x.az]++(x.az.ay.take k).map Be++(x.ap.take j).map B8++(x.an.take i).map Bs++[(⟨#[102,97,105,114,32]⟩:ByteArray)++Gf x.aa])) (An rfl) Ij P4 (Ag ?_);refine Af A0 rfl rfl ⟨?_,trivial⟩;exact A6 En (by rw [hT,Aw,Ah hr])
 have hr:¬ x.aa>0:=Cy hr;refine Af A0 rfl rfl ⟨?_,trivial⟩;exact A6 En (by rw [hT,Aw,Ab hr,Gw])
end Go.Proofs.YtmhcebdkjgkmlaaGreatDoor
