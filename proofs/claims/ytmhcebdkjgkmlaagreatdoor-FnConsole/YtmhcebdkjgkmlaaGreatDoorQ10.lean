/- Part 10 of the proof that each of the laws FnConsole returns true for every input. No conditions. -/
import Derived.Test.YtmhcebdkjgkmlaaGreatDoorQ9

set_option linter.unusedSimpArgs false
set_option linter.unusedVariables false
set_option maxRecDepth 100000
namespace Go.Proofs.YtmhcebdkjgkmlaaGreatDoor
open Go.Sx
def C8 (k:Int):ByteArray:=if 1≤k∧k≤8 then ([(⟨#[105,110]⟩:ByteArray),(⟨#[97,100,100]⟩:ByteArray),(⟨#[107,101,101,112]⟩:ByteArray),(⟨#[109,111,118,101]⟩:ByteArray),(⟨#[109,105,110]⟩:ByteArray),(⟨#[110,101,119]⟩:ByteArray),(⟨#[98,97,99,107]⟩:ByteArray),(⟨#[111,117,116]⟩:ByteArray)]:List ByteArray).getD (k.toNat-1) default else (⟨#[63]⟩:ByteArray)
theorem Sc (k:Int):(C8 k).size≤4:=by
 by_cases h:1≤k∧k≤8
 ·have:k=1∨k=2∨k=3∨k=4∨k=5∨k=6∨k=7∨k=8:=by omega
  rcases this with rfl|rfl|rfl|rfl|rfl|rfl|rfl|rfl<;>decide
 rw [C8,Ab h];decide
theorem A14 (k:Int):Di 191 [.one (vi k)] [.one (vs (C8 k))]:=by
 by_cases hk:1≤k∧k≤8
 ·have:k=1∨k=2∨k=3∨k=4∨k=5∨k=6∨k=7∨k=8:=by omega
  rcases this with rfl|rfl|rfl|rfl|rfl|rfl|rfl|rfl
  all_goals
   refine E7 Tryz.func191 fun W=>?_
   repeat' (first|(refine Ho ?_;conv=>whnf)|(refine Hp ?_;conv=>whnf)|(refine ⟨fun h=>?_,fun h=>?_⟩<;>conv=>whnf)|(refine Aq (Hg _ _ _) rfl (Ah ?_))|(refine Gn ?_;conv=>whnf)|fail)
   all_goals first|exact absurd h Bq|exact An A0 rfl rfl ⟨rfl,trivial⟩
 refine E7 Tryz.func191 fun W=>?_;have hw:=Go.Sx.Gd.2 hk;refine Fp (Hg k 1 8) ?_;rw [hw];refine Yc B49 ?_;conv=>whnf
 exact An A0 rfl rfl ⟨A6 vs (by rw [C8,Ab hk]),trivial⟩
theorem A1c (k:Int):Di 169 [.one (vi k)] [.one (vs (C8 k))]:=by
 by_cases hk:1≤k∧k≤8
 ·have:k=1∨k=2∨k=3∨k=4∨k=5∨k=6∨k=7∨k=8:=by omega
  rcases this with rfl|rfl|rfl|rfl|rfl|rfl|rfl|rfl
  all_goals
   refine E7 Tryz.func169 fun W=>?_
   repeat' (first|(refine Ho ?_;conv=>whnf)|(refine Hp ?_;conv=>whnf)|(refine ⟨fun h=>?_,fun h=>?_⟩<;>conv=>whnf)|(refine Aq (Hm _ _ _) rfl (Ah ?_))|(refine Gn ?_;conv=>whnf)|fail)
   all_goals first|exact absurd h Bq|exact An A0 rfl rfl ⟨rfl,trivial⟩
 refine E7 Tryz.func169 fun W=>?_;have hw:=Go.Sx.Gd.2 hk;refine Fp (Hm k 1 8) ?_;rw [hw];refine Yc B49 ?_;conv=>whnf
 exact An A0 rfl rfl ⟨A6 vs (by rw [C8,Ab hk]),trivial⟩
def Rp (s:ByteArray) (l:List Int):ByteArray:=l.foldl (fun s n=>s++(⟨#[32]⟩:ByteArray)++I9 n) s
theorem Zm (s:ByteArray)(l:List Int)(k:Nat)(h:k<l.length):Rp s (l.take (k+1))=Rp s (l.take k)++(⟨#[32]⟩:ByteArray)++I9 (l.getD k default):=B9d _ _ _ _ h
theorem U6 (s:ByteArray)(l:List Int)(ho:∀n∈l,Gv .i64 n)(k:Nat)(hk:k≤l.length):(Rp s (l.take k)).size≤s.size+22 * k:=by
 induction k with
 |zero=>simp [Rp]
 |succ k ih=>
  have hd:=B8 (ho _ (Al (d:=default) (show k<l.length by omega)))
  rw [Zm s l k A7,Gr,Gr]
  have:=ih A7
  have h1:((⟨#[32]⟩:ByteArray)).size=1:=rfl;omega
def Qk (x:C3):ByteArray:=Rp (C8 x.kind++(⟨#[32]⟩:ByteArray)++I9 x.a++(⟨#[32]⟩:ByteArray)++I9 x.b) x.ax
theorem Na (x:C3)(ox:x.ok):(C8 x.kind++(⟨#[32]⟩:ByteArray)++I9 x.a++(⟨#[32]⟩:ByteArray)++I9 x.b).size≤48:=by
 have h1:=Sc x.kind;have h2:=B8 ox.2.1;have h3:=B8 ox.2.2.1;simp only [Gr,bsz,Gq,Fb,H3];omega
theorem Yg (x:C3)(ox:x.ok)(hx:x.w≤1048576):(Qk x).size≤23068720:=by
 have h0:=Na x ox;have hl:x.ax.length≤1048576:=hx;have h1:=U6 (C8 x.kind++(⟨#[32]⟩:ByteArray)++I9 x.a++(⟨#[32]⟩:ByteArray)++I9 x.b) x.ax ox.2.2.2.2 x.ax.length (Ds _);rw [H4] at h1;unfold Qk;omega
theorem B4l (x:C3)(ox:x.ok)(hx:x.w≤1048576):Di 129 [.agg x.c] [.one (vs (Qk x))]:=by
 have hl:x.ax.length≤1048576:=hx;have h0:=Na x ox;have h1:=Sc x.kind;have h2:=B8 ox.2.1;have h3:=B8 ox.2.2.1;refine E7 Tryz.func129 fun W=>?_
 repeat' (first|(refine Ho ?_;conv=>whnf)|(refine Hp ?_;conv=>whnf)|(refine ⟨fun h=>?_,fun h=>?_⟩<;>conv=>whnf)|(refine Aq (A14 x.kind) rfl (Ah ?_))|(refine Aq (Cq x.a ox.2.1) rfl (Ah ?_))|(refine Aq (Cq x.b ox.2.2.1) rfl (Ah ?_))|(refine Cp ?_;conv=>whnf)|(refine Aj 1 rfl [0,1,4,5,9,10,2,3,6,7,8,11,12,13] Am (Ah ?_))|fail)
 refine Fx [] (fun k:Nat=>[(3,.c (vs (Rp (C8 x.kind++(⟨#[32]⟩:ByteArray)++I9 x.a++(⟨#[32]⟩:ByteArray)++I9 x.b) (x.ax.take k)))),(4,.c (vi k))]) (fun k=>[⟨0,[.c (vi x.kind),.c (vi x.a),.c (vi x.b),.c (Cn x.ax)]⟩]) (fun k=>[]) (fun k=>k≤x.ax.length) (fun k=>x.ax.length-k) fun k hk=>?_;refine Dv (fun h'=>?_) fun h'=>?_
 ·have h':k<x.ax.length:=by omega
  have hk:=ox.2.2.2.2 _ (Al (d:=default) h');have hd:=B8 hk;have hs:=U6 (C8 x.kind++(⟨#[32]⟩:ByteArray)++I9 x.a++(⟨#[32]⟩:ByteArray)++I9 x.b) x.ax ox.2.2.2.2 k A7
  repeat' (first|(refine Ho ?_;conv=>whnf)|(refine Hp ?_;conv=>whnf)|(refine ⟨fun h=>?_,fun h=>?_⟩<;>conv=>whnf)|(refine Aq (Cq (x.ax.getD k default) hk) rfl (It ?_);conv=>whnf)|(refine Cp ?_;conv=>whnf)|(refine Aj 1 rfl [0,1,4,5,9,10,2,3,6,7,8,11,12,13] Am (Ah ?_))|fail)
  refine Cc [] (k+1) A7 A7 ⟨A6 (fun z=>AV.c (vs z)) (Zm _ _ k h').symm,rfl,trivial⟩ trivial
 have e:k=x.ax.length:=by omega
 exact An A0 rfl rfl ⟨A6 vs (by rw [e,H4];rfl),trivial⟩
theorem B3f (x:C3)(ox:x.ok)(hx:x.w≤1048576):E3 Tryz.prog X8 113 [.agg x.c] [.one (vs (Qk x))]:=by
 have hl:x.ax.length≤1048576:=hx;have h0:=Na x ox;have h1:=Sc x.kind;have h2:=B8 ox.2.1;have h3:=B8 ox.2.2.1;refine He A0 false Tryz.func113 rfl Bq fun W hW=>?_;conv=>whnf
 repeat' (first|(refine Ho ?_;conv=>whnf)|(refine Hp ?_;conv=>whnf)|(refine ⟨fun h=>?_,fun h=>?_⟩<;>conv=>whnf)|(refine Aq (A1c x.kind) rfl (Ah ?_))|(refine Dj (Dq x.a ox.2.1) B5 hW rfl (Ah ?_))|(refine Dj (Dq x.b ox.2.2.1) B5 hW rfl (Ah ?_))|(refine Cp ?_;conv=>whnf)|(refine Aj 1 rfl [0,1,4,5,9,10,2,3,6,7,8,11,12,13] Am (Ah ?_))|fail)
 refine Fx [] (fun k:Nat=>[(3,.c (vs (Rp (C8 x.kind++(⟨#[32]⟩:ByteArray)++I9 x.a++(⟨#[32]⟩:ByteArray)++I9 x.b) (x.ax.take k)))),(22,.c (vi k))]) (fun k=>[⟨0,[.c (vi x.kind),.c (vi x.a),.c (vi x.b),.c (Cn x.ax)]⟩]) (fun k=>[]) (fun k=>k≤x.ax.length) (fun k=>x.ax.length-k) fun k hk=>?_;refine Dv (fun h'=>?_) fun h'=>?_
 ·have h':k<x.ax.length:=by omega
  have hk:=ox.2.2.2.2 _ (Al (d:=default) h');have hd:=B8 hk;have hs:=U6 (C8 x.kind++(⟨#[32]⟩:ByteArray)++I9 x.a++(⟨#[32]⟩:ByteArray)++I9 x.b) x.ax ox.2.2.2.2 k A7
  repeat' (first|(refine Ho ?_;conv=>whnf)|(refine Hp ?_;conv=>whnf)|(refine ⟨fun h=>?_,fun h=>?_⟩<;>conv=>whnf)|(refine Dj (Dq (x.ax.getD k default) hk) B5 hW rfl (It ?_);conv=>whnf)|(refine Cp ?_;conv=>whnf)|(refine Aj 1 rfl [0,1,4,5,9,10,2,3,6,7,8,11,12,13] Am (Ah ?_))|fail)
  refine Cc [] (k+1) A7 A7 ⟨A6 (fun z=>AV.c (vs z)) (by rw [Zm _ _ k h'];exact A9u.symm),rfl,trivial⟩ trivial
 have e:k=x.ax.length:=by omega
 exact An A0 rfl rfl ⟨A6 vs (by rw [e,H4];rfl),trivial⟩
def Dz (x:C3):ByteArray:=if Lj x then (⟨#[110,111,100,101,32]⟩:ByteArray)++Qk x else (⟨#[]⟩:ByteArray)
theorem A16 (x:C3)(ox:x.ok)(hx:x.w≤1048576):Di 65 [.agg x.c] [.one (vs (Dz x))]:=by
 have hs:=Yg x ox hx;refine E7 Tryz.func65 fun W=>?_
 repeat' (first|(refine Ho ?_;conv=>whnf)|(refine Hp ?_;conv=>whnf)|(refine ⟨fun h=>?_,fun h=>?_⟩<;>conv=>whnf)|(refine Aq (Zx x A7) rfl (It ?_);conv=>whnf)|(refine Aq (B4l x ox hx) rfl (Ah ?_))|(refine Cp ?_;conv=>whnf)|fail)
 ·exact An A0 rfl rfl ⟨A6 vs (by rw [Dz,Ab];simpa using h),trivial⟩
 exact An A0 rfl rfl ⟨A6 vs (by rw [Dz,Ak];simpa using h),trivial⟩
theorem B3e (x:C3)(ox:x.ok)(hx:x.w≤1048576):E3 Tryz.prog X8 56 [.agg x.c] [.one (vs (Dz x))]:=by
 have hs:=Yg x ox hx;refine He A0 false Tryz.func56 rfl Bq fun W hW=>?_;conv=>whnf
 repeat' (first|(refine Ho ?_;conv=>whnf)|(refine Hp ?_;conv=>whnf)|(refine ⟨fun h=>?_,fun h=>?_⟩<;>conv=>whnf)|(refine Aq (U0 x A7) rfl (It ?_);conv=>whnf)|(refine Dj (B3f x ox hx) B5 hW rfl (Ah ?_))|(refine Cp ?_;conv=>whnf)|fail)
 ·exact An A0 rfl rfl ⟨A6 vs (by rw [Dz,Ab];simpa using h),trivial⟩
 exact An A0 rfl rfl ⟨A6 vs (by rw [Dz,Ak];simpa using h),trivial⟩
def H5 (r:Aa):Prop:=(0≤r.op∧r.op≤7)∧(0≤r.af.ab∧r.af.ab≤3)∧(0≤r.af.turn∧r.af.turn≤6)∧(0≤r.key∧r.key≤99)∧(0≤r.val∧r.val≤999)
instance (r:Aa):Decidable (H5 r):=by unfold H5;infer_instance
def Fh (r:Aa):Bool:=decide (H5 r)
theorem Ng (r:Aa):Fh r=true↔(0≤r.op∧r.op≤7)∧(0≤r.af.ab∧r.af.ab≤3)∧(0≤r.af.turn∧r.af.turn≤6)∧(0≤r.key∧r.key≤99)∧(0≤r.val∧r.val≤999):=decide_eq_true_iff
def Jr (s:Iz):Bool:=decide ((0≤s.ab∧s.ab≤3)∧(0≤s.turn∧s.turn≤6))
theorem A40 (s:Iz):Di 182 [.agg s.c] [.one (vb (Jr s))]:=by
 refine E7 Tryz.func182 fun W=>?_
 repeat' (first|(refine Ho ?_;conv=>whnf)|(refine Hp ?_;conv=>whnf)|(refine ⟨fun h=>?_,fun h=>?_⟩<;>conv=>whnf)|(refine Aq (Hg _ _ _) rfl (Ah ?_))|(refine Cp ?_;conv=>whnf)|fail)
 all_goals (refine An A0 rfl rfl ⟨A6 vb ?_,trivial⟩;(rw [S3];simp only [Ng,Jr,B9a,Td,iff_false,false_iff,iff_true,true_iff,ne_eq] at * <;>omega))
theorem A36 (s:Iz):Di 170 [.agg s.c] [.one (vb (Jr s))]:=by
 refine E7 Tryz.func170 fun W=>?_
 repeat' (first|(refine Ho ?_;conv=>whnf)|(refine Hp ?_;conv=>whnf)|(refine ⟨fun h=>?_,fun h=>?_⟩<;>conv=>whnf)|(refine Aq (Hm _ _ _) rfl (Ah ?_))|(refine Cp ?_;conv=>whnf)|fail)
 all_goals (refine An A0 rfl rfl ⟨A6 vb ?_,trivial⟩;(rw [S3];simp only [Ng,Jr,B9a,Td,iff_false,false_iff,iff_true,true_iff,ne_eq] at * <;>omega))
theorem Jq (r:Aa):Di 123 [.agg r.c] [.one (vb (Fh r))]:=by
 refine E7 Tryz.func123 fun W=>?_
 repeat' (first|(refine Ho ?_;conv=>whnf)|(refine Hp ?_;conv=>whnf)|(refine ⟨fun h=>?_,fun h=>?_⟩<;>conv=>whnf)|(refine Aq (Hg _ _ _) rfl (Ah ?_))|(refine Aq (A40 r.af) rfl (Ah ?_))|(refine Cp ?_;conv=>whnf)|fail)
 all_goals (refine An A0 rfl rfl ⟨A6 vb ?_,trivial⟩;(rw [S3];simp only [Ng,Jr,B9a,Td,iff_false,false_iff,iff_true,true_iff,ne_eq] at * <;>omega))
theorem A7f (k v:Int):Di 171 [.one (vi k),.one (vi v)] [.one (vb (decide ((0≤k∧k≤99)∧(0≤v∧v≤999))))]:=by
 refine E7 Tryz.func171 fun W=>?_
 repeat' (first|(refine Ho ?_;conv=>whnf)|(refine Hp ?_;conv=>whnf)|(refine ⟨fun h=>?_,fun h=>?_⟩<;>conv=>whnf)|(refine Aq (Hm _ _ _) rfl (Ah ?_))|(refine Cp ?_;conv=>whnf)|fail)
 all_goals (refine An A0 rfl rfl ⟨A6 vb ?_,trivial⟩;(rw [S3];simp only [Ng,Jr,B9a,Td,iff_false,false_iff,iff_true,true_iff,ne_eq] at * <;>omega))
theorem Ij (r:Aa):Di 114 [.agg r.c] [.one (vb (Fh r))]:=by
 refine E7 Tryz.func114 fun W=>?_
 repeat' (first|(refine Ho ?_;conv=>whnf)|(refine Hp ?_;conv=>whnf)|(refine ⟨fun h=>?_,fun h=>?_⟩<;>conv=>whnf)|(refine Aq (Hm _ _ _) rfl (Ah ?_))|(refine Aq (A36 r.af) rfl (Ah ?_))|(refine Aq (A7f r.key r.val) rfl (Ah ?_))|(refine Cp ?_;conv=>whnf)|fail)
 all_goals (refine An A0 rfl rfl ⟨A6 vb ?_,trivial⟩;(rw [S3];simp only [Ng,Jr,B9a,Td,iff_false,false_iff,iff_true,true_iff,ne_eq] at * <;>omega))
def Ou (a b:Int):Int:=if a<b then-1 else if a>b then 1 else 0
def W2:List Int→List Int→Int
 |a::x,b::y=>if Ou a b=0 then W2 x y else Ou a b
 |_,_=>0
theorem C32 {a b:List Int}{k:Nat}(h:k<a.length)(hl:a.length=b.length):W2 (a.drop k) (b.drop k)=if Ou (a.getD k default) (b.getD k default)=0 then W2 (a.drop (k+1)) (b.drop (k+1)) else Ou (a.getD k default) (b.getD k default):=by
 have h2:k<b.length:=by omega
 rw [A9s h,A9s h2,W2,List.getD,List.getD,Dl h,Dl h2];rfl
theorem C68 {a b:List Int}{k:Nat}(h:¬ k<a.length):W2 (a.drop k) (b.drop k)=0:=by
 rw [List.drop_of_length_le A7];rfl
theorem C1f (n:Int):Di 335 [.one (vi n)] [.one (vb false)]:=by
 refine E7 Tryz.func335 fun W=>?_;exact An A0 rfl rfl ⟨A6 vb Ey,trivial⟩
theorem B9l (a b:Int):Di 329 [.one (vi a),.one (vi b)] [.one (vi (Ou a b))]:=by
 refine E7 Tryz.func329 fun W=>?_;refine Fp (C1f a) ?_;refine Fp (C1f b) ?_;refine Vy B8l ?_;conv=>whnf
 refine Vy B8l ?_;conv=>whnf
 refine Dv (fun h=>?_) fun h=>?_
 ·exact An A0 rfl rfl ⟨A6 vi (by rw [Ou,Ak h]),trivial⟩
 refine Dv (fun h2=>?_) fun h2=>?_
 ·exact An A0 rfl rfl ⟨A6 vi (by rw [Ou,Ab h,Ak h2]),trivial⟩
 exact An A0 rfl rfl ⟨A6 vi (by rw [Ou,Ab h,Ab h2]),trivial⟩
theorem C4q (a b:Int):Di 295 [.one (vi a),.one (vi b)] [.one (vi (Ou a b))]:=by
 refine E7 Tryz.func295 fun W=>?_;refine Dv (fun h=>?_) fun h=>?_
 ·exact An A0 rfl rfl ⟨A6 vi (by rw [Ou,Ak h]),trivial⟩
 refine Dv (fun h2=>?_) fun h2=>?_
 ·exact An A0 rfl rfl ⟨A6 vi (by rw [Ou,Ab h,Ak h2]),trivial⟩
 exact An A0 rfl rfl ⟨A6 vi (by rw [Ou,Ab h,Ab h2]),trivial⟩
theorem B59 (a b:List Int)(hl:a.length=b.length)(ha:a.length≤16777216):Di 321 [.one (Cn a),.one (Cn b)] [.one (vi (W2 a b))]:=by
 refine E7 Tryz.func321 fun W=>?_;refine Fx [] (fun k:Nat=>[(11,.c (vi k))]) (fun k=>[]) (fun k=>[]) (fun k=>k≤a.length∧W2 (a.drop k) (b.drop k)=W2 a b) (fun k=>a.length-k) fun k hk=>?_;obtain ⟨hk,he⟩:=hk;refine Dv (fun h=>?_) fun h=>?_
 ·have h:k<a.length:=by omega
  rw [C32 h hl] at he;refine B4 ?_;refine Dv (fun h2=>?_) fun h2=>?_
  ·omega
  refine B4 ?_;refine Fp (B9l (a.getD k default) (b.getD k default)) ?_;refine Y0 (fun h3=>?_) fun h3=>?_
  ·rw [Ab h3] at he
   exact An A0 rfl rfl ⟨A6 vi he.symm,trivial⟩
  rw [Ak h3] at he;refine B4 ?_;refine Cc [] (k+1) ⟨by omega,he⟩ A7 ⟨rfl,trivial⟩ trivial
 rw [C68 A7] at he;refine Dv (fun h4=>?_) fun h4=>?_
 ·omega
 exact An A0 rfl rfl ⟨A6 vi he.symm,trivial⟩
theorem B6d (a b:List Int)(hl:a.length=b.length)(ha:a.length≤16777216):Di 297 [.one (Cn a),.one (Cn b)] [.one (vi (W2 a b))]:=by
 refine E7 Tryz.func297 fun W=>?_;refine Fp (B59 a b hl ha) ?_;exact An A0 rfl rfl ⟨rfl,trivial⟩
def R8 (x:Ad):List Int:=[x.ab,x.op,x.key,x.val]
def N2 (a b:Ad):Int:=W2 (R8 a) (R8 b)
theorem Y7 (a b:Ad):Di 262 [.agg a.c,.agg b.c] [.one (vi (N2 a b))]:=by
 refine E7 Tryz.func262 fun W=>?_;refine Ns 2 (Cn (R8 a)) rfl (Cf rfl V7) ?_;refine Ns 3 (Cn (R8 b)) rfl (Cf rfl V7) ?_;refine Fp (B6d (R8 a) (R8 b) rfl (by simp [R8])) ?_;exact An A0 rfl rfl ⟨rfl,trivial⟩
def C26 (a b:Ad):List Int:=[Ou a.ab b.ab,Ou a.op b.op,Ou a.key b.key,Ou a.val b.val]
theorem A7q:∀(l m:List Int) (k:Nat),(∀i,i<k→Ou (l.getD i default) (m.getD i default)=0)→l.length=m.length→k<l.length→Ou (l.getD k default) (m.getD k default)≠0→W2 l m=Ou (l.getD k default) (m.getD k default)
 | [],_,_,_,_,h,_=>by simp at h
 |_::_,[],_,_,h,_,_=>by simp at h
 |a::x,b::y,0,_,_,_,h=>by rw [W2,Ab (show ¬ Ou a b=0 from h)];rfl
 |a::x,b::y,k+1,h0,hl,hk,h=>by
  have:=h0 0 A7
  rw [W2,Ak (show Ou a b=0 from this)]
  exact A7q x y k (fun i hi=>h0 (i+1) A7) (by simpa using hl) (by simpa using hk) h
theorem B1w:∀(l m:List Int),(∀i,i<l.length→Ou (l.getD i default) (m.getD i default)=0)→l.length=m.length→W2 l m=0
 | [],_,_,_=>by rw [W2];simp
 |_::_,[],_,h=>by simp at h
 |a::x,b::y,h0,hl=>by
  have:=h0 0 Ey
  rw [W2,Ak (show Ou a b=0 from this)]
  exact B1w x y (fun i hi=>h0 (i+1) (by simpa using hi)) (by simpa using hl)
theorem Ys (a b:Ad):Di 260 [.agg a.c,.agg b.c] [.one (vi (N2 a b))]:=by
 refine E7 Tryz.func260 fun W=>?_
 repeat' (first|(refine Ho ?_;conv=>whnf)|(refine Hp ?_;conv=>whnf)|(refine ⟨fun h=>?_,fun h=>?_⟩<;>conv=>whnf)|(refine Aq (C4q _ _) rfl (Ah ?_))|(refine Cp ?_;conv=>whnf)|(refine Aj 1 rfl [0,1,2,3,5,6,7,8,10,11,12,13,15,16,17,18,4,9,14,19,20,21] Am (Ah ?_))|fail)
 refine Eu 2 (Cn (C26 a b)) rfl (Cf rfl V7) ?_;refine Fx [] (fun k:Nat=>[(6,.c (vi k))]) (fun k=>[]) (fun k=>[⟨2,Cn (C26 a b)⟩]) (fun k=>k≤4∧∀i,i<k→(C26 a b).getD i default=0) (fun k=>4-k) fun k hk=>?_;obtain ⟨hk,he⟩:=hk;refine Dv (fun h=>?_) fun h=>?_
 ·have h:k<4:=by omega
  have hk:(C26 a b).length=4:=rfl
  have hq:∀i,i<4→(C26 a b).getD i default=Ou ((R8 a).getD i default) ((R8 b).getD i default):=fun i hi=>by
   match i,hi with
   | 0,_=>rfl
   | 1,_=>rfl
   | 2,_=>rfl
   | 3,_=>rfl
  refine B4 ?_;refine Y0 (fun h3=>?_) fun h3=>?_
  ·refine B4 ?_
   exact An A0 rfl rfl ⟨A6 vi ((A7q _ _ k (fun i hi=>(hq i A7).symm.trans (he i hi)) rfl h (by rw [←hq k h];exact h3)).trans (hq k h).symm),trivial⟩
  refine B4 ?_;refine Cc [] (k+1) ⟨by omega,fun i hi=>(X3.1 hi).elim (fun h4=>he i h4) (fun h4=>h4▸h3)⟩ A7 ⟨rfl,trivial⟩ ⟨rfl,trivial⟩
 have hq:∀i,i<4→(C26 a b).getD i default=Ou ((R8 a).getD i default) ((R8 b).getD i default):=fun i hi=>by
  match i,hi with
  | 0,_=>rfl
  | 1,_=>rfl
  | 2,_=>rfl
  | 3,_=>rfl
 exact An A0 rfl rfl ⟨A6 vi (B1w (R8 a) (R8 b) (fun i hi=>(hq i hi).symm.trans (he i (by have:i<4:=hi;omega))) rfl),trivial⟩
def A2u (g:B0) (k:Int):Int:=(g.ak.getD k.toNat default).kind
def Vc (g:B0) (i:Nat) (x:C3) (k:Int):Prop:=k<g.ak.length∧(x.kind=7→k≤i∧(A2u g k=5∨A2u g k=6))∧(x.kind≠7→i<k)
instance (g:B0) (i:Nat) (x:C3) (k:Int):Decidable (Vc g i x k):=by unfold Vc;infer_instance
def R4 (g:B0) (i:Nat):Prop:=Jg (g.ak.getD i default)∧((g.ak.getD i default).kind=1↔i=0)∧∀k∈(g.ak.getD i default).ax,Vc g i (g.ak.getD i default) k
instance (g:B0) (i:Nat):Decidable (R4 g i):=by unfold R4;infer_instance
def Gw (g:B0):Prop:=(1≤g.ak.length∧g.ak.length≤8)∧(1≤g.aq∧g.aq≤4)∧(1≤g.cap∧g.cap≤4)∧∀i,i<g.ak.length→R4 g i
instance (g:B0):Decidable (Gw g):=by unfold Gw;infer_instance
def F2 (g:B0):Bool:=decide (Gw g)
def N1 (p:Nat→Prop) (k:Nat):Prop:=∀i,i<k→p i
theorem Dn (p:Nat→Prop):N1 p 0:=fun i h=>absurd h (L4 i)
variable {k : Nat}
theorem Dm {p:Nat→Prop}(h:N1 p k)(hk:p k):N1 p (k+1):=fun i hi=>by
 by_cases e:i=k
 ·subst e;exact hk
 exact h i A7
theorem Iq {α:Type} [Inhabited α] {l:List α}{p:α→Prop}(h:N1 (fun i=>p (l.getD i default)) l.length):∀x∈l,p x:=fun x hx=>by
 obtain ⟨i,hi,e⟩:=S4 hx
 have:p (l.getD i default):=h i hi
 rw [List.getD,Dl hi] at this;rw [←e];exact this
theorem B0.nodes_le {g:B0}{n:Nat}(h:g.w≤n):g.ak.length≤n:=by
 have:g.ak.length+(g.ak.map C3.w).sum≤n:=h
 omega
theorem B0.node_le {g:B0}{n:Nat}(h:g.w≤n)(hk:k<g.ak.length):(g.ak.getD k default).w≤n:=by
 have:g.ak.length+(g.ak.map C3.w).sum≤n:=h
 have hle:=Iu C3.w g.ak k hk;omega
theorem C7s {z:Int}(h:((z==1) !=((k:Int)==0))=true):¬ (z=1↔k=0):=by
 intro q
 by_cases e:k=0
 ·have:=q.2 e
  subst this;subst e;exact absurd h Bq
 have e1:¬ z=1:=fun e2=>e (q.1 e2);rw [Ti.2 e1,Ti.2 (show (k:Int)≠0 by omega)] at h
 exact absurd h Bq
theorem C7r {z:Int}(h:((z==1) !=((k:Int)==0))=false):z=1↔k=0:=by
 have h:=A0m.1 h
 constructor
 ·intro e
  have h2:((k:Int)==0)=true:=by rw [←h,e];rfl
  have:=eq_of_beq h2
  omega
 intro e;have h2:(z==1)=true:=by rw [h,e];rfl
 exact eq_of_beq h2
theorem Mn (g:B0)(hg:g.w≤16777216):Di 88 [.agg g.c] [.one (vb (F2 g))]:=by
 have hn:=B0.nodes_le hg;have hu:=Dn (R4 g);refine E7 Tryz.func88 fun W=>?_
 repeat' (first|(refine Ho ?_;conv=>whnf)|(refine Hp ?_;conv=>whnf)|(refine ⟨fun h=>?_,fun h=>?_⟩<;>conv=>whnf)|(refine Aq (Hg _ _ _) rfl (Ah ?_))|(refine Cp ?_;conv=>whnf)|fail)
 all_goals try (refine An A0 rfl rfl ⟨A6 vb (Cd fun p=>?_),trivial⟩;have p1:=p.1;have p2:=p.2.1;have p3:=p.2.2.1;clear p;simp only [F4] at * <;>omega)
 refine Fx [] (fun k:Nat=>[(3,.c (vi k))]) (fun k=>[⟨0,[.c (At g.ak),.c (vi g.aq),.c (vi g.cap)]⟩]) (fun k=>[]) (fun k=>k≤g.ak.length∧N1 (R4 g) k) (fun k=>g.ak.length-k) fun k hk=>?_;obtain ⟨hk,he⟩:=hk;refine Dv (fun h'=>?_) fun h'=>?_
 ·have h':k<g.ak.length:=by omega
  have hw:=B0.node_le hg h';have hq:(g.ak.getD k default).ax.length≤16777216:=hw;have hv:=Dn (fun j=>Vc g k (g.ak.getD k default) ((g.ak.getD k default).ax.getD j default))
  repeat' (first|(refine Ho ?_;conv=>whnf)|(refine Hp ?_;conv=>whnf)|(refine ⟨fun h=>?_,fun h=>?_⟩<;>conv=>whnf)|(refine Aq (Zx (g.ak.getD k default) hw) rfl (It ?_);conv=>whnf)|(refine Cp ?_;conv=>whnf)|fail)
  ·exact An A0 rfl rfl ⟨A6 vb (Cd fun p=>by rw [show Lj (g.ak.getD k default)=true from Dc (p.2.2.2 k h').1] at h;exact absurd h Bq),trivial⟩
  ·exact An A0 rfl rfl ⟨A6 vb (Cd fun p=>C7s h (p.2.2.2 k h').2.1),trivial⟩
  rename_i hno
  have hN:Jg (g.ak.getD k default):=Bn (show Lj (g.ak.getD k default)=true by cases hq2:Lj (g.ak.getD k default)<;>simp_all only [Bool.not_false,A9v])
  have hK:(g.ak.getD k default).kind=1↔k=0:=C7r h;have hO:=hN.2.2.2.2.2.2.2.2;refine Fx [] (fun j:Nat=>[(5,.c (vi j))]) (fun j=>[⟨0,[.c (At g.ak),.c (vi g.aq),.c (vi g.cap)]⟩,⟨1,[.c (vi (g.ak.getD k default).kind),.c (vi (g.ak.getD k default).a),.c (vi (g.ak.getD k default).b),.c (Cn (g.ak.getD k default).ax)]⟩]) (fun j=>[]) (fun j=>j≤(g.ak.getD k default).ax.length∧N1 (fun j=>Vc g k (g.ak.getD k default) ((g.ak.getD k default).ax.getD j default)) j) (fun j=>(g.ak.getD k default).ax.length-j) fun j hj=>?_;obtain ⟨hj,hej⟩:=hj;refine Dv (fun h2=>?_) fun h2=>?_
  ·have h2:j<(g.ak.getD k default).ax.length:=by first|omega|(simp only [Bv] at h2;omega)
   have hb:=hO _ (Al (d:=default) h2)
   repeat' (first|(refine Ho ?_;conv=>whnf)|(refine Hp ?_;conv=>whnf)|(refine ⟨fun h=>?_,fun h=>?_⟩<;>conv=>whnf)|(refine Cp ?_;conv=>whnf)|fail)
   all_goals try (refine An A0 rfl rfl ⟨A6 vb (Cd fun p=>?_),trivial⟩;have q:=(p.2.2.2 k h').2.2 _ (Al (d:=default) h2);clear p hej he hv hu hN hK hO;simp only [Vc,A2u] at q;simp only [F4] at * <;>omega)
   all_goals
    refine Cc [] (j+1) ⟨by omega,Dm hej (by clear hej he hv hu hN hK hO;simp only [Vc,A2u];simp only [F4] at * <;>omega)⟩ A7 ⟨rfl,trivial⟩ trivial
  have e:j=(g.ak.getD k default).ax.length:=by first|omega|(simp only [Bv] at h2;omega)
  refine B4 ?_;refine Cc [] (k+1) ⟨by omega,Dm he ⟨hN,hK,Iq (e▸hej)⟩⟩ A7 ⟨rfl,trivial⟩ trivial
 have e:k=g.ak.length:=by omega
 exact An A0 rfl rfl ⟨A6 vb (Dc ⟨by simp only [F4] at * <;>omega,by simp only [F4] at * <;>omega,by simp only [F4] at * <;>omega,e▸he⟩),trivial⟩
end Go.Proofs.YtmhcebdkjgkmlaaGreatDoor
