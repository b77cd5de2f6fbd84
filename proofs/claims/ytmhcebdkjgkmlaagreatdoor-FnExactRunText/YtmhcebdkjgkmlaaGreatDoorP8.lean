/- Part 8 of the proof that each of the laws FnExactWhoIsDone, FnExactResultText, FnExactRunText returns true for every input. No conditions. -/
import Derived.Test.YtmhcebdkjgkmlaaGreatDoorP7

set_option linter.unusedSimpArgs false
set_option linter.unusedVariables false
set_option maxRecDepth 100000
namespace Go.Proofs.YtmhcebdkjgkmlaaGreatDoor
open Go.Sx
def C8 (k:Int):ByteArray:=if 1≤k∧k≤8 then ([(⟨#[105,110]⟩:ByteArray),(⟨#[97,100,100]⟩:ByteArray),(⟨#[107,101,101,112]⟩:ByteArray),(⟨#[109,111,118,101]⟩:ByteArray),(⟨#[109,105,110]⟩:ByteArray),(⟨#[110,101,119]⟩:ByteArray),(⟨#[98,97,99,107]⟩:ByteArray),(⟨#[111,117,116]⟩:ByteArray)]:List ByteArray).getD (k.toNat-1) default else (⟨#[63]⟩:ByteArray)
theorem S6 (k:Int):(C8 k).size≤4:=by
 by_cases h:1≤k∧k≤8
 ·have:k=1∨k=2∨k=3∨k=4∨k=5∨k=6∨k=7∨k=8:=by omega
  rcases this with rfl|rfl|rfl|rfl|rfl|rfl|rfl|rfl<;>decide
 rw [C8,Ab h];decide
theorem A16 (k:Int):Dj 191 [.one (vi k)] [.one (vs (C8 k))]:=by
 by_cases hk:1≤k∧k≤8
 ·have:k=1∨k=2∨k=3∨k=4∨k=5∨k=6∨k=7∨k=8:=by omega
  rcases this with rfl|rfl|rfl|rfl|rfl|rfl|rfl|rfl
  all_goals
   refine E3 Tryz.func191 fun W=>?_
   repeat' (first|(refine I1 ?_;conv=>whnf)|(refine I2 ?_;conv=>whnf)|(refine ⟨fun h=>?_,fun h=>?_⟩<;>conv=>whnf)|(refine As (H3 _ _ _) rfl (Aj ?_))|(refine H8 ?_;conv=>whnf)|fail)
   all_goals first|exact absurd h Cw|exact An A0 rfl rfl ⟨rfl,trivial⟩
 refine E3 Tryz.func191 fun W=>?_;have hw:=Go.Sx.G8.2 hk;refine F0 (H3 k 1 8) ?_;rw [hw];refine I3 C2r ?_;conv=>whnf
 exact An A0 rfl rfl ⟨A6 vs (by rw [C8,Ab hk]),trivial⟩
theorem A1e (k:Int):Dj 169 [.one (vi k)] [.one (vs (C8 k))]:=by
 by_cases hk:1≤k∧k≤8
 ·have:k=1∨k=2∨k=3∨k=4∨k=5∨k=6∨k=7∨k=8:=by omega
  rcases this with rfl|rfl|rfl|rfl|rfl|rfl|rfl|rfl
  all_goals
   refine E3 Tryz.func169 fun W=>?_
   repeat' (first|(refine I1 ?_;conv=>whnf)|(refine I2 ?_;conv=>whnf)|(refine ⟨fun h=>?_,fun h=>?_⟩<;>conv=>whnf)|(refine As (H9 _ _ _) rfl (Aj ?_))|(refine H8 ?_;conv=>whnf)|fail)
   all_goals first|exact absurd h Cw|exact An A0 rfl rfl ⟨rfl,trivial⟩
 refine E3 Tryz.func169 fun W=>?_;have hw:=Go.Sx.G8.2 hk;refine F0 (H9 k 1 8) ?_;rw [hw];refine I3 C2r ?_;conv=>whnf
 exact An A0 rfl rfl ⟨A6 vs (by rw [C8,Ab hk]),trivial⟩
def Rl (s:ByteArray) (l:List Int):ByteArray:=l.foldl (fun s n=>s++(⟨#[32]⟩:ByteArray)++Ia n) s
theorem Zk (s:ByteArray)(l:List Int)(k:Nat)(h:k<l.length):Rl s (l.take (k+1))=Rl s (l.take k)++(⟨#[32]⟩:ByteArray)++Ia (l.getD k default):=B9c _ _ _ _ h
theorem Zj (s:ByteArray)(l:List Int)(ho:∀n∈l,Gt .i64 n)(k:Nat)(hk:k≤l.length):(Rl s (l.take k)).size≤s.size+22 * k:=by
 induction k with
 |zero=>simp [Rl]
 |succ k ih=>
  have hd:=Bq (ho _ (Am (d:=default) (show k<l.length by omega)))
  rw [Zk s l k A7,Ox,Ox]
  have:=ih A7
  have h1:((⟨#[32]⟩:ByteArray)).size=1:=rfl;omega
def Sz (x:D5):ByteArray:=Rl (C8 x.kind++(⟨#[32]⟩:ByteArray)++Ia x.a++(⟨#[32]⟩:ByteArray)++Ia x.b) x.ax
theorem Qe (x:D5)(ox:x.ok):(C8 x.kind++(⟨#[32]⟩:ByteArray)++Ia x.a++(⟨#[32]⟩:ByteArray)++Ia x.b).size≤48:=by
 have h1:=S6 x.kind;have h2:=Bq ox.2.1;have h3:=Bq ox.2.2.1;simp only [Ox,bsz,Nh,Gi,Ld];omega
theorem Ye (x:D5)(ox:x.ok)(hx:x.w≤1048576):(Sz x).size≤23068720:=by
 have h0:=Qe x ox;have hl:x.ax.length≤1048576:=hx;have h1:=Zj (C8 x.kind++(⟨#[32]⟩:ByteArray)++Ia x.a++(⟨#[32]⟩:ByteArray)++Ia x.b) x.ax ox.2.2.2.2 x.ax.length (Df _);rw [Hx] at h1;unfold Sz;omega
theorem B4l (x:D5)(ox:x.ok)(hx:x.w≤1048576):Dj 129 [.agg x.c] [.one (vs (Sz x))]:=by
 have hl:x.ax.length≤1048576:=hx;have h0:=Qe x ox;have h1:=S6 x.kind;have h2:=Bq ox.2.1;have h3:=Bq ox.2.2.1;refine E3 Tryz.func129 fun W=>?_
 repeat' (first|(refine I1 ?_;conv=>whnf)|(refine I2 ?_;conv=>whnf)|(refine ⟨fun h=>?_,fun h=>?_⟩<;>conv=>whnf)|(refine As (A16 x.kind) rfl (Aj ?_))|(refine As (Dp x.a ox.2.1) rfl (Aj ?_))|(refine As (Dp x.b ox.2.2.1) rfl (Aj ?_))|(refine Co ?_;conv=>whnf)|(refine Al 1 rfl [0,1,4,5,9,10,2,3,6,7,8,11,12,13] Ah (Aj ?_))|fail)
 refine Fv [] (fun k:Nat=>[(3,.c (vs (Rl (C8 x.kind++(⟨#[32]⟩:ByteArray)++Ia x.a++(⟨#[32]⟩:ByteArray)++Ia x.b) (x.ax.take k)))),(4,.c (vi k))]) (fun k=>[⟨0,[.c (vi x.kind),.c (vi x.a),.c (vi x.b),.c (Ej x.ax)]⟩]) (fun k=>[]) (fun k=>k≤x.ax.length) (fun k=>x.ax.length-k) fun k hk=>?_;refine Eh (fun h'=>?_) fun h'=>?_
 ·have h':k<x.ax.length:=by omega
  have hk:=ox.2.2.2.2 _ (Am (d:=default) h');have hd:=Bq hk;have hs:=Zj (C8 x.kind++(⟨#[32]⟩:ByteArray)++Ia x.a++(⟨#[32]⟩:ByteArray)++Ia x.b) x.ax ox.2.2.2.2 k A7
  repeat' (first|(refine I1 ?_;conv=>whnf)|(refine I2 ?_;conv=>whnf)|(refine ⟨fun h=>?_,fun h=>?_⟩<;>conv=>whnf)|(refine As (Dp (x.ax.getD k default) hk) rfl (Iv ?_);conv=>whnf)|(refine Co ?_;conv=>whnf)|(refine Al 1 rfl [0,1,4,5,9,10,2,3,6,7,8,11,12,13] Ah (Aj ?_))|fail)
  refine Ci [] (k+1) A7 A7 ⟨A6 (fun z=>AV.c (vs z)) (Zk _ _ k h').symm,rfl,trivial⟩ trivial
 have e:k=x.ax.length:=by omega
 exact An A0 rfl rfl ⟨A6 vs (by rw [e,Hx];rfl),trivial⟩
theorem B3f (x:D5)(ox:x.ok)(hx:x.w≤1048576):Dy Tryz.prog Vb 113 [.agg x.c] [.one (vs (Sz x))]:=by
 have hl:x.ax.length≤1048576:=hx;have h0:=Qe x ox;have h1:=S6 x.kind;have h2:=Bq ox.2.1;have h3:=Bq ox.2.2.1;refine Ga A0 false Tryz.func113 rfl Cw fun W hW=>?_;conv=>whnf
 repeat' (first|(refine I1 ?_;conv=>whnf)|(refine I2 ?_;conv=>whnf)|(refine ⟨fun h=>?_,fun h=>?_⟩<;>conv=>whnf)|(refine As (A1e x.kind) rfl (Aj ?_))|(refine Dt (Dn x.a ox.2.1) B3 hW rfl (Aj ?_))|(refine Dt (Dn x.b ox.2.2.1) B3 hW rfl (Aj ?_))|(refine Co ?_;conv=>whnf)|(refine Al 1 rfl [0,1,4,5,9,10,2,3,6,7,8,11,12,13] Ah (Aj ?_))|fail)
 refine Fv [] (fun k:Nat=>[(3,.c (vs (Rl (C8 x.kind++(⟨#[32]⟩:ByteArray)++Ia x.a++(⟨#[32]⟩:ByteArray)++Ia x.b) (x.ax.take k)))),(22,.c (vi k))]) (fun k=>[⟨0,[.c (vi x.kind),.c (vi x.a),.c (vi x.b),.c (Ej x.ax)]⟩]) (fun k=>[]) (fun k=>k≤x.ax.length) (fun k=>x.ax.length-k) fun k hk=>?_;refine Eh (fun h'=>?_) fun h'=>?_
 ·have h':k<x.ax.length:=by omega
  have hk:=ox.2.2.2.2 _ (Am (d:=default) h');have hd:=Bq hk;have hs:=Zj (C8 x.kind++(⟨#[32]⟩:ByteArray)++Ia x.a++(⟨#[32]⟩:ByteArray)++Ia x.b) x.ax ox.2.2.2.2 k A7
  repeat' (first|(refine I1 ?_;conv=>whnf)|(refine I2 ?_;conv=>whnf)|(refine ⟨fun h=>?_,fun h=>?_⟩<;>conv=>whnf)|(refine Dt (Dn (x.ax.getD k default) hk) B3 hW rfl (Iv ?_);conv=>whnf)|(refine Co ?_;conv=>whnf)|(refine Al 1 rfl [0,1,4,5,9,10,2,3,6,7,8,11,12,13] Ah (Aj ?_))|fail)
  refine Ci [] (k+1) A7 A7 ⟨A6 (fun z=>AV.c (vs z)) (by rw [Zk _ _ k h'];exact A9v.symm),rfl,trivial⟩ trivial
 have e:k=x.ax.length:=by omega
 exact An A0 rfl rfl ⟨A6 vs (by rw [e,Hx];rfl),trivial⟩
def Hs (x:D5):ByteArray:=if Lh x then (⟨#[110,111,100,101,32]⟩:ByteArray)++Sz x else (⟨#[]⟩:ByteArray)
theorem B4k (x:D5)(ox:x.ok)(hx:x.w≤1048576):Dj 65 [.agg x.c] [.one (vs (Hs x))]:=by
 have hs:=Ye x ox hx;refine E3 Tryz.func65 fun W=>?_
 repeat' (first|(refine I1 ?_;conv=>whnf)|(refine I2 ?_;conv=>whnf)|(refine ⟨fun h=>?_,fun h=>?_⟩<;>conv=>whnf)|(refine As (Zv x A7) rfl (Iv ?_);conv=>whnf)|(refine As (B4l x ox hx) rfl (Aj ?_))|(refine Co ?_;conv=>whnf)|fail)
 ·exact An A0 rfl rfl ⟨A6 vs (by rw [Hs,Ab];simpa using h),trivial⟩
 exact An A0 rfl rfl ⟨A6 vs (by rw [Hs,Ak];simpa using h),trivial⟩
theorem B3e (x:D5)(ox:x.ok)(hx:x.w≤1048576):Dy Tryz.prog Vb 56 [.agg x.c] [.one (vs (Hs x))]:=by
 have hs:=Ye x ox hx;refine Ga A0 false Tryz.func56 rfl Cw fun W hW=>?_;conv=>whnf
 repeat' (first|(refine I1 ?_;conv=>whnf)|(refine I2 ?_;conv=>whnf)|(refine ⟨fun h=>?_,fun h=>?_⟩<;>conv=>whnf)|(refine As (Ty x A7) rfl (Iv ?_);conv=>whnf)|(refine Dt (B3f x ox hx) B3 hW rfl (Aj ?_))|(refine Co ?_;conv=>whnf)|fail)
 ·exact An A0 rfl rfl ⟨A6 vs (by rw [Hs,Ab];simpa using h),trivial⟩
 exact An A0 rfl rfl ⟨A6 vs (by rw [Hs,Ak];simpa using h),trivial⟩
def Gu (r:Aa):Prop:=(0≤r.op∧r.op≤7)∧(0≤r.am.ab∧r.am.ab≤3)∧(0≤r.am.turn∧r.am.turn≤6)∧(0≤r.key∧r.key≤99)∧(0≤r.val∧r.val≤999)
instance (r:Aa):Decidable (Gu r):=by unfold Gu;infer_instance
def F8 (r:Aa):Bool:=decide (Gu r)
theorem N8 (r:Aa):F8 r=true↔(0≤r.op∧r.op≤7)∧(0≤r.am.ab∧r.am.ab≤3)∧(0≤r.am.turn∧r.am.turn≤6)∧(0≤r.key∧r.key≤99)∧(0≤r.val∧r.val≤999):=decide_eq_true_iff
def Jp (s:Jg):Bool:=decide ((0≤s.ab∧s.ab≤3)∧(0≤s.turn∧s.turn≤6))
theorem A45 (s:Jg):Dj 182 [.agg s.c] [.one (vb (Jp s))]:=by
 refine E3 Tryz.func182 fun W=>?_
 repeat' (first|(refine I1 ?_;conv=>whnf)|(refine I2 ?_;conv=>whnf)|(refine ⟨fun h=>?_,fun h=>?_⟩<;>conv=>whnf)|(refine As (H3 _ _ _) rfl (Aj ?_))|(refine Co ?_;conv=>whnf)|fail)
 all_goals (refine An A0 rfl rfl ⟨A6 vb ?_,trivial⟩;(rw [Th];simp only [N8,Jp,B89,Qq,iff_false,false_iff,iff_true,true_iff,ne_eq] at * <;>omega))
theorem A4b (s:Jg):Dj 170 [.agg s.c] [.one (vb (Jp s))]:=by
 refine E3 Tryz.func170 fun W=>?_
 repeat' (first|(refine I1 ?_;conv=>whnf)|(refine I2 ?_;conv=>whnf)|(refine ⟨fun h=>?_,fun h=>?_⟩<;>conv=>whnf)|(refine As (H9 _ _ _) rfl (Aj ?_))|(refine Co ?_;conv=>whnf)|fail)
 all_goals (refine An A0 rfl rfl ⟨A6 vb ?_,trivial⟩;(rw [Th];simp only [N8,Jp,B89,Qq,iff_false,false_iff,iff_true,true_iff,ne_eq] at * <;>omega))
theorem Jo (r:Aa):Dj 123 [.agg r.c] [.one (vb (F8 r))]:=by
 refine E3 Tryz.func123 fun W=>?_
 repeat' (first|(refine I1 ?_;conv=>whnf)|(refine I2 ?_;conv=>whnf)|(refine ⟨fun h=>?_,fun h=>?_⟩<;>conv=>whnf)|(refine As (H3 _ _ _) rfl (Aj ?_))|(refine As (A45 r.am) rfl (Aj ?_))|(refine Co ?_;conv=>whnf)|fail)
 all_goals (refine An A0 rfl rfl ⟨A6 vb ?_,trivial⟩;(rw [Th];simp only [N8,Jp,B89,Qq,iff_false,false_iff,iff_true,true_iff,ne_eq] at * <;>omega))
theorem A7m (k v:Int):Dj 171 [.one (vi k),.one (vi v)] [.one (vb (decide ((0≤k∧k≤99)∧(0≤v∧v≤999))))]:=by
 refine E3 Tryz.func171 fun W=>?_
 repeat' (first|(refine I1 ?_;conv=>whnf)|(refine I2 ?_;conv=>whnf)|(refine ⟨fun h=>?_,fun h=>?_⟩<;>conv=>whnf)|(refine As (H9 _ _ _) rfl (Aj ?_))|(refine Co ?_;conv=>whnf)|fail)
 all_goals (refine An A0 rfl rfl ⟨A6 vb ?_,trivial⟩;(rw [Th];simp only [N8,Jp,B89,Qq,iff_false,false_iff,iff_true,true_iff,ne_eq] at * <;>omega))
theorem Ih (r:Aa):Dj 114 [.agg r.c] [.one (vb (F8 r))]:=by
 refine E3 Tryz.func114 fun W=>?_
 repeat' (first|(refine I1 ?_;conv=>whnf)|(refine I2 ?_;conv=>whnf)|(refine ⟨fun h=>?_,fun h=>?_⟩<;>conv=>whnf)|(refine As (H9 _ _ _) rfl (Aj ?_))|(refine As (A4b r.am) rfl (Aj ?_))|(refine As (A7m r.key r.val) rfl (Aj ?_))|(refine Co ?_;conv=>whnf)|fail)
 all_goals (refine An A0 rfl rfl ⟨A6 vb ?_,trivial⟩;(rw [Th];simp only [N8,Jp,B89,Qq,iff_false,false_iff,iff_true,true_iff,ne_eq] at * <;>omega))
def Oi (a b:Int):Int:=if a<b then-1 else if a>b then 1 else 0
def W4:List Int→List Int→Int
 |a::x,b::y=>if Oi a b=0 then W4 x y else Oi a b
 |_,_=>0
theorem C30 {a b:List Int}{k:Nat}(h:k<a.length)(hl:a.length=b.length):W4 (a.drop k) (b.drop k)=if Oi (a.getD k default) (b.getD k default)=0 then W4 (a.drop (k+1)) (b.drop (k+1)) else Oi (a.getD k default) (b.getD k default):=by
 have h2:k<b.length:=by omega
 rw [A3q h,A3q h2,W4,List.getD,List.getD,Cl h,Cl h2];rfl
theorem C65 {a b:List Int}{k:Nat}(h:¬ k<a.length):W4 (a.drop k) (b.drop k)=0:=by
 rw [List.drop_of_length_le A7];rfl
theorem C1l (n:Int):Dj 335 [.one (vi n)] [.one (vb false)]:=by
 refine E3 Tryz.func335 fun W=>?_;exact An A0 rfl rfl ⟨A6 vb Bi,trivial⟩
theorem B9j (a b:Int):Dj 329 [.one (vi a),.one (vi b)] [.one (vi (Oi a b))]:=by
 refine E3 Tryz.func329 fun W=>?_;refine F0 (C1l a) ?_;refine F0 (C1l b) ?_;refine Hf B5b ?_;conv=>whnf
 refine Hf B5b ?_;conv=>whnf
 refine Eh (fun h=>?_) fun h=>?_
 ·exact An A0 rfl rfl ⟨A6 vi (by rw [Oi,Ak h]),trivial⟩
 refine Eh (fun h2=>?_) fun h2=>?_
 ·exact An A0 rfl rfl ⟨A6 vi (by rw [Oi,Ab h,Ak h2]),trivial⟩
 exact An A0 rfl rfl ⟨A6 vi (by rw [Oi,Ab h,Ab h2]),trivial⟩
theorem C4q (a b:Int):Dj 295 [.one (vi a),.one (vi b)] [.one (vi (Oi a b))]:=by
 refine E3 Tryz.func295 fun W=>?_;refine Eh (fun h=>?_) fun h=>?_
 ·exact An A0 rfl rfl ⟨A6 vi (by rw [Oi,Ak h]),trivial⟩
 refine Eh (fun h2=>?_) fun h2=>?_
 ·exact An A0 rfl rfl ⟨A6 vi (by rw [Oi,Ab h,Ak h2]),trivial⟩
 exact An A0 rfl rfl ⟨A6 vi (by rw [Oi,Ab h,Ab h2]),trivial⟩
theorem B59 (a b:List Int)(hl:a.length=b.length)(ha:a.length≤16777216):Dj 321 [.one (Ej a),.one (Ej b)] [.one (vi (W4 a b))]:=by
 refine E3 Tryz.func321 fun W=>?_;refine Fv [] (fun k:Nat=>[(11,.c (vi k))]) (fun k=>[]) (fun k=>[]) (fun k=>k≤a.length∧W4 (a.drop k) (b.drop k)=W4 a b) (fun k=>a.length-k) fun k hk=>?_;obtain ⟨hk,he⟩:=hk;refine Eh (fun h=>?_) fun h=>?_
 ·have h:k<a.length:=by omega
  rw [C30 h hl] at he;refine B8 ?_;refine Eh (fun h2=>?_) fun h2=>?_
  ·omega
  refine B8 ?_;refine F0 (B9j (a.getD k default) (b.getD k default)) ?_;refine zne (fun h3=>?_) fun h3=>?_
  ·rw [Ab h3] at he
   exact An A0 rfl rfl ⟨A6 vi he.symm,trivial⟩
  rw [Ak h3] at he;refine B8 ?_;refine Ci [] (k+1) ⟨by omega,he⟩ A7 ⟨rfl,trivial⟩ trivial
 rw [C65 A7] at he;refine Eh (fun h4=>?_) fun h4=>?_
 ·omega
 exact An A0 rfl rfl ⟨A6 vi he.symm,trivial⟩
theorem B6d (a b:List Int)(hl:a.length=b.length)(ha:a.length≤16777216):Dj 297 [.one (Ej a),.one (Ej b)] [.one (vi (W4 a b))]:=by
 refine E3 Tryz.func297 fun W=>?_;refine F0 (B59 a b hl ha) ?_;exact An A0 rfl rfl ⟨rfl,trivial⟩
def R6 (x:Ad):List Int:=[x.ab,x.op,x.key,x.val]
def Mw (a b:Ad):Int:=W4 (R6 a) (R6 b)
theorem Y6 (a b:Ad):Dj 262 [.agg a.c,.agg b.c] [.one (vi (Mw a b))]:=by
 refine E3 Tryz.func262 fun W=>?_;refine C1c 2 (Ej (R6 a)) rfl (Nu rfl A2j) ?_;refine C1c 3 (Ej (R6 b)) rfl (Nu rfl A2j) ?_;refine F0 (B6d (R6 a) (R6 b) rfl (by simp [R6])) ?_;exact An A0 rfl rfl ⟨rfl,trivial⟩
def C3c (a b:Ad):List Int:=[Oi a.ab b.ab,Oi a.op b.op,Oi a.key b.key,Oi a.val b.val]
theorem A7x:∀(l m:List Int) (k:Nat),(∀i,i<k→Oi (l.getD i default) (m.getD i default)=0)→l.length=m.length→k<l.length→Oi (l.getD k default) (m.getD k default)≠0→W4 l m=Oi (l.getD k default) (m.getD k default)
 | [],_,_,_,_,h,_=>by simp at h
 |_::_,[],_,_,h,_,_=>by simp at h
 |a::x,b::y,0,_,_,_,h=>by rw [W4,Ab (show ¬ Oi a b=0 from h)];rfl
 |a::x,b::y,k+1,h0,hl,hk,h=>by
  have:=h0 0 A7
  rw [W4,Ak (show Oi a b=0 from this)]
  exact A7x x y k (fun i hi=>h0 (i+1) A7) (by simpa using hl) (by simpa using hk) h
theorem B1w:∀(l m:List Int),(∀i,i<l.length→Oi (l.getD i default) (m.getD i default)=0)→l.length=m.length→W4 l m=0
 | [],_,_,_=>by rw [W4];simp
 |_::_,[],_,h=>by simp at h
 |a::x,b::y,h0,hl=>by
  have:=h0 0 Bi
  rw [W4,Ak (show Oi a b=0 from this)]
  exact B1w x y (fun i hi=>h0 (i+1) (by simpa using hi)) (by simpa using hl)
theorem Yr (a b:Ad):Dj 260 [.agg a.c,.agg b.c] [.one (vi (Mw a b))]:=by
 refine E3 Tryz.func260 fun W=>?_
 repeat' (first|(refine I1 ?_;conv=>whnf)|(refine I2 ?_;conv=>whnf)|(refine ⟨fun h=>?_,fun h=>?_⟩<;>conv=>whnf)|(refine As (C4q _ _) rfl (Aj ?_))|(refine Co ?_;conv=>whnf)|(refine Al 1 rfl [0,1,2,3,5,6,7,8,10,11,12,13,15,16,17,18,4,9,14,19,20,21] Ah (Aj ?_))|fail)
 refine H5 2 (Ej (C3c a b)) rfl (Nu rfl A2j) ?_;refine Fv [] (fun k:Nat=>[(6,.c (vi k))]) (fun k=>[]) (fun k=>[⟨2,Ej (C3c a b)⟩]) (fun k=>k≤4∧∀i,i<k→(C3c a b).getD i default=0) (fun k=>4-k) fun k hk=>?_;obtain ⟨hk,he⟩:=hk;refine Eh (fun h=>?_) fun h=>?_
 ·have h:k<4:=by omega
  have hk:(C3c a b).length=4:=rfl
  have hq:∀i,i<4→(C3c a b).getD i default=Oi ((R6 a).getD i default) ((R6 b).getD i default):=fun i hi=>by
   match i,hi with
   | 0,_=>rfl
   | 1,_=>rfl
   | 2,_=>rfl
   | 3,_=>rfl
  refine B8 ?_;refine zne (fun h3=>?_) fun h3=>?_
  ·refine B8 ?_
   exact An A0 rfl rfl ⟨A6 vi ((A7x _ _ k (fun i hi=>(hq i A7).symm.trans (he i hi)) rfl h (by rw [←hq k h];exact h3)).trans (hq k h).symm),trivial⟩
  refine B8 ?_;refine Ci [] (k+1) ⟨by omega,fun i hi=>(X3.1 hi).elim (fun h4=>he i h4) (fun h4=>h4▸h3)⟩ A7 ⟨rfl,trivial⟩ ⟨rfl,trivial⟩
 have hq:∀i,i<4→(C3c a b).getD i default=Oi ((R6 a).getD i default) ((R6 b).getD i default):=fun i hi=>by
  match i,hi with
  | 0,_=>rfl
  | 1,_=>rfl
  | 2,_=>rfl
  | 3,_=>rfl
 exact An A0 rfl rfl ⟨A6 vi (B1w (R6 a) (R6 b) (fun i hi=>(hq i hi).symm.trans (he i (by have:i<4:=hi;omega))) rfl),trivial⟩
def A2t (g:B2) (k:Int):Int:=(g.ak.getD k.toNat default).kind
def Ve (g:B2) (i:Nat) (x:D5) (k:Int):Prop:=k<g.ak.length∧(x.kind=7→k≤i∧(A2t g k=5∨A2t g k=6))∧(x.kind≠7→i<k)
instance (g:B2) (i:Nat) (x:D5) (k:Int):Decidable (Ve g i x k):=by unfold Ve;infer_instance
def R0 (g:B2) (i:Nat):Prop:=Jc (g.ak.getD i default)∧((g.ak.getD i default).kind=1↔i=0)∧∀k∈(g.ak.getD i default).ax,Ve g i (g.ak.getD i default) k
instance (g:B2) (i:Nat):Decidable (R0 g i):=by unfold R0;infer_instance
def I4 (g:B2):Prop:=(1≤g.ak.length∧g.ak.length≤8)∧(1≤g.aq∧g.aq≤4)∧(1≤g.cap∧g.cap≤4)∧∀i,i<g.ak.length→R0 g i
instance (g:B2):Decidable (I4 g):=by unfold I4;infer_instance
def F5 (g:B2):Bool:=decide (I4 g)
def Mu (p:Nat→Prop) (k:Nat):Prop:=∀i,i<k→p i
theorem Di (p:Nat→Prop):Mu p 0:=fun i h=>absurd h (Kt i)
variable {k : Nat}
theorem Dh {p:Nat→Prop}(h:Mu p k)(hk:p k):Mu p (k+1):=fun i hi=>by
 by_cases e:i=k
 ·subst e;exact hk
 exact h i A7
theorem Im {α:Type} [Inhabited α] {l:List α}{p:α→Prop}(h:Mu (fun i=>p (l.getD i default)) l.length):∀x∈l,p x:=fun x hx=>by
 obtain ⟨i,hi,e⟩:=Ry hx
 have:p (l.getD i default):=h i hi
 rw [List.getD,Cl hi] at this;rw [←e];exact this
theorem B2.nodes_le {g:B2}{n:Nat}(h:g.w≤n):g.ak.length≤n:=by
 have:g.ak.length+(g.ak.map D5.w).sum≤n:=h
 omega
theorem B2.node_le {g:B2}{n:Nat}(h:g.w≤n)(hk:k<g.ak.length):(g.ak.getD k default).w≤n:=by
 have:g.ak.length+(g.ak.map D5.w).sum≤n:=h
 have hle:=Gf D5.w g.ak k hk;omega
theorem C7q {z:Int}(h:((z==1) !=((k:Int)==0))=true):¬ (z=1↔k=0):=by
 intro q
 by_cases e:k=0
 ·have:=q.2 e
  subst this;subst e;exact absurd h Cw
 have e1:¬ z=1:=fun e2=>e (q.1 e2);rw [Tg.2 e1,Tg.2 (show (k:Int)≠0 by omega)] at h
 exact absurd h Cw
theorem C7p {z:Int}(h:((z==1) !=((k:Int)==0))=false):z=1↔k=0:=by
 have h:=A0m.1 h
 constructor
 ·intro e
  have h2:((k:Int)==0)=true:=by rw [←h,e];rfl
  have:=eq_of_beq h2
  omega
 intro e;have h2:(z==1)=true:=by rw [h,e];rfl
 exact eq_of_beq h2
theorem Oq (g:B2)(hg:g.w≤16777216):Dj 88 [.agg g.c] [.one (vb (F5 g))]:=by
 have hn:=B2.nodes_le hg;have hu:=Di (R0 g);refine E3 Tryz.func88 fun W=>?_
 repeat' (first|(refine I1 ?_;conv=>whnf)|(refine I2 ?_;conv=>whnf)|(refine ⟨fun h=>?_,fun h=>?_⟩<;>conv=>whnf)|(refine As (H3 _ _ _) rfl (Aj ?_))|(refine Co ?_;conv=>whnf)|fail)
 all_goals try (refine An A0 rfl rfl ⟨A6 vb (Cb fun p=>?_),trivial⟩;have p1:=p.1;have p2:=p.2.1;have p3:=p.2.2.1;clear p;simp only [Ey] at * <;>omega)
 refine Fv [] (fun k:Nat=>[(3,.c (vi k))]) (fun k=>[⟨0,[.c (Ax g.ak),.c (vi g.aq),.c (vi g.cap)]⟩]) (fun k=>[]) (fun k=>k≤g.ak.length∧Mu (R0 g) k) (fun k=>g.ak.length-k) fun k hk=>?_;obtain ⟨hk,he⟩:=hk;refine Eh (fun h'=>?_) fun h'=>?_
 ·have h':k<g.ak.length:=by omega
  have hw:=B2.node_le hg h';have hq:(g.ak.getD k default).ax.length≤16777216:=hw;have hv:=Di (fun j=>Ve g k (g.ak.getD k default) ((g.ak.getD k default).ax.getD j default))
  repeat' (first|(refine I1 ?_;conv=>whnf)|(refine I2 ?_;conv=>whnf)|(refine ⟨fun h=>?_,fun h=>?_⟩<;>conv=>whnf)|(refine As (Zv (g.ak.getD k default) hw) rfl (Iv ?_);conv=>whnf)|(refine Co ?_;conv=>whnf)|fail)
  ·exact An A0 rfl rfl ⟨A6 vb (Cb fun p=>by rw [show Lh (g.ak.getD k default)=true from Dg (p.2.2.2 k h').1] at h;exact absurd h Cw),trivial⟩
  ·exact An A0 rfl rfl ⟨A6 vb (Cb fun p=>C7q h (p.2.2.2 k h').2.1),trivial⟩
  rename_i hno
  have hN:Jc (g.ak.getD k default):=Bj (show Lh (g.ak.getD k default)=true by cases hq2:Lh (g.ak.getD k default)<;>simp_all only [Bool.not_false,A9w])
  have hK:(g.ak.getD k default).kind=1↔k=0:=C7p h;have hO:=hN.2.2.2.2.2.2.2.2;refine Fv [] (fun j:Nat=>[(5,.c (vi j))]) (fun j=>[⟨0,[.c (Ax g.ak),.c (vi g.aq),.c (vi g.cap)]⟩,⟨1,[.c (vi (g.ak.getD k default).kind),.c (vi (g.ak.getD k default).a),.c (vi (g.ak.getD k default).b),.c (Ej (g.ak.getD k default).ax)]⟩]) (fun j=>[]) (fun j=>j≤(g.ak.getD k default).ax.length∧Mu (fun j=>Ve g k (g.ak.getD k default) ((g.ak.getD k default).ax.getD j default)) j) (fun j=>(g.ak.getD k default).ax.length-j) fun j hj=>?_;obtain ⟨hj,hej⟩:=hj;refine Eh (fun h2=>?_) fun h2=>?_
  ·have h2:j<(g.ak.getD k default).ax.length:=by first|omega|(simp only [Bu] at h2;omega)
   have hb:=hO _ (Am (d:=default) h2)
   repeat' (first|(refine I1 ?_;conv=>whnf)|(refine I2 ?_;conv=>whnf)|(refine ⟨fun h=>?_,fun h=>?_⟩<;>conv=>whnf)|(refine Co ?_;conv=>whnf)|fail)
   all_goals try (refine An A0 rfl rfl ⟨A6 vb (Cb fun p=>?_),trivial⟩;have q:=(p.2.2.2 k h').2.2 _ (Am (d:=default) h2);clear p hej he hv hu hN hK hO;simp only [Ve,A2t] at q;simp only [Ey] at * <;>omega)
   all_goals
    refine Ci [] (j+1) ⟨by omega,Dh hej (by clear hej he hv hu hN hK hO;simp only [Ve,A2t];simp only [Ey] at * <;>omega)⟩ A7 ⟨rfl,trivial⟩ trivial
  have e:j=(g.ak.getD k default).ax.length:=by first|omega|(simp only [Bu] at h2;omega)
  refine B8 ?_;refine Ci [] (k+1) ⟨by omega,Dh he ⟨hN,hK,Im (e▸hej)⟩⟩ A7 ⟨rfl,trivial⟩ trivial
 have e:k=g.ak.length:=by omega
 exact An A0 rfl rfl ⟨A6 vb (Dg ⟨by simp only [Ey] at * <;>omega,by simp only [Ey] at * <;>omega,by simp only [Ey] at * <;>omega,e▸he⟩),trivial⟩
def Ti (l:List Ad):Prop:=∀i,i<l.length-1→Mw (l.getD i default) (l.getD (i+1) default)<0
instance (l:List Ad):Decidable (Ti l):=by unfold Ti;infer_instance
def Xb (l:List Ad):Bool:=decide (Ti l)
theorem B57 (l:List Ad)(hl:l.length≤16777216):Dj 305 [.one (Ai l)] [.one (vb (Xb l))]:=by
 refine E3 Tryz.func305 fun W=>?_;refine zlW [] (fun j:Nat=>[(3,.c (vi ((j:Int)+1)))]) (fun j=>[]) (fun j=>[]) (fun j=>j≤l.length∧Mu (fun i=>Mw (l.getD i default) (l.getD (i+1) default)<0) j) (fun j=>l.length-j) (0) (⟨Fk _,Di _⟩) fun j hj=>?_;obtain ⟨hj,he⟩:=hj;refine Eh (fun h=>?_) fun h=>?_
 ·have h:j+1<l.length:=by omega
  have e1:((j:Int)+1-1).toNat=j:=by omega
  have e2:((j:Int)+1).toNat=j+1:=by omega
  refine B8 ?_
  first|(refine Al 4 rfl [0,1,2,3,4,5,6,7,8,9,10] Ah (Aj ?_))
  refine B8 ?_;refine F0 (Y6 (l.getD ((j:Int)+1-1).toNat default) (l.getD ((j:Int)+1).toNat default)) ?_;refine Eh (fun h2=>?_) fun h2=>?_
  all_goals rw [e1,e2] at h2
  ·exact An A0 rfl rfl ⟨A6 vb (Cb fun p=>by have:=p j A7;omega),trivial⟩
  refine B8 ?_;refine Ci [] (j+1) (⟨by omega,Dh he A7⟩) A7 ⟨rfl,trivial⟩ trivial
 exact An A0 rfl rfl ⟨A6 vb (Dg fun i hi=>he i A7),trivial⟩
theorem B7x (l:List Ad)(hl:l.length≤16777216):Dj 258 [.one (Ai l)] [.one (vb (Xb l))]:=by
 refine E3 Tryz.func258 fun W=>?_;refine zlW [] (fun j:Nat=>[(3,.c (vi ((j:Int)+1)))]) (fun j=>[]) (fun j=>[]) (fun j=>j≤l.length∧Mu (fun i=>Mw (l.getD i default) (l.getD (i+1) default)<0) j) (fun j=>l.length-j) (0) (⟨Fk _,Di _⟩) fun j hj=>?_;obtain ⟨hj,he⟩:=hj;refine Eh (fun h=>?_) fun h=>?_
 ·have h:j+1<l.length:=by omega
  have e1:((j:Int)+1-1).toNat=j:=by omega
  have e2:((j:Int)+1).toNat=j+1:=by omega
  refine B8 ?_
  first|(refine Al 4 rfl [0,1,2,3,4,5,6,7,8,9,10] Ah (Aj ?_))
  refine B8 ?_;refine F0 (Yr (l.getD ((j:Int)+1-1).toNat default) (l.getD ((j:Int)+1).toNat default)) ?_;refine Eh (fun h2=>?_) fun h2=>?_
  all_goals rw [e1,e2] at h2
  ·exact An A0 rfl rfl ⟨A6 vb (Cb fun p=>by have:=p j A7;omega),trivial⟩
  refine B8 ?_;refine Ci [] (j+1) (⟨by omega,Dh he A7⟩) A7 ⟨rfl,trivial⟩ trivial
 exact An A0 rfl rfl ⟨A6 vb (Dg fun i hi=>he i A7),trivial⟩
def A2i (n:Nat) (l:List Aa):Prop:=∀r∈l,Gu r∧r.op<n
instance (n:Nat) (l:List Aa):Decidable (A2i n l):=by unfold A2i;infer_instance
def Yf (n:Nat) (l:List Aa):Bool:=decide (A2i n l)
theorem Tv (g:B2)(k:Int)(hg:g.w≤16777216):Dj 217 [.agg g.c,.one (vi k)] [.one (vb (Dv k 0 (g.ak.length-1)))]:=by
 have hn:=B2.nodes_le hg;refine E3 Tryz.func217 fun W=>?_;refine B8 ?_;refine F0 (H9 k 0 (g.ak.length-1)) ?_;exact An A0 rfl rfl ⟨rfl,trivial⟩
theorem Kp {r:Aa}:F8 r=true↔Gu r:=decide_eq_true_iff
theorem Xh (g:B2)(l:List Aa)(hg:g.w≤16777216)(hl:l.length≤16777216):Dj 272 [.agg g.c,.one (A9 l)] [.one (vb (Yf g.ak.length l))]:=by
 have hu:=Di (fun i=>Gu (l.getD i default)∧(l.getD i default).op<g.ak.length);have hn:=B2.nodes_le hg;refine E3 Tryz.func272 fun W=>?_;refine Fv [] (fun k:Nat=>[(9,.c (vi k))]) (fun k=>[⟨0,[.c (Ax g.ak),.c (vi g.aq),.c (vi g.cap)]⟩]) (fun k=>[]) (fun k=>k≤l.length∧Mu (fun i=>Gu (l.getD i default)∧(l.getD i default).op<g.ak.length) k) (fun k=>l.length-k) fun k hk=>?_;obtain ⟨hk,he⟩:=hk;refine Eh (fun h'=>?_) fun h'=>?_
 ·have h':k<l.length:=by omega
  repeat' (first|(refine I1 ?_;conv=>whnf)|(refine I2 ?_;conv=>whnf)|(refine ⟨fun h=>?_,fun h=>?_⟩<;>conv=>whnf)|(refine As (Ih (l.getD k default)) rfl (Iv ?_);conv=>whnf)|(refine As (Tv g _ hg) rfl (Aj ?_))|(refine Co ?_;conv=>whnf)|fail)
  all_goals try (refine An A0 rfl rfl ⟨A6 vb (Cb fun p=>?_),trivial⟩;obtain ⟨p1,p2⟩:=p _ (Am (d:=default) h');first|(rw [Kp.2 p1] at h;exact absurd h Cw)|(have p3:=p1.1;clear he hu;simp only [Ey] at * <;>omega))
  all_goals
   have hp:Gu (l.getD k default):=Kp.1 (by first|(simpa using h)|(rename_i q _;simpa using q)|(rename_i q;simpa using q));refine Ci [] (k+1) ⟨by omega,Dh he ⟨hp,by clear he hu hp;simp only [Ey] at * <;>omega⟩⟩ A7 ⟨rfl,trivial⟩ trivial
 have e:k=l.length:=by omega
 exact An A0 rfl rfl ⟨A6 vb (Dg (Im (p:=fun r=>Gu r∧r.op<g.ak.length) (e▸he))),trivial⟩
theorem Xt (g:B2)(l:List Aa)(hg:g.w≤16777216)(hl:l.length≤16777216):Dj 213 [.agg g.c,.one (A9 l)] [.one (vb (Yf g.ak.length l))]:=by
 have hu:=Di (fun i=>Gu (l.getD i default)∧(l.getD i default).op<g.ak.length);have hn:=B2.nodes_le hg;refine E3 Tryz.func213 fun W=>?_;refine Fv [] (fun k:Nat=>[(5,.c (vi k))]) (fun k=>[⟨0,[.c (Ax g.ak),.c (vi g.aq),.c (vi g.cap)]⟩]) (fun k=>[]) (fun k=>k≤l.length∧Mu (fun i=>Gu (l.getD i default)∧(l.getD i default).op<g.ak.length) k) (fun k=>l.length-k) fun k hk=>?_;obtain ⟨hk,he⟩:=hk;refine Eh (fun h'=>?_) fun h'=>?_
 ·have h':k<l.length:=by omega
  repeat' (first|(refine I1 ?_;conv=>whnf)|(refine I2 ?_;conv=>whnf)|(refine ⟨fun h=>?_,fun h=>?_⟩<;>conv=>whnf)|(refine As (Jo (l.getD k default)) rfl (Iv ?_);conv=>whnf)|(refine As (H3 _ _ _) rfl (Aj ?_))|(refine Co ?_;conv=>whnf)|(refine Al 4 rfl [0,1,2,3,4,5,6,7,8,9,10,11,12,13,14,15,16] Ah (Aj ?_))|fail)
  all_goals try (refine An A0 rfl rfl ⟨A6 vb (Cb fun p=>?_),trivial⟩;obtain ⟨p1,p2⟩:=p _ (Am (d:=default) h');first|(rw [Kp.2 p1] at h;exact absurd h Cw)|(have p3:=p1.1;clear he hu;simp only [Ey] at * <;>omega))
  all_goals
   have hp:Gu (l.getD k default):=Kp.1 (by first|(simpa using h)|(rename_i q _;simpa using q)|(rename_i q;simpa using q));refine Ci [] (k+1) ⟨by omega,Dh he ⟨hp,by clear he hu hp;simp only [Ey] at * <;>omega⟩⟩ A7 ⟨rfl,trivial⟩ trivial
 have e:k=l.length:=by omega
 exact An A0 rfl rfl ⟨A6 vb (Dg (Im (p:=fun r=>Gu r∧r.op<g.ak.length) (e▸he))),trivial⟩
def C45 (l:List Aa):Prop:=∀r∈l,Gu r
instance (l:List Aa):Decidable (C45 l):=by unfold C45;infer_instance
theorem C3v (l:List Aa)(hl:l.length≤16777216):Dj 309 [.one (A9 l)] [.one (vb (decide (C45 l)))]:=by
 have hu:=Di (fun i=>Gu (l.getD i default));refine E3 Tryz.func309 fun W=>?_;refine Fv [] (fun k:Nat=>[(7,.c (vi k))]) (fun k=>[]) (fun k=>[]) (fun k=>k≤l.length∧Mu (fun i=>Gu (l.getD i default)) k) (fun k=>l.length-k) fun k hk=>?_;obtain ⟨hk,he⟩:=hk;refine Eh (fun h'=>?_) fun h'=>?_
 ·have h':k<l.length:=by omega
  refine B8 ?_;refine F0 (Ih (l.getD k default)) ?_;refine Cc (fun h=>?_) fun h=>?_
  ·exact An A0 rfl rfl ⟨A6 vb (Cb fun p=>by rw [Kp.2 (p _ (Am (d:=default) h'))] at h;exact absurd h Cw),trivial⟩
  refine B8 ?_;refine Ci [] (k+1) ⟨by omega,Dh he (Kp.1 (by simpa using h))⟩ A7 ⟨rfl,trivial⟩ trivial
 have e:k=l.length:=by omega
 exact An A0 rfl rfl ⟨A6 vb (Dg (Im (p:=Gu) (e▸he))),trivial⟩
def A56 (l:D4):Prop:=(1≤l.cap∧l.cap≤4)∧(0≤l.bv∧l.bv≤l.cap)∧(0≤l.back∧l.back≤l.cap)∧l.bv+l.back+l.ar.length=l.cap∧(0≤l.bj∧l.bj≤1000000000)∧0≤l.got∧l.bj-l.got=l.ar.length
instance (l:D4):Decidable (A56 l):=by unfold A56;infer_instance
def Hm (l:D4):Prop:=A56 l∧C45 l.ar
instance (l:D4):Decidable (Hm l):=by unfold Hm;infer_instance
def K6 (l:D4):Bool:=decide (Hm l)
theorem Tw (l:D4)(hl:l.w≤16777216)(og2:l.got≤9223372036854775807):Dj 271 [.agg l.c] [.one (vb (K6 l))]:=by
 have hq:l.ar.length≤16777216:=hl;refine E3 Tryz.func271 fun W=>?_
 repeat' (first|(refine I1 ?_;conv=>whnf)|(refine I2 ?_;conv=>whnf)|(refine ⟨fun h=>?_,fun h=>?_⟩<;>conv=>whnf)|(refine As (H9 _ _ _) rfl (Aj ?_))|(refine As (C3v l.ar hq) rfl (Aj ?_))|(refine Co ?_;conv=>whnf)|fail)
 all_goals first
  |(refine An A0 rfl rfl ⟨A6 vb (Cb fun p=>?_),trivial⟩;obtain ⟨⟨p1,p2,p3,p4,p5,p6,p7⟩,_⟩:=p;simp only [Ey] at * <;>omega)
  |(refine An A0 rfl rfl ⟨A6 vb (Uv.2 ⟨fun p=>p.2,fun p=>⟨?_,p⟩⟩),trivial⟩;refine ⟨?_,?_,?_,?_,?_,?_,?_⟩<;>(simp only [Ey] at * <;>omega))
theorem Uh (l:D4)(hl:l.w≤16777216):Dj 212 [.agg l.c] [.one (vb (K6 l))]:=by
 have hq:l.ar.length≤16777216:=hl;have hu:=Di (fun i=>Gu (l.ar.getD i default));refine E3 Tryz.func212 fun W=>?_;refine Fv [] (fun k:Nat=>[(3,.c (vi k))]) (fun k=>[⟨0,[.c (vi l.cap),.c (A9 l.ar),.c (vi l.bv),.c (vi l.back),.c (vi l.bj),.c (vi l.got)]⟩]) (fun k=>[]) (fun k=>k≤l.ar.length∧Mu (fun i=>Gu (l.ar.getD i default)) k) (fun k=>l.ar.length-k) fun k hk=>?_;obtain ⟨hk,he⟩:=hk;refine Eh (fun h'=>?_) fun h'=>?_
 ·have h':k<l.ar.length:=by omega
  refine B8 ?_;refine F0 (Jo (l.ar.getD k default)) ?_;refine Cc (fun h=>?_) fun h=>?_
  ·exact An A0 rfl rfl ⟨A6 vb (Cb fun p=>by rw [Kp.2 (p.2 _ (Am (d:=default) h'))] at h;exact absurd h Cw),trivial⟩
  refine B8 ?_;refine Ci [] (k+1) ⟨by omega,Dh he (Kp.1 (by simpa using h))⟩ A7 ⟨rfl,trivial⟩ trivial
 have e:k=l.ar.length:=by omega
 have hA:C45 l.ar:=Im (p:=Gu) (e▸he)
 clear he hu
 repeat' (first|(refine I1 ?_;conv=>whnf)|(refine I2 ?_;conv=>whnf)|(refine ⟨fun h=>?_,fun h=>?_⟩<;>conv=>whnf)|(refine As (H3 _ _ _) rfl (Aj ?_))|(refine Co ?_;conv=>whnf)|fail)
 all_goals first
  |(refine An A0 rfl rfl ⟨A6 vb (Cb fun p=>?_),trivial⟩;obtain ⟨⟨p1,p2,p3,p4,p5,p6,p7⟩,_⟩:=p;clear hA;simp only [Ey] at * <;>omega)
  |(refine An A0 rfl rfl ⟨A6 vb (Uv.2 ⟨fun p=>p.1.2.2.2.2.2.1,fun p=>⟨?_,hA⟩⟩),trivial⟩;clear hA;refine ⟨?_,?_,?_,?_,?_,?_,?_⟩<;>(simp only [Ey] at * <;>omega))
theorem A43 (xs:List Aa)(e:Int)(hx:xs.length≤16777216):Dj 314 [.one (A9 xs),.one (vi e)] [.one (A9 (F6 xs e))]:=by
 refine E3 Tryz.func314 fun W=>?_;refine H5 0 (A9 []) rfl C3 ?_;refine Fv [7] (fun k:Nat=>[(6,.c (vi k))]) (fun k=>[]) (fun k=>[⟨0,A9 (F6 (xs.take k) e)⟩]) (fun k=>k≤xs.length) (fun k=>xs.length-k) fun k hk=>?_;refine Eh (fun h=>?_) fun h=>?_
 ·have h:k<xs.length:=by omega
  have hs:=Em (fun r=>r.am.ab==e) xs k h;have hb:=Dx (fun r=>r.am.ab==e) xs k;refine B8 ?_;refine Cc (fun hc=>?_) fun hc=>?_
  ·refine B8 ?_
   refine B9 A0 rfl (A9 (F6 (xs.take k) e++[xs.getD k default])) (Ao rfl) Hy (by show (List.filter _ _).length+1≤_;omega) (Er ?_)
   refine Ci [(0,2)] (k+1) A7 A7 ⟨rfl,trivial⟩ ⟨A6 A9 (by show _=List.filter _ _;rw [hs];exact A6 (fun l=>List.filter _ (xs.take k)++l) (Ak hc).symm),trivial⟩
  refine B8 ?_;refine Ci [] (k+1) A7 A7 ⟨rfl,trivial⟩ ⟨A6 A9 (by show _=List.filter _ _;rw [hs];exact (Hw _).symm.trans (A6 (fun l=>List.filter _ (xs.take k)++l) (Ab (X1.1 hc)).symm)),trivial⟩
 refine An A0 rfl rfl ⟨?_,trivial⟩;exact A6 (fun l=>A9 (F6 l e)) (F9 xs k A7)
theorem Vx (xs:List Aa)(e:Int)(hx:xs.length≤16777216):Dj 118 [.one (A9 xs),.one (vi e)] [.one (A9 (F6 xs e))]:=by
 refine E3 Tryz.func118 fun W=>?_;refine U4 5 5 (fun i=>Aa.c (([]:List Aa).getD i default)) rfl ?_;refine Fv [] (fun k:Nat=>[(10,.c (vi k))]) (fun k=>[]) (fun k=>[⟨0,A9 (F6 (xs.take k) e)⟩]) (fun k=>k≤xs.length) (fun k=>xs.length-k) fun k hk=>?_;refine Eh (fun h=>?_) fun h=>?_
 ·have h:k<xs.length:=by omega
  have hs:=Em (fun r=>r.am.ab==e) xs k h;have hb:=Dx (fun r=>r.am.ab==e) xs k;refine B8 ?_;refine Cc (fun hc=>?_) fun hc=>?_
  ·refine B8 ?_
   refine B9 A0 rfl (A9 (F6 (xs.take k) e++[xs.getD k default])) (Ao rfl) Hy (by show (List.filter _ _).length+1≤_;omega) (Er ?_)
   refine Ci [(0,3)] (k+1) A7 A7 ⟨rfl,trivial⟩ ⟨A6 A9 (by show _=List.filter _ _;rw [hs];exact A6 (fun l=>List.filter _ (xs.take k)++l) (Ak hc).symm),trivial⟩
  refine B8 ?_;refine Ci [] (k+1) A7 A7 ⟨rfl,trivial⟩ ⟨A6 A9 (by show _=List.filter _ _;rw [hs];exact (Hw _).symm.trans (A6 (fun l=>List.filter _ (xs.take k)++l) (Ab (X1.1 hc)).symm)),trivial⟩
 refine An A0 rfl rfl ⟨?_,trivial⟩;exact A6 (fun l=>A9 (F6 l e)) (F9 xs k A7)
theorem B9h (xs:List Aa)(hx:xs.length≤16777216)(f:Nat)(cs:List Ag)(p:Aa→Bool)(hf:∀x∈xs,Dj f [.agg x.c,.ptr cs] [.one (vb (p x))]):
  Dj 326 [.one (A9 xs),.fn f [.ptr cs]] [.one (vi (P8 p xs))]:=by
 refine E3 Tryz.func326 fun W=>?_;refine Fv [] (fun k:Nat=>[(8,.c (vi k))]) (fun k=>[]) (fun k=>[]) (fun k=>k≤xs.length∧(xs.take k).any p=false) (fun k=>xs.length-k) fun k hk=>?_;obtain ⟨hk,he⟩:=hk;refine Eh (fun h=>?_) fun h=>?_
 ·have h:k<xs.length:=by omega
  refine B8 ?_;refine F0 (hf (xs.getD k default) (Am h)) ?_;refine Cc (fun hc=>?_) fun hc=>?_
  ·exact An A0 rfl rfl ⟨A6 vi (Sp p xs k he h hc),trivial⟩
  refine B8 ?_;refine Ci [] (k+1) ⟨by omega,Gn he h hc⟩ A7 ⟨rfl,trivial⟩ trivial
 exact An A0 rfl rfl ⟨A6 vi (M4 p xs (by rw [F9 xs k A7] at he;exact he)),trivial⟩
theorem B5k (xs:List Aa)(hx:xs.length≤16777216)(f:Nat)(cs:List Ag)(p:Aa→Bool)(hf:∀x∈xs,Dj f [.agg x.c,.ptr cs] [.one (vb (p x))]):
  Dj 310 [.one (A9 xs),.fn f [.ptr cs]] [.one (vb (xs.any p))]:=by
 refine E3 Tryz.func310 fun W=>?_;refine F0 (B9h xs hx f cs p hf) ?_;exact An A0 rfl rfl ⟨A6 vb (A2p p xs).symm,trivial⟩
theorem C6s (xs:List Gv)(hx:xs.length≤16777216)(f:Nat)(cs:List Ag)(p:Gv→Bool)(hf:∀x∈xs,Dj f [.agg x.c,.ptr cs] [.one (vb (p x))]):
  Dj 208 [.one (Hu xs),.fn f [.ptr cs]] [.one (vi (P8 p xs))]:=by
 refine E3 Tryz.func208 fun W=>?_;refine Fv [] (fun k:Nat=>[(8,.c (vi k))]) (fun k=>[]) (fun k=>[]) (fun k=>k≤xs.length∧(xs.take k).any p=false) (fun k=>xs.length-k) fun k hk=>?_;obtain ⟨hk,he⟩:=hk;refine Eh (fun h=>?_) fun h=>?_
 ·have h:k<xs.length:=by omega
  refine B8 ?_;refine F0 (hf (xs.getD k default) (Am h)) ?_;refine Cc (fun hc=>?_) fun hc=>?_
  ·exact An A0 rfl rfl ⟨A6 vi (Sp p xs k he h hc),trivial⟩
  refine B8 ?_;refine Ci [] (k+1) ⟨by omega,Gn he h hc⟩ A7 ⟨rfl,trivial⟩ trivial
 exact An A0 rfl rfl ⟨A6 vi (M4 p xs (by rw [F9 xs k A7] at he;exact he)),trivial⟩
theorem C3e (xs:List Gv)(hx:xs.length≤16777216)(f:Nat)(cs:List Ag)(p:Gv→Bool)(hf:∀x∈xs,Dj f [.agg x.c,.ptr cs] [.one (vb (p x))]):
  Dj 154 [.one (Hu xs),.fn f [.ptr cs]] [.one (vb (xs.any p))]:=by
 refine E3 Tryz.func154 fun W=>?_;refine F0 (C6s xs hx f cs p hf) ?_;exact An A0 rfl rfl ⟨A6 vb (A2p p xs).symm,trivial⟩
theorem D2x (x:Aa)(e:Int):Dj 311 [.agg x.c,.ptr [vi e]] [.one (vb (decide (x.am.ab≤e)))]:=by
 refine E3 Tryz.func311 fun W=>?_;exact An A0 rfl rfl ⟨rfl,trivial⟩
theorem D2j (x:Gv)(e:Int):Dj 155 [.agg x.c,.ptr [vi e]] [.one (vb (x.ab==e))]:=by
 refine E3 Tryz.func155 fun W=>?_;exact An A0 rfl rfl ⟨rfl,trivial⟩
theorem B9l (x:Ae)(e:Int)(h:x.w≤16777216):Dj 273 [.agg x.c,.one (vi e)] [.one (vb (B9w x e))]:=by
 refine E3 Tryz.func273 fun W=>?_;refine As (B5k x.au (by simp only [Ae.w] at h;omega) _ [vi e] (fun r=>decide (r.am.ab≤e)) (fun r _=>D2x r e)) rfl (Aj ?_);exact An A0 rfl rfl ⟨rfl,trivial⟩
theorem C0j (x:Ae)(e:Int)(h:x.w≤16777216):Dj 279 [.agg x.c,.one (vi e)] [.one (vb (B9w x e))]:=by
 have hl:x.au.length≤16777216:=by simp only [Ae.w] at h;omega
 refine E3 Tryz.func279 fun W=>?_;refine Fv [] (fun k:Nat=>[(5,.c (vi k))]) (fun k=>[⟨0,[.c (A9 x.ar),.c (A9 x.ae),.c (A9 x.au),.c (Ai x.cells),.c (Ej x.ah),.c (D9 x.al),.c (D9 x.an),.c (Hu x.ai)]⟩]) (fun k=>[]) (fun k=>k≤x.au.length∧(x.au.take k).any (fun r=>decide (r.am.ab≤e))=false) (fun k=>x.au.length-k) fun k hk=>?_;obtain ⟨hk,he⟩:=hk;refine Eh (fun h=>?_) fun h=>?_
 ·have h:k<x.au.length:=by omega
  refine B8 ?_;refine Cc (fun hc=>?_) fun hc=>?_
  ·exact An A0 rfl rfl ⟨A6 vb (R5 h hc),trivial⟩
  refine B8 ?_;refine Ci [] (k+1) ⟨by omega,Gn he h hc⟩ A7 ⟨rfl,trivial⟩ trivial
 exact An A0 rfl rfl ⟨A6 vb (by rw [F9 x.au k A7] at he;exact he),trivial⟩
theorem A7k (xs:List Gv)(e:Int)(h:xs.length≤16777216):Dj 95 [.one (Hu xs),.one (vi e)] [.one (vb (xs.any fun d=>d.ab==e))]:=by
 refine E3 Tryz.func95 fun W=>?_;refine As (C3e xs h _ [vi e] (fun d=>d.ab==e) (fun d _=>D2j d e)) rfl (Aj ?_);exact An A0 rfl rfl ⟨rfl,trivial⟩
theorem Z9 (x:Ae)(e:Int)(h:x.w≤16777216):Dj 46 [.agg x.c,.one (vi e)] [.one (vb (Kl x e))]:=by
 refine E3 Tryz.func46 fun W=>?_;refine F0 (A7k x.ai e (by simp only [Ae.w] at h;omega)) ?_;exact An A0 rfl rfl ⟨rfl,trivial⟩
theorem Zt (x:Ae)(e:Int)(h:x.w≤16777216):Dj 42 [.agg x.c,.one (vi e)] [.one (vb (Kl x e))]:=by
 have hl:x.ai.length≤16777216:=by simp only [Ae.w] at h;omega
 refine E3 Tryz.func42 fun W=>?_;refine Fv [] (fun k:Nat=>[(5,.c (vi k))]) (fun k=>[⟨0,[.c (A9 x.ar),.c (A9 x.ae),.c (A9 x.au),.c (Ai x.cells),.c (Ej x.ah),.c (D9 x.al),.c (D9 x.an),.c (Hu x.ai)]⟩]) (fun k=>[]) (fun k=>k≤x.ai.length∧(x.ai.take k).any (fun d=>d.ab==e)=false) (fun k=>x.ai.length-k) fun k hk=>?_;obtain ⟨hk,he⟩:=hk;refine Eh (fun h=>?_) fun h=>?_
 ·have h:k<x.ai.length:=by omega
  refine B8 ?_;refine Cc (fun hc=>?_) fun hc=>?_
  ·exact An A0 rfl rfl ⟨A6 vb (R5 h hc),trivial⟩
  refine B8 ?_;refine Ci [] (k+1) ⟨by omega,Gn he h hc⟩ A7 ⟨rfl,trivial⟩ trivial
 exact An A0 rfl rfl ⟨A6 vb (by rw [F9 x.ai k A7] at he;exact he),trivial⟩
theorem C0l (x:Ae)(e:Int)(h:x.w≤16777216):Dj 280 [.agg x.c,.one (vi e)] [.one (vi (A9l x e))]:=by
 simp only [Ae.w] at h;have h1:=Ny x.ar e;have h2:=Ny x.ae e;refine E3 Tryz.func280 fun W=>?_
 first|(refine Al 1 rfl [0,1,2,5,6,7,3,4,8,9,10,11] Ah (Aj ?_))
 refine F0 (A43 x.ar e A7) ?_;refine As (A43 x.ae e A7) rfl (Er ?_);exact An A0 rfl rfl ⟨A6 vi (by simp only [A9l];omega),trivial⟩
theorem B0p (x:Ae)(e:Int)(hx:x.w≤16777216):Dj 247 [.agg x.c,.one (vi e)] [.one (vb (L4 x e))]:=by
 refine E3 Tryz.func247 fun W=>?_;refine F0 (C0j x e hx) ?_
 repeat' (first|(refine I1 ?_;conv=>whnf)|(refine I2 ?_;conv=>whnf)|(refine ⟨fun h=>?_,fun h=>?_⟩<;>conv=>whnf)|(refine H8 ?_;conv=>whnf)|fail)
 all_goals first
  |(refine As (C0l x e hx) rfl (Aj ?_))
  |(refine An A0 rfl rfl ⟨?_,trivial⟩;(conv=>whnf);refine A6 vb ?_;simp_all [L4];done)
 repeat' (first|(refine I1 ?_;conv=>whnf)|(refine I2 ?_;conv=>whnf)|(refine ⟨fun h=>?_,fun h=>?_⟩<;>conv=>whnf)|(refine H8 ?_;conv=>whnf)|fail)
 all_goals (refine An A0 rfl rfl ⟨?_,trivial⟩;(conv=>whnf);refine A6 vb ?_;simp_all [L4])
theorem B9n (x:Ae)(e:Int)(h:x.w≤16777216):Dj 274 [.agg x.c,.one (vi e)] [.one (vi (A9l x e))]:=by
 simp only [Ae.w] at h;have h1:=Ny x.ar e;have h2:=Ny x.ae e;refine E3 Tryz.func274 fun W=>?_
 first|(refine Al 1 rfl [0,1,2,5,6,7,3,4,8,9,10,11] Ah (Aj ?_))
 refine F0 (Vx x.ar e A7) ?_;refine As (Vx x.ae e A7) rfl (Er ?_);exact An A0 rfl rfl ⟨A6 vi (by simp only [A9l];omega),trivial⟩
theorem B0a (x:Ae)(e:Int)(hx:x.w≤16777216):Dj 234 [.agg x.c,.one (vi e)] [.one (vb (L4 x e))]:=by
 refine E3 Tryz.func234 fun W=>?_;refine F0 (B9l x e hx) ?_
 repeat' (first|(refine I1 ?_;conv=>whnf)|(refine I2 ?_;conv=>whnf)|(refine ⟨fun h=>?_,fun h=>?_⟩<;>conv=>whnf)|(refine H8 ?_;conv=>whnf)|fail)
 all_goals first
  |(refine As (B9n x e hx) rfl (Aj ?_))
  |(refine An A0 rfl rfl ⟨?_,trivial⟩;(conv=>whnf);refine A6 vb ?_;simp_all [L4];done)
 repeat' (first|(refine I1 ?_;conv=>whnf)|(refine I2 ?_;conv=>whnf)|(refine ⟨fun h=>?_,fun h=>?_⟩<;>conv=>whnf)|(refine H8 ?_;conv=>whnf)|fail)
 all_goals (refine An A0 rfl rfl ⟨?_,trivial⟩;(conv=>whnf);refine A6 vb ?_;simp_all [L4])
end Go.Proofs.YtmhcebdkjgkmlaaGreatDoor
