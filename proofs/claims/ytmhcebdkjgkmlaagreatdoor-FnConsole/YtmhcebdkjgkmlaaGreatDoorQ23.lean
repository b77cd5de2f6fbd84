/- Part 23 of the proof that each of the laws FnConsole returns true for every input. No conditions. -/
import Derived.Test.YtmhcebdkjgkmlaaGreatDoorQ22

set_option linter.unusedSimpArgs false
set_option linter.unusedVariables false
set_option maxRecDepth 100000
namespace Go.Proofs.YtmhcebdkjgkmlaaGreatDoor
open Go.Sx
theorem C03 (x y:Ad):Di 333 [.agg y.c,.ptr x.c] [.one (vb (B7 x y))]:=by
 refine E7 Tryz.func333 fun W=>?_;refine Fp (A1f x y) ?_;exact An A0 rfl rfl ⟨rfl,trivial⟩
set_option maxHeartbeats 1000000 in
theorem A7a (l:List Ad)(x:Ad)(hl:l.length≤16000000):Di 325 [.one (Ai l),.agg x.c] [.one (Ai (Km l x).1),.one (vb (Km l x).2)]:=by
 refine E7 Tryz.func325 fun W=>?_;refine Fp (B6b l x.op x.ab x.key A7) ?_;refine C1 (fun h1=>?_) fun h1=>?_
 ·refine As ?_
  refine C1 (fun h2=>?_) fun h2=>?_
  ·refine As ?_
   refine Gf (G3 l A7) ?_;rw [Km,Ak ⟨h1,Bn h2⟩];exact D4
  refine As ?_;refine Gf (G3 l A7) ?_;refine C5p [.own 1] (Vt l _ x.c (fun y=>B7 x y) A7 (C03 x)) (fun _ _=>trivial) (fun _ h=>by cases h) J0 rfl rfl rfl (fun i _=>go A0 false ?_);conv=>whnf
  refine Gf (Rl (l.filter fun y=>!B7 x y) x (by have:=Nr (fun y=>!B7 x y) l;omega)) ?_;rw [Km,Ab (fun p=>absurd p.2 (Cv h2))];exact D4
 refine As ?_;refine Gf (G3 l A7) ?_;refine C5p [.own 1] (Vt l _ x.c (fun y=>B7 x y) A7 (C03 x)) (fun _ _=>trivial) (fun _ h=>by cases h) J0 rfl rfl rfl (fun i _=>go A0 false ?_);conv=>whnf
 refine Gf (Rl (l.filter fun y=>!B7 x y) x (by have:=Nr (fun y=>!B7 x y) l;omega)) ?_;rw [Km,Ab (fun p=>by rw [p.1] at h1;cases h1)];exact D4
theorem B4b {l:List Ad}{x:Ad}:Cz 6 l x=(Dh l x,!Oe l x):=by
 unfold Cz;rw [Ab Bq,Ak rfl]
 cases h:Oe l x with
 |true=>rw [Ak rfl,Dh,Ak h];rfl
 |false=>rw [Ab Bq];rfl
theorem A25 {k:Int}{l:List Ad}{x:Ad}(h5:k≠5)(h8:k≠8)(h6:k≠6):Cz k l x=(l,true):=by
 unfold Cz;rw [Ab A7,Ab h6]
set_option maxHeartbeats 1000000 in
theorem A7j (kind:Int)(l:List Ad)(x:Ad)(hl:l.length≤16000000):Di 307 [.one (vi kind),.one (Ai l),.agg x.c] [.one (Ai (Cz kind l x).1),.one (vb (Cz kind l x).2)]:=by
 refine E7 Tryz.func307 fun W=>?_;refine ⟨fun h5=>have h5:=eq_of_beq h5;?_,fun h5=>have h5:=beq_eq_false_iff_ne.1 h5;?_⟩<;>conv=>whnf
 ·refine As ?_
  refine Gf (A7a l x hl) ?_;rw [Cz,Ak (.inl h5)];exact D4
 refine ⟨fun h8=>have h8:=eq_of_beq h8;?_,fun h8=>have h8:=beq_eq_false_iff_ne.1 h8;?_⟩<;>conv=>whnf
 ·refine As ?_
  refine Gf (A7a l x hl) ?_;rw [Cz,Ak (.inr h8)];exact D4
 refine As ?_;refine ⟨fun h6=>have h6:=eq_of_beq h6;?_,fun h6=>have h6:=beq_eq_false_iff_ne.1 h6;?_⟩<;>conv=>whnf
 ·first|(refine Aj 6 rfl [0,1,3,4,2,5,6,7,8] Am (Ah ?_))
  refine Gf (Rl l x A7) ?_;refine Fp (A33 l x A7) ?_;rw [h6,B4b];exact D4
 refine Gf (G3 l A7) ?_;rw [A25 h5 h8 h6];exact D4
variable {a : Ad} {b : Ad}
theorem Uh (h:b.op≠a.op):(!B7 a b)=true:=by simp only [B7,Mq,Ta];omega
theorem Ui (h:b.ab≠a.ab):(!B7 a b)=true:=by simp only [B7,Mq,Ta];omega
theorem Uj (h:b.key≠a.key):(!B7 a b)=true:=by simp only [B7,Mq,Ta];omega
theorem A13 (h1:b.op=a.op)(h2:b.ab=a.ab)(h3:b.key=a.key):(!B7 a b)=false:=by simp only [B7,Us,Np];omega
set_option maxHeartbeats 4000000 in
theorem A81 (kind:Int)(l:List Ad)(x:Ad)(hl:l.length≤16000000):Di 277 [.one (vi kind),.one (Ai l),.agg x.c] [.one (Ai (Cz kind l x).1),.one (vb (Cz kind l x).2)]:=by
 refine E7 Tryz.func277 fun W=>?_;refine B6 A0 rfl (Ai l) (Bs) (fun _=>Gi l) A7 (Ah ?_);refine ⟨fun h6=>have h6:=eq_of_beq h6;?_,fun h6=>have h6:=beq_eq_false_iff_ne.1 h6;?_⟩<;>conv=>whnf
 ·refine Fp (A4w l x A7) ?_
  refine C1 (fun hc=>?_) fun hc=>?_
  ·rw [h6,B4b,Dh,Ak hc,hc]
   exact D4
  refine Gf (Mo l x A7) ?_;rw [h6,B4b,hc];exact D4
 refine ⟨fun h5=>have h5:=eq_of_beq h5;?_,fun h5=>have h5:=beq_eq_false_iff_ne.1 h5;?_⟩<;>conv=>whnf
 ·refine As ?_
  refine Fp (A4x l x.op x.ab x.key A7) ?_;refine C1 (fun h1=>?_) fun h1=>?_
  ·refine As ?_
   refine C1 (fun h2=>?_) fun h2=>?_
   ·refine As ?_
    rw [Cz,Ak A7,Km,Ak ⟨h1,Bn h2⟩];exact D4
   refine As ?_;refine Eu 3 (Ai []) rfl C0 ?_;refine Fx [48] (fun k:Nat=>[(12,.c (vi k))]) (fun k=>[⟨0,[.c (vi x.op),.c (vi x.ab),.c (vi x.key),.c (vi x.val)]⟩]) (fun k=>[⟨3,Ai ((l.take k).filter (fun y=>!B7 x y))⟩]) (fun k=>k≤l.length) (fun k=>l.length-k) fun k hk=>?_;refine Dv (fun h=>?_) fun h=>?_
   ·have h:k<l.length:=by omega
    have hs:=Er (fun y=>!B7 x y) l k h;have hb:=E8 (fun y=>!B7 x y) l k
    first|(refine Aj 16 rfl [0,1,2,3,4,5,6,7,8,9,10,11,12,13,14,15,16,17,18,19,20,21,22,23,24,25,26,27] Am (Ah ?_))
    refine B4 ?_;refine Y0 (fun n1=>?_) fun n1=>?_
    ·rw [Bv] at n1
     refine As ?_;refine B6 A0 rfl (Ai ((l.take k).filter (fun y=>!B7 x y)++[l.getD k default])) (Ao rfl) Hd A7 (Em ?_);refine Cc [(3,5)] (k+1) A7 A7 ⟨rfl,trivial⟩ ⟨A6 Ai (by rw [hs,Ak (Uh n1)]),trivial⟩
    rw [Bv] at n1;refine As ?_;refine Y0 (fun n2=>?_) fun n2=>?_
    ·rw [Bv] at n2
     refine As ?_;refine B6 A0 rfl (Ai ((l.take k).filter (fun y=>!B7 x y)++[l.getD k default])) (Ao rfl) Hd A7 (Em ?_);refine Cc [(3,5)] (k+1) A7 A7 ⟨rfl,trivial⟩ ⟨A6 Ai (by rw [hs,Ak (Ui n2)]),trivial⟩
    rw [Bv] at n2;refine As ?_;refine Y0 (fun n3=>?_) fun n3=>?_
    ·rw [Bv] at n3
     refine As ?_;refine B6 A0 rfl (Ai ((l.take k).filter (fun y=>!B7 x y)++[l.getD k default])) (Ao rfl) Hd A7 (Em ?_);refine Cc [(3,5)] (k+1) A7 A7 ⟨rfl,trivial⟩ ⟨A6 Ai (by rw [hs,Ak (Uj n3)]),trivial⟩
    rw [Bv] at n3;refine As ?_;refine Cc [] (k+1) A7 A7 ⟨rfl,trivial⟩ ⟨A6 Ai (by rw [hs,Ab (by rw [A13 n1 n2 n3];decide),I4]),trivial⟩
   refine As ?_;obtain rfl:k=l.length:=by omega
   refine Gf (Mo ((l.take l.length).filter fun y=>!B7 x y) x (by have:=Nr (fun y=>!B7 x y) (l.take l.length);rw [H4] at *;omega)) ?_;rw [Cz,Ak A7,Km,Ab (fun p=>absurd p.2 (Cv h2))];refine An A0 rfl rfl ?_;rw [H4];exact J0
  refine As ?_;refine Eu 3 (Ai []) rfl C0 ?_;refine Fx [48] (fun k:Nat=>[(12,.c (vi k))]) (fun k=>[⟨0,[.c (vi x.op),.c (vi x.ab),.c (vi x.key),.c (vi x.val)]⟩]) (fun k=>[⟨3,Ai ((l.take k).filter (fun y=>!B7 x y))⟩]) (fun k=>k≤l.length) (fun k=>l.length-k) fun k hk=>?_;refine Dv (fun h=>?_) fun h=>?_
  ·have h:k<l.length:=by omega
   have hs:=Er (fun y=>!B7 x y) l k h;have hb:=E8 (fun y=>!B7 x y) l k
   first|(refine Aj 16 rfl [0,1,2,3,4,5,6,7,8,9,10,11,12,13,14,15,16,17,18,19,20,21,22,23,24,25,26,27] Am (Ah ?_))
   refine B4 ?_;refine Y0 (fun n1=>?_) fun n1=>?_
   ·rw [Bv] at n1
    refine As ?_;refine B6 A0 rfl (Ai ((l.take k).filter (fun y=>!B7 x y)++[l.getD k default])) (Ao rfl) Hd A7 (Em ?_);refine Cc [(3,5)] (k+1) A7 A7 ⟨rfl,trivial⟩ ⟨A6 Ai (by rw [hs,Ak (Uh n1)]),trivial⟩
   rw [Bv] at n1;refine As ?_;refine Y0 (fun n2=>?_) fun n2=>?_
   ·rw [Bv] at n2
    refine As ?_;refine B6 A0 rfl (Ai ((l.take k).filter (fun y=>!B7 x y)++[l.getD k default])) (Ao rfl) Hd A7 (Em ?_);refine Cc [(3,5)] (k+1) A7 A7 ⟨rfl,trivial⟩ ⟨A6 Ai (by rw [hs,Ak (Ui n2)]),trivial⟩
   rw [Bv] at n2;refine As ?_;refine Y0 (fun n3=>?_) fun n3=>?_
   ·rw [Bv] at n3
    refine As ?_;refine B6 A0 rfl (Ai ((l.take k).filter (fun y=>!B7 x y)++[l.getD k default])) (Ao rfl) Hd A7 (Em ?_);refine Cc [(3,5)] (k+1) A7 A7 ⟨rfl,trivial⟩ ⟨A6 Ai (by rw [hs,Ak (Uj n3)]),trivial⟩
   rw [Bv] at n3;refine As ?_;refine Cc [] (k+1) A7 A7 ⟨rfl,trivial⟩ ⟨A6 Ai (by rw [hs,Ab (by rw [A13 n1 n2 n3];decide),I4]),trivial⟩
  refine As ?_;obtain rfl:k=l.length:=by omega
  refine Gf (Mo ((l.take l.length).filter fun y=>!B7 x y) x (by have:=Nr (fun y=>!B7 x y) (l.take l.length);rw [H4] at *;omega)) ?_;rw [Cz,Ak A7,Km,Ab (fun p=>by rw [p.1] at h1;cases h1)];refine An A0 rfl rfl ?_;rw [H4];exact J0
 refine ⟨fun h8=>have h8:=eq_of_beq h8;?_,fun h8=>have h8:=beq_eq_false_iff_ne.1 h8;?_⟩<;>conv=>whnf
 ·refine As ?_
  refine Fp (A4x l x.op x.ab x.key A7) ?_;refine C1 (fun h1=>?_) fun h1=>?_
  ·refine As ?_
   refine C1 (fun h2=>?_) fun h2=>?_
   ·refine As ?_
    rw [Cz,Ak A7,Km,Ak ⟨h1,Bn h2⟩];exact D4
   refine As ?_;refine Eu 3 (Ai []) rfl C0 ?_;refine Fx [48] (fun k:Nat=>[(12,.c (vi k))]) (fun k=>[⟨0,[.c (vi x.op),.c (vi x.ab),.c (vi x.key),.c (vi x.val)]⟩]) (fun k=>[⟨3,Ai ((l.take k).filter (fun y=>!B7 x y))⟩]) (fun k=>k≤l.length) (fun k=>l.length-k) fun k hk=>?_;refine Dv (fun h=>?_) fun h=>?_
   ·have h:k<l.length:=by omega
    have hs:=Er (fun y=>!B7 x y) l k h;have hb:=E8 (fun y=>!B7 x y) l k
    first|(refine Aj 16 rfl [0,1,2,3,4,5,6,7,8,9,10,11,12,13,14,15,16,17,18,19,20,21,22,23,24,25,26,27] Am (Ah ?_))
    refine B4 ?_;refine Y0 (fun n1=>?_) fun n1=>?_
    ·rw [Bv] at n1
     refine As ?_;refine B6 A0 rfl (Ai ((l.take k).filter (fun y=>!B7 x y)++[l.getD k default])) (Ao rfl) Hd A7 (Em ?_);refine Cc [(3,5)] (k+1) A7 A7 ⟨rfl,trivial⟩ ⟨A6 Ai (by rw [hs,Ak (Uh n1)]),trivial⟩
    rw [Bv] at n1;refine As ?_;refine Y0 (fun n2=>?_) fun n2=>?_
    ·rw [Bv] at n2
     refine As ?_;refine B6 A0 rfl (Ai ((l.take k).filter (fun y=>!B7 x y)++[l.getD k default])) (Ao rfl) Hd A7 (Em ?_);refine Cc [(3,5)] (k+1) A7 A7 ⟨rfl,trivial⟩ ⟨A6 Ai (by rw [hs,Ak (Ui n2)]),trivial⟩
    rw [Bv] at n2;refine As ?_;refine Y0 (fun n3=>?_) fun n3=>?_
    ·rw [Bv] at n3
     refine As ?_;refine B6 A0 rfl (Ai ((l.take k).filter (fun y=>!B7 x y)++[l.getD k default])) (Ao rfl) Hd A7 (Em ?_);refine Cc [(3,5)] (k+1) A7 A7 ⟨rfl,trivial⟩ ⟨A6 Ai (by rw [hs,Ak (Uj n3)]),trivial⟩
    rw [Bv] at n3;refine As ?_;refine Cc [] (k+1) A7 A7 ⟨rfl,trivial⟩ ⟨A6 Ai (by rw [hs,Ab (by rw [A13 n1 n2 n3];decide),I4]),trivial⟩
   refine As ?_;obtain rfl:k=l.length:=by omega
   refine Gf (Mo ((l.take l.length).filter fun y=>!B7 x y) x (by have:=Nr (fun y=>!B7 x y) (l.take l.length);rw [H4] at *;omega)) ?_;rw [Cz,Ak A7,Km,Ab (fun p=>absurd p.2 (Cv h2))];refine An A0 rfl rfl ?_;rw [H4];exact J0
  refine As ?_;refine Eu 3 (Ai []) rfl C0 ?_;refine Fx [48] (fun k:Nat=>[(12,.c (vi k))]) (fun k=>[⟨0,[.c (vi x.op),.c (vi x.ab),.c (vi x.key),.c (vi x.val)]⟩]) (fun k=>[⟨3,Ai ((l.take k).filter (fun y=>!B7 x y))⟩]) (fun k=>k≤l.length) (fun k=>l.length-k) fun k hk=>?_;refine Dv (fun h=>?_) fun h=>?_
  ·have h:k<l.length:=by omega
   have hs:=Er (fun y=>!B7 x y) l k h;have hb:=E8 (fun y=>!B7 x y) l k
   first|(refine Aj 16 rfl [0,1,2,3,4,5,6,7,8,9,10,11,12,13,14,15,16,17,18,19,20,21,22,23,24,25,26,27] Am (Ah ?_))
   refine B4 ?_;refine Y0 (fun n1=>?_) fun n1=>?_
   ·rw [Bv] at n1
    refine As ?_;refine B6 A0 rfl (Ai ((l.take k).filter (fun y=>!B7 x y)++[l.getD k default])) (Ao rfl) Hd A7 (Em ?_);refine Cc [(3,5)] (k+1) A7 A7 ⟨rfl,trivial⟩ ⟨A6 Ai (by rw [hs,Ak (Uh n1)]),trivial⟩
   rw [Bv] at n1;refine As ?_;refine Y0 (fun n2=>?_) fun n2=>?_
   ·rw [Bv] at n2
    refine As ?_;refine B6 A0 rfl (Ai ((l.take k).filter (fun y=>!B7 x y)++[l.getD k default])) (Ao rfl) Hd A7 (Em ?_);refine Cc [(3,5)] (k+1) A7 A7 ⟨rfl,trivial⟩ ⟨A6 Ai (by rw [hs,Ak (Ui n2)]),trivial⟩
   rw [Bv] at n2;refine As ?_;refine Y0 (fun n3=>?_) fun n3=>?_
   ·rw [Bv] at n3
    refine As ?_;refine B6 A0 rfl (Ai ((l.take k).filter (fun y=>!B7 x y)++[l.getD k default])) (Ao rfl) Hd A7 (Em ?_);refine Cc [(3,5)] (k+1) A7 A7 ⟨rfl,trivial⟩ ⟨A6 Ai (by rw [hs,Ak (Uj n3)]),trivial⟩
   rw [Bv] at n3;refine As ?_;refine Cc [] (k+1) A7 A7 ⟨rfl,trivial⟩ ⟨A6 Ai (by rw [hs,Ab (by rw [A13 n1 n2 n3];decide),I4]),trivial⟩
  refine As ?_;obtain rfl:k=l.length:=by omega
  refine Gf (Mo ((l.take l.length).filter fun y=>!B7 x y) x (by have:=Nr (fun y=>!B7 x y) (l.take l.length);rw [H4] at *;omega)) ?_;rw [Cz,Ak A7,Km,Ab (fun p=>by rw [p.1] at h1;cases h1)];refine An A0 rfl rfl ?_;rw [H4];exact J0
 refine As ?_;rw [A25 h5 h8 h6];exact D4
variable {g : B0} {cs : List Ad} {r : Aa}
theorem Xw (h:¬ Pc g r):H2 g cs r=(cs,[],false):=Ab h
theorem B2m (h:Pc g r)(h1:(Bd (Ac g r.op) r.key r.val).2.2=false)(h2:(Ac g r.op).kind≠8):H2 g cs r=(cs,[],true):=by
 unfold H2;rw [Ak h,Ak ⟨h1,h2⟩]
theorem Un (h:Pc g r)(h1:¬ ((Bd (Ac g r.op) r.key r.val).2.2=false∧(Ac g r.op).kind≠8))(h2:(Cz (Ac g r.op).kind cs (Fu r)).2=false):H2 g cs r=((Cz (Ac g r.op).kind cs (Fu r)).1,[],true):=by
 unfold H2;rw [Ak h,Ab h1,Ak h2]
theorem Nl (h:Pc g r)(h1:¬ ((Bd (Ac g r.op) r.key r.val).2.2=false∧(Ac g r.op).kind≠8))(h2:(Cz (Ac g r.op).kind cs (Fu r)).2=true):H2 g cs r=((Cz (Ac g r.op).kind cs (Fu r)).1,Uy g r,true):=by
 unfold H2;rw [Ak h,Ab h1,Ab (by rw [h2];decide)]
def Ss (r:Aa) (s:Iz) (k v:Int) (o:Int):Aa:=⟨o,s,k,v⟩
theorem A6r (h7:(Ac g r.op).kind=7)(h:(Br r.af).2=false):Uy g r=[]:=by
 unfold Uy;rw [Ak ⟨h7,h⟩]
theorem B24 (h7:(Ac g r.op).kind=7)(h:(Br r.af).2=true):Uy g r=(Ac g r.op).ax.map (Ss r (Br r.af).1 (Bd (Ac g r.op) r.key r.val).1 (Bd (Ac g r.op) r.key r.val).2.1):=by
 unfold Uy;rw [Ab (fun p=>by rw [p.2] at h;cases h),Ak h7];rfl
theorem A00 (h7:(Ac g r.op).kind≠7):Uy g r=(Ac g r.op).ax.map (Ss r r.af (Bd (Ac g r.op) r.key r.val).1 (Bd (Ac g r.op) r.key r.val).2.1):=by
 unfold Uy;rw [Ab (fun p=>h7 p.1),Ab h7];rfl
variable {k : Nat}
theorem B0f {α β:Type} [Inhabited α] (f:α→β){l:List α}(hk:k<l.length):(l.take (k+1)).map f=(l.take k).map f++[f (l.getD k default)]:=by
 rw [A3p hk,Qu]
 simp [List.getD,hk]
theorem A5p {op:Int}(hg:g.w≤16777216)(hk:op.toNat<g.ak.length):(Ac g op).w≤16777216∧(Ac g op).ax.length≤16777216:=by
 have:=Iu C3.w g.ak op.toNat hk
 simp only [B0.w,wS] at hg;simp only [Ac];have e:(g.ak.getD op.toNat default).w=(g.ak.getD op.toNat default).ax.length:=rfl;omega
abbrev emL (g:B0) (r:Aa) (s:Iz) (k:Nat):List Aa:=((Ac g r.op).ax.take k).map (Ss r s (Bd (Ac g r.op) r.key r.val).1 (Bd (Ac g r.op) r.key r.val).2.1)
variable {s : Iz}
theorem Rd (h:k<(Ac g r.op).ax.length):emL g r s (k+1)=emL g r s k++[Ss r s (Bd (Ac g r.op) r.key r.val).1 (Bd (Ac g r.op) r.key r.val).2.1 ((Ac g r.op).ax.getD k default)]:=B0f _ h
theorem Vp:(emL g r s k).length≤k:=by
 simp only [emL,Jd,F9];omega
theorem Vo (h:(Ac g r.op).ax.length≤k):emL g r s k=(Ac g r.op).ax.map (Ss r s (Bd (Ac g r.op) r.key r.val).1 (Bd (Ac g r.op) r.key r.val).2.1):=by
 rw [emL,Ms h]
set_option maxHeartbeats 4000000 in
theorem B9o (g:B0)(cs:List Ad)(r:Aa)(hg:g.w≤16777216)(hl:cs.length≤16000000):Di 269 [.agg g.c,.one (Ai cs),.agg r.c] [.one (Ai (H2 g cs r).1),.one (A9 (H2 g cs r).2.1),.one (vb (H2 g cs r).2.2)]:=by
 refine E7 Tryz.func269 fun W=>?_;refine Fp (Kp g A7) ?_;refine C1 (fun h1=>?_) fun h1=>?_
 ·have h1:F2 g=false:=by simpa using h1
  refine As ?_;refine Gf (G3 cs A7) ?_;rw [Xw (fun p=>absurd p.1 (Cv h1))];exact D4
 have h1:Gw g:=Bn (show F2 g=true by simpa using h1)
 refine As ?_;refine Aq (Ij r) rfl (Gu ?_);refine C1 (fun h2=>?_) fun h2=>?_
 ·have h2:Fh r=false:=by simpa using h2
  refine As ?_;refine Gf (G3 cs A7) ?_;rw [Xw (fun p=>absurd p.2.1 (Cv h2))];exact D4
 have h2:H5 r:=Bn (show Fh r=true by simpa using h2)
 refine As ?_;refine Aq (Tx g r.op hg) rfl (Gu ?_);refine C1 (fun h3=>?_) fun h3=>?_
 ·have h3:E4 r.op 0 (g.ak.length-1)=false:=by simpa using h3
  have h4:=Go.Sx.Gd.1 h3;refine As ?_;refine Gf (G3 cs A7) ?_;rw [Xw (fun p=>h4 ⟨h2.1.1,by have:=p.2.2;omega⟩)];exact D4
 have h3:E4 r.op 0 (g.ak.length-1)=true:=by simpa using h3
 have h4:=Go.Sx.Cl.1 h3;have hP:Pc g r:=⟨h1,h2,by omega⟩;have hk:r.op.toNat<g.ak.length:=by omega
 obtain ⟨hnw,hol⟩:=A5p hg hk;have hoq:(g.ak.getD r.op.toNat default).ax.length=(Ac g r.op).ax.length:=rfl;refine As ?_;refine Fp (B58 (Ac g r.op) r.key r.val hnw) ?_;refine C1 (fun h5=>?_) fun h5=>?_
 ·have h5:(Bd (Ac g r.op) r.key r.val).2.2=false:=by simpa using h5
  refine As ?_;refine Y0 (fun h8=>?_) fun h8=>?_
  ·have h8:(Ac g r.op).kind≠8:=h8
   refine As ?_;refine Gf (G3 cs A7) ?_;rw [B2m hP h5 h8];exact D4
  have h8:(Ac g r.op).kind=8:=h8;refine As ?_;have hnb:¬ ((Bd (Ac g r.op) r.key r.val).2.2=false∧(Ac g r.op).kind≠8):=(fun p=>p.2 h8);refine Gf (A7j (Ac g r.op).kind cs (Fu r) hl) ?_;refine C1 (fun h6=>?_) fun h6=>?_
  ·have h6:(Cz (Ac g r.op).kind cs (Fu r)).2=false:=by simpa using h6
   refine As ?_;rw [Un hP hnb h6];exact D4
  have h6:(Cz (Ac g r.op).kind cs (Fu r)).2=true:=by simpa using h6
  refine As ?_;refine Lf (fun h7=>?_) fun h7=>?_
  ·have h7:(Ac g r.op).kind=7:=h7
   refine Fp (Tz r.af) ?_
   cases hnt:(Br r.af).2
   ·refine Fx [] (fun k:Nat=>[(95,.c (vi k))]) (fun k=>[]) (fun k=>[⟨3,Ai (Cz (Ac g r.op).kind cs (Fu r)).1⟩]) (fun k=>k≤(Ac g r.op).ax.length) (fun k=>(Ac g r.op).ax.length-k) fun k hk=>?_
    conv=>whnf
    refine Dv (fun h=>?_) fun h=>?_
    ·have h:k<(Ac g r.op).ax.length:=by omega
     refine As ?_;refine Cc [] (k+1) A7 A7 ⟨rfl,trivial⟩ ⟨rfl,trivial⟩
    rw [Nl hP hnb h6,A6r h7 hnt];exact D4
   refine U5 16 5 (fun i=>Aa.c (([]:List Aa).getD i default)) rfl ?_;refine Fx [] (fun k:Nat=>[(95,.c (vi k))]) (fun k=>[⟨4,[.c (vi ((Br r.af).1).ab),.c (vi ((Br r.af).1).turn)]⟩]) (fun k=>[⟨5,A9 (emL g r ((Br r.af).1) k)⟩,⟨3,Ai (Cz (Ac g r.op).kind cs (Fu r)).1⟩]) (fun k=>k≤(Ac g r.op).ax.length) (fun k=>(Ac g r.op).ax.length-k) fun k hk=>?_;conv=>whnf
   refine Dv (fun h=>?_) fun h=>?_
   ·have h:k<(Ac g r.op).ax.length:=by omega
    have hem:=Vp (g:=g) (r:=r) (s:=(Br r.af).1) (k:=k);refine As ?_;refine B6 A0 rfl (A9 (emL g r ((Br r.af).1) k++[Ss r ((Br r.af).1) (Bd (Ac g r.op) r.key r.val).1 (Bd (Ac g r.op) r.key r.val).2.1 ((Ac g r.op).ax.getD k default)])) (Ao rfl) Hd A7 (Em ?_);refine Cc [(5,7)] (k+1) A7 A7 ⟨rfl,trivial⟩ ⟨A6 A9 (Rd h).symm,rfl,trivial⟩
   rw [Nl hP hnb h6,B24 h7 hnt,Vo A7];exact D4
  have h7:(Ac g r.op).kind≠7:=h7;refine U5 16 5 (fun i=>Aa.c (([]:List Aa).getD i default)) rfl ?_;refine Fx [] (fun k:Nat=>[(95,.c (vi k))]) (fun k=>[⟨4,[.c (vi (r.af).ab),.c (vi (r.af).turn)]⟩]) (fun k=>[⟨5,A9 (emL g r (r.af) k)⟩,⟨3,Ai (Cz (Ac g r.op).kind cs (Fu r)).1⟩]) (fun k=>k≤(Ac g r.op).ax.length) (fun k=>(Ac g r.op).ax.length-k) fun k hk=>?_;conv=>whnf
  refine Dv (fun h=>?_) fun h=>?_
  ·have h:k<(Ac g r.op).ax.length:=by omega
   have hem:=Vp (g:=g) (r:=r) (s:=r.af) (k:=k);refine As ?_;refine B6 A0 rfl (A9 (emL g r (r.af) k++[Ss r (r.af) (Bd (Ac g r.op) r.key r.val).1 (Bd (Ac g r.op) r.key r.val).2.1 ((Ac g r.op).ax.getD k default)])) (Ao rfl) Hd A7 (Em ?_);refine Cc [(5,7)] (k+1) A7 A7 ⟨rfl,trivial⟩ ⟨A6 A9 (Rd h).symm,rfl,trivial⟩
  rw [Nl hP hnb h6,A00 h7,Vo A7];exact D4
 have h5:(Bd (Ac g r.op) r.key r.val).2.2=true:=by simpa using h5
 refine As ?_;have hnb:¬ ((Bd (Ac g r.op) r.key r.val).2.2=false∧(Ac g r.op).kind≠8):=(fun p=>by rw [p.1] at h5;cases h5);refine Gf (A7j (Ac g r.op).kind cs (Fu r) hl) ?_;refine C1 (fun h6=>?_) fun h6=>?_
 ·have h6:(Cz (Ac g r.op).kind cs (Fu r)).2=false:=by simpa using h6
  refine As ?_;rw [Un hP hnb h6];exact D4
 have h6:(Cz (Ac g r.op).kind cs (Fu r)).2=true:=by simpa using h6
 refine As ?_;refine Lf (fun h7=>?_) fun h7=>?_
 ·have h7:(Ac g r.op).kind=7:=h7
  refine Fp (Tz r.af) ?_
  cases hnt:(Br r.af).2
  ·refine Fx [] (fun k:Nat=>[(95,.c (vi k))]) (fun k=>[]) (fun k=>[⟨3,Ai (Cz (Ac g r.op).kind cs (Fu r)).1⟩]) (fun k=>k≤(Ac g r.op).ax.length) (fun k=>(Ac g r.op).ax.length-k) fun k hk=>?_
   conv=>whnf
   refine Dv (fun h=>?_) fun h=>?_
   ·have h:k<(Ac g r.op).ax.length:=by omega
    refine As ?_;refine Cc [] (k+1) A7 A7 ⟨rfl,trivial⟩ ⟨rfl,trivial⟩
   rw [Nl hP hnb h6,A6r h7 hnt];exact D4
  refine U5 16 5 (fun i=>Aa.c (([]:List Aa).getD i default)) rfl ?_;refine Fx [] (fun k:Nat=>[(95,.c (vi k))]) (fun k=>[⟨4,[.c (vi ((Br r.af).1).ab),.c (vi ((Br r.af).1).turn)]⟩]) (fun k=>[⟨5,A9 (emL g r ((Br r.af).1) k)⟩,⟨3,Ai (Cz (Ac g r.op).kind cs (Fu r)).1⟩]) (fun k=>k≤(Ac g r.op).ax.length) (fun k=>(Ac g r.op).ax.length-k) fun k hk=>?_;conv=>whnf
  refine Dv (fun h=>?_) fun h=>?_
  ·have h:k<(Ac g r.op).ax.length:=by omega
   have hem:=Vp (g:=g) (r:=r) (s:=(Br r.af).1) (k:=k);refine As ?_;refine B6 A0 rfl (A9 (emL g r ((Br r.af).1) k++[Ss r ((Br r.af).1) (Bd (Ac g r.op) r.key r.val).1 (Bd (Ac g r.op) r.key r.val).2.1 ((Ac g r.op).ax.getD k default)])) (Ao rfl) Hd A7 (Em ?_);refine Cc [(5,7)] (k+1) A7 A7 ⟨rfl,trivial⟩ ⟨A6 A9 (Rd h).symm,rfl,trivial⟩
  rw [Nl hP hnb h6,B24 h7 hnt,Vo A7];exact D4
 have h7:(Ac g r.op).kind≠7:=h7;refine U5 16 5 (fun i=>Aa.c (([]:List Aa).getD i default)) rfl ?_;refine Fx [] (fun k:Nat=>[(95,.c (vi k))]) (fun k=>[⟨4,[.c (vi (r.af).ab),.c (vi (r.af).turn)]⟩]) (fun k=>[⟨5,A9 (emL g r (r.af) k)⟩,⟨3,Ai (Cz (Ac g r.op).kind cs (Fu r)).1⟩]) (fun k=>k≤(Ac g r.op).ax.length) (fun k=>(Ac g r.op).ax.length-k) fun k hk=>?_;conv=>whnf
 refine Dv (fun h=>?_) fun h=>?_
 ·have h:k<(Ac g r.op).ax.length:=by omega
  have hem:=Vp (g:=g) (r:=r) (s:=r.af) (k:=k);refine As ?_;refine B6 A0 rfl (A9 (emL g r (r.af) k++[Ss r (r.af) (Bd (Ac g r.op) r.key r.val).1 (Bd (Ac g r.op) r.key r.val).2.1 ((Ac g r.op).ax.getD k default)])) (Ao rfl) Hd A7 (Em ?_);refine Cc [(5,7)] (k+1) A7 A7 ⟨rfl,trivial⟩ ⟨A6 A9 (Rd h).symm,rfl,trivial⟩
 rw [Nl hP hnb h6,A00 h7,Vo A7];exact D4
theorem Nz (h:¬ Pc g r):ao g r=false:=Cd fun p=>h p.1
theorem B07 (h:Pc g r):ao g r=(((Ac g r.op).kind==7)&&(decide (((Ac g r.op).ax.length:Int)>0)&&!(Br r.af).2)):=by
 unfold ao;rw [S3];simp only [Np,Ci,Qt,Mq,h,true_and]
 constructor
 ·intro ⟨a,b,c⟩;exact ⟨a,by omega,c⟩
 intro ⟨a,b,c⟩;exact ⟨a,by omega,c⟩
theorem B9k (g:B0)(r:Aa)(hg:g.w≤16777216):Di 270 [.agg g.c,.agg r.c] [.one (vb (ao g r))]:=by
 refine E7 Tryz.func270 fun W=>?_;refine Fp (Kp g A7) ?_;refine C1 (fun h1=>?_) fun h1=>?_
 ·have h1:F2 g=false:=by simpa using h1
  refine As ?_;rw [Nz (fun p=>absurd p.1 (Cv h1))];exact D4
 have h1:Gw g:=Bn (show F2 g=true by simpa using h1)
 refine As ?_;refine Aq (Ij r) rfl (Gu ?_);refine C1 (fun h2=>?_) fun h2=>?_
 ·have h2:Fh r=false:=by simpa using h2
  refine As ?_;rw [Nz (fun p=>absurd p.2.1 (Cv h2))];exact D4
 have h2:H5 r:=Bn (show Fh r=true by simpa using h2)
 refine As ?_;refine Aq (Tx g r.op hg) rfl (Gu ?_);refine C1 (fun h3=>?_) fun h3=>?_
 ·have h3:E4 r.op 0 (g.ak.length-1)=false:=by simpa using h3
  have h4:=Go.Sx.Gd.1 h3;refine As ?_;rw [Nz (fun p=>h4 ⟨h2.1.1,by have:=p.2.2;omega⟩)];exact D4
 have h3:E4 r.op 0 (g.ak.length-1)=true:=by simpa using h3
 have h4:=Go.Sx.Cl.1 h3;have hP:Pc g r:=⟨h1,h2,by omega⟩;have hk:r.op.toNat<g.ak.length:=by omega
 obtain ⟨hnw,hol⟩:=A5p hg hk;have hoq:(g.ak.getD r.op.toNat default).ax.length=(Ac g r.op).ax.length:=rfl;refine As ?_;refine Fp (Tz r.af) ?_;rw [B07 hP];refine C1 (fun h7=>?_) fun h7=>?_
 ·have h7:((Ac g r.op).kind==7)=true:=h7
  rw [h7];refine As ?_;refine C1 (fun h8=>?_) fun h8=>?_
  ·have h8:decide (((Ac g r.op).ax.length:Int)>0)=true:=h8
   rw [h8];refine As ?_;exact D4
  have h8:decide (((Ac g r.op).ax.length:Int)>0)=false:=h8;rw [h8];refine As ?_;exact D4
 have h7:((Ac g r.op).kind==7)=false:=h7;rw [h7];refine As ?_;exact D4
end Go.Proofs.YtmhcebdkjgkmlaaGreatDoor
