/- Part 30 of the proof that each of the laws FnScriptsBack returns true for every input. No conditions. -/
import Derived.Test.YtmhcebdkjgkmlaaGreatDoorR25

set_option linter.unusedSimpArgs false
set_option linter.unusedVariables false
set_option maxRecDepth 100000
namespace Go.Proofs.YtmhcebdkjgkmlaaGreatDoor
open Go.Sx
variable {g : Ax} {cs : List Al} {r : A9}
theorem Xb (h:¬ Pc g r):Hz g cs r=(cs,[],false):=Ab h
theorem B05 (h:Pc g r)(h1:(Bc (Ac g r.op) r.key r.val).2.2=false)(h2:(Ac g r.op).kind≠8):Hz g cs r=(cs,[],true):=by
 unfold Hz;rw [Ah h,Ah ⟨h1,h2⟩]
theorem U8 (h:Pc g r)(h1:¬ ((Bc (Ac g r.op) r.key r.val).2.2=false∧(Ac g r.op).kind≠8))(h2:(Dd (Ac g r.op).kind cs (Fo r)).2=false):Hz g cs r=((Dd (Ac g r.op).kind cs (Fo r)).1,[],true):=by
 unfold Hz;rw [Ah h,Ab h1,Ah h2]
theorem Nb (h:Pc g r)(h1:¬ ((Bc (Ac g r.op) r.key r.val).2.2=false∧(Ac g r.op).kind≠8))(h2:(Dd (Ac g r.op).kind cs (Fo r)).2=true):Hz g cs r=((Dd (Ac g r.op).kind cs (Fo r)).1,Un g r,true):=by
 unfold Hz;rw [Ah h,Ab h1,Ab (by rw [h2];decide)]
def Sl (r:A9) (s:Iq) (k v:Int) (o:Int):A9:=⟨o,s,k,v⟩
theorem A44 (h7:(Ac g r.op).kind=7)(h:(Br r.af).2=false):Un g r=[]:=by
 unfold Un;rw [Ah ⟨h7,h⟩]
theorem B1l (h7:(Ac g r.op).kind=7)(h:(Br r.af).2=true):Un g r=(Ac g r.op).ax.map (Sl r (Br r.af).1 (Bc (Ac g r.op) r.key r.val).1 (Bc (Ac g r.op) r.key r.val).2.1):=by
 unfold Un;rw [Ab (fun p=>by rw [p.2] at h;cases h),Ah h7];rfl
theorem Zp (h7:(Ac g r.op).kind≠7):Un g r=(Ac g r.op).ax.map (Sl r r.af (Bc (Ac g r.op) r.key r.val).1 (Bc (Ac g r.op) r.key r.val).2.1):=by
 unfold Un;rw [Ab (fun p=>h7 p.1),Ab h7];rfl
variable {k : Nat}
theorem A84 {α β:Type} [Inhabited α] (f:α→β){l:List α}(hk:k<l.length):(l.take (k+1)).map f=(l.take k).map f++[f (l.getD k default)]:=by
 rw [B3c hk,Uu]
 simp [List.getD,hk]
theorem A35 {op:Int}(hg:g.w≤16777216)(hk:op.toNat<g.ay.length):(Ac g op).w≤16777216∧(Ac g op).ax.length≤16777216:=by
 have:=Fg Ba.w g.ay op.toNat hk
 simp only [Ax.w,wS] at hg;simp only [Ac];have e:(g.ay.getD op.toNat default).w=(g.ay.getD op.toNat default).ax.length:=rfl;omega
abbrev emL (g:Ax) (r:A9) (s:Iq) (k:Nat):List A9:=((Ac g r.op).ax.take k).map (Sl r s (Bc (Ac g r.op) r.key r.val).1 (Bc (Ac g r.op) r.key r.val).2.1)
variable {s : Iq}
theorem Rd (h:k<(Ac g r.op).ax.length):emL g r s (k+1)=emL g r s k++[Sl r s (Bc (Ac g r.op) r.key r.val).1 (Bc (Ac g r.op) r.key r.val).2.1 ((Ac g r.op).ax.getD k default)]:=A84 _ h
theorem Ve:(emL g r s k).length≤k:=by
 simp only [emL,Oy,G2];omega
theorem Vd (h:(Ac g r.op).ax.length≤k):emL g r s k=(Ac g r.op).ax.map (Sl r s (Bc (Ac g r.op) r.key r.val).1 (Bc (Ac g r.op) r.key r.val).2.1):=by
 rw [emL,Pn h]
set_option maxHeartbeats 4000000 in
theorem B7q (g:Ax)(cs:List Al)(r:A9)(hg:g.w≤16777216)(hl:cs.length≤16000000):Df 269 [.agg g.c,.one (As cs),.agg r.c] [.one (As (Hz g cs r).1),.one (Aa (Hz g cs r).2.1),.one (vb (Hz g cs r).2.2)]:=by
 refine Dy Tryz.func269 fun W=>?_;refine Fh (Je g A7) ?_;refine C2 (fun h1=>?_) fun h1=>?_
 ·have h1:Eh g=false:=by simpa using h1
  refine Ar ?_;refine Hp (Fu cs A7) ?_;rw [Xb (fun p=>absurd p.1 (Cy h1))];exact Dk
 have h1:Gc g:=Bp (show Eh g=true by simpa using h1)
 refine Ar ?_;refine Ao (Ik r) rfl (Ft ?_);refine C2 (fun h2=>?_) fun h2=>?_
 ·have h2:F2 r=false:=by simpa using h2
  refine Ar ?_;refine Hp (Fu cs A7) ?_;rw [Xb (fun p=>absurd p.2.1 (Cy h2))];exact Dk
 have h2:H8 r:=Bp (show F2 r=true by simpa using h2)
 refine Ar ?_;refine Ao (Yn g r.op hg) rfl (Ft ?_);refine C2 (fun h3=>?_) fun h3=>?_
 ·have h3:F0 r.op 0 (g.ay.length-1)=false:=by simpa using h3
  have h4:=Go.Sx.Gv.1 h3;refine Ar ?_;refine Hp (Fu cs A7) ?_;rw [Xb (fun p=>h4 ⟨h2.1.1,by have:=p.2.2;omega⟩)];exact Dk
 have h3:F0 r.op 0 (g.ay.length-1)=true:=by simpa using h3
 have h4:=Go.Sx.Dj.1 h3;have hP:Pc g r:=⟨h1,h2,by omega⟩;have hk:r.op.toNat<g.ay.length:=by omega
 obtain ⟨hnw,hol⟩:=A35 hg hk;have hoq:(g.ay.getD r.op.toNat default).ax.length=(Ac g r.op).ax.length:=rfl;refine Ar ?_;refine Fh (B4e (Ac g r.op) r.key r.val hnw) ?_;refine C2 (fun h5=>?_) fun h5=>?_
 ·have h5:(Bc (Ac g r.op) r.key r.val).2.2=false:=by simpa using h5
  refine Ar ?_;refine Xi (fun h8=>?_) fun h8=>?_
  ·have h8:(Ac g r.op).kind≠8:=h8
   refine Ar ?_;refine Hp (Fu cs A7) ?_;rw [B05 hP h5 h8];exact Dk
  have h8:(Ac g r.op).kind=8:=h8;refine Ar ?_;have hnb:¬ ((Bc (Ac g r.op) r.key r.val).2.2=false∧(Ac g r.op).kind≠8):=(fun p=>p.2 h8);refine Hp (A5y (Ac g r.op).kind cs (Fo r) hl) ?_;refine C2 (fun h6=>?_) fun h6=>?_
  ·have h6:(Dd (Ac g r.op).kind cs (Fo r)).2=false:=by simpa using h6
   refine Ar ?_;rw [U8 hP hnb h6];exact Dk
  have h6:(Dd (Ac g r.op).kind cs (Fo r)).2=true:=by simpa using h6
  refine Ar ?_;refine Mf (fun h7=>?_) fun h7=>?_
  ·have h7:(Ac g r.op).kind=7:=h7
   refine Fh (Tq r.af) ?_
   cases hnt:(Br r.af).2
   ·refine Fs [] (fun k:Nat=>[(95,.c (vi k))]) (fun k=>[]) (fun k=>[⟨3,As (Dd (Ac g r.op).kind cs (Fo r)).1⟩]) (fun k=>k≤(Ac g r.op).ax.length) (fun k=>(Ac g r.op).ax.length-k) fun k hk=>?_
    conv=>whnf
    refine E3 (fun h=>?_) fun h=>?_
    ·have h:k<(Ac g r.op).ax.length:=by omega
     refine Ar ?_;refine Co [] (k+1) A7 A7 ⟨rfl,trivial⟩ ⟨rfl,trivial⟩
    rw [Nb hP hnb h6,A44 h7 hnt];exact Dk
   refine A85 16 5 (fun i=>A9.c (([]:List A9).getD i default)) rfl ?_;refine Fs [] (fun k:Nat=>[(95,.c (vi k))]) (fun k=>[⟨4,[.c (vi ((Br r.af).1).am),.c (vi ((Br r.af).1).turn)]⟩]) (fun k=>[⟨5,Aa (emL g r ((Br r.af).1) k)⟩,⟨3,As (Dd (Ac g r.op).kind cs (Fo r)).1⟩]) (fun k=>k≤(Ac g r.op).ax.length) (fun k=>(Ac g r.op).ax.length-k) fun k hk=>?_;conv=>whnf
   refine E3 (fun h=>?_) fun h=>?_
   ·have h:k<(Ac g r.op).ax.length:=by omega
    have hem:=Ve (g:=g) (r:=r) (s:=(Br r.af).1) (k:=k);refine Ar ?_;refine Bg A0 rfl (Aa (emL g r ((Br r.af).1) k++[Sl r ((Br r.af).1) (Bc (Ac g r.op) r.key r.val).1 (Bc (Ac g r.op) r.key r.val).2.1 ((Ac g r.op).ax.getD k default)])) (An rfl) Ij A7 (F1 ?_);refine Co [(5,7)] (k+1) A7 A7 ⟨rfl,trivial⟩ ⟨A6 Aa (Rd h).symm,rfl,trivial⟩
   rw [Nb hP hnb h6,B1l h7 hnt,Vd A7];exact Dk
  have h7:(Ac g r.op).kind≠7:=h7;refine A85 16 5 (fun i=>A9.c (([]:List A9).getD i default)) rfl ?_;refine Fs [] (fun k:Nat=>[(95,.c (vi k))]) (fun k=>[⟨4,[.c (vi (r.af).am),.c (vi (r.af).turn)]⟩]) (fun k=>[⟨5,Aa (emL g r (r.af) k)⟩,⟨3,As (Dd (Ac g r.op).kind cs (Fo r)).1⟩]) (fun k=>k≤(Ac g r.op).ax.length) (fun k=>(Ac g r.op).ax.length-k) fun k hk=>?_;conv=>whnf
  refine E3 (fun h=>?_) fun h=>?_
  ·have h:k<(Ac g r.op).ax.length:=by omega
   have hem:=Ve (g:=g) (r:=r) (s:=r.af) (k:=k);refine Ar ?_;refine Bg A0 rfl (Aa (emL g r (r.af) k++[Sl r (r.af) (Bc (Ac g r.op) r.key r.val).1 (Bc (Ac g r.op) r.key r.val).2.1 ((Ac g r.op).ax.getD k default)])) (An rfl) Ij A7 (F1 ?_);refine Co [(5,7)] (k+1) A7 A7 ⟨rfl,trivial⟩ ⟨A6 Aa (Rd h).symm,rfl,trivial⟩
  rw [Nb hP hnb h6,Zp h7,Vd A7];exact Dk
 have h5:(Bc (Ac g r.op) r.key r.val).2.2=true:=by simpa using h5
 refine Ar ?_;have hnb:¬ ((Bc (Ac g r.op) r.key r.val).2.2=false∧(Ac g r.op).kind≠8):=(fun p=>by rw [p.1] at h5;cases h5);refine Hp (A5y (Ac g r.op).kind cs (Fo r) hl) ?_;refine C2 (fun h6=>?_) fun h6=>?_
 ·have h6:(Dd (Ac g r.op).kind cs (Fo r)).2=false:=by simpa using h6
  refine Ar ?_;rw [U8 hP hnb h6];exact Dk
 have h6:(Dd (Ac g r.op).kind cs (Fo r)).2=true:=by simpa using h6
 refine Ar ?_;refine Mf (fun h7=>?_) fun h7=>?_
 ·have h7:(Ac g r.op).kind=7:=h7
  refine Fh (Tq r.af) ?_
  cases hnt:(Br r.af).2
  ·refine Fs [] (fun k:Nat=>[(95,.c (vi k))]) (fun k=>[]) (fun k=>[⟨3,As (Dd (Ac g r.op).kind cs (Fo r)).1⟩]) (fun k=>k≤(Ac g r.op).ax.length) (fun k=>(Ac g r.op).ax.length-k) fun k hk=>?_
   conv=>whnf
   refine E3 (fun h=>?_) fun h=>?_
   ·have h:k<(Ac g r.op).ax.length:=by omega
    refine Ar ?_;refine Co [] (k+1) A7 A7 ⟨rfl,trivial⟩ ⟨rfl,trivial⟩
   rw [Nb hP hnb h6,A44 h7 hnt];exact Dk
  refine A85 16 5 (fun i=>A9.c (([]:List A9).getD i default)) rfl ?_;refine Fs [] (fun k:Nat=>[(95,.c (vi k))]) (fun k=>[⟨4,[.c (vi ((Br r.af).1).am),.c (vi ((Br r.af).1).turn)]⟩]) (fun k=>[⟨5,Aa (emL g r ((Br r.af).1) k)⟩,⟨3,As (Dd (Ac g r.op).kind cs (Fo r)).1⟩]) (fun k=>k≤(Ac g r.op).ax.length) (fun k=>(Ac g r.op).ax.length-k) fun k hk=>?_;conv=>whnf
  refine E3 (fun h=>?_) fun h=>?_
  ·have h:k<(Ac g r.op).ax.length:=by omega
   have hem:=Ve (g:=g) (r:=r) (s:=(Br r.af).1) (k:=k);refine Ar ?_;refine Bg A0 rfl (Aa (emL g r ((Br r.af).1) k++[Sl r ((Br r.af).1) (Bc (Ac g r.op) r.key r.val).1 (Bc (Ac g r.op) r.key r.val).2.1 ((Ac g r.op).ax.getD k default)])) (An rfl) Ij A7 (F1 ?_);refine Co [(5,7)] (k+1) A7 A7 ⟨rfl,trivial⟩ ⟨A6 Aa (Rd h).symm,rfl,trivial⟩
  rw [Nb hP hnb h6,B1l h7 hnt,Vd A7];exact Dk
 have h7:(Ac g r.op).kind≠7:=h7;refine A85 16 5 (fun i=>A9.c (([]:List A9).getD i default)) rfl ?_;refine Fs [] (fun k:Nat=>[(95,.c (vi k))]) (fun k=>[⟨4,[.c (vi (r.af).am),.c (vi (r.af).turn)]⟩]) (fun k=>[⟨5,Aa (emL g r (r.af) k)⟩,⟨3,As (Dd (Ac g r.op).kind cs (Fo r)).1⟩]) (fun k=>k≤(Ac g r.op).ax.length) (fun k=>(Ac g r.op).ax.length-k) fun k hk=>?_;conv=>whnf
 refine E3 (fun h=>?_) fun h=>?_
 ·have h:k<(Ac g r.op).ax.length:=by omega
  have hem:=Ve (g:=g) (r:=r) (s:=r.af) (k:=k);refine Ar ?_;refine Bg A0 rfl (Aa (emL g r (r.af) k++[Sl r (r.af) (Bc (Ac g r.op) r.key r.val).1 (Bc (Ac g r.op) r.key r.val).2.1 ((Ac g r.op).ax.getD k default)])) (An rfl) Ij A7 (F1 ?_);refine Co [(5,7)] (k+1) A7 A7 ⟨rfl,trivial⟩ ⟨A6 Aa (Rd h).symm,rfl,trivial⟩
 rw [Nb hP hnb h6,Zp h7,Vd A7];exact Dk
theorem Nv (h:¬ Pc g r):ae g r=false:=Cx fun p=>h p.1
theorem A9v (h:Pc g r):ae g r=(((Ac g r.op).kind==7)&&(decide (((Ac g r.op).ax.length:Int)>0)&&!(Br r.af).2)):=by
 unfold ae;rw [Lf];simp only [Nq,Cj,Rv,Mp,h,true_and]
 constructor
 ·intro ⟨a,b,c⟩;exact ⟨a,by omega,c⟩
 intro ⟨a,b,c⟩;exact ⟨a,by omega,c⟩
theorem B7m (g:Ax)(r:A9)(hg:g.w≤16777216):Df 270 [.agg g.c,.agg r.c] [.one (vb (ae g r))]:=by
 refine Dy Tryz.func270 fun W=>?_;refine Fh (Je g A7) ?_;refine C2 (fun h1=>?_) fun h1=>?_
 ·have h1:Eh g=false:=by simpa using h1
  refine Ar ?_;rw [Nv (fun p=>absurd p.1 (Cy h1))];exact Dk
 have h1:Gc g:=Bp (show Eh g=true by simpa using h1)
 refine Ar ?_;refine Ao (Ik r) rfl (Ft ?_);refine C2 (fun h2=>?_) fun h2=>?_
 ·have h2:F2 r=false:=by simpa using h2
  refine Ar ?_;rw [Nv (fun p=>absurd p.2.1 (Cy h2))];exact Dk
 have h2:H8 r:=Bp (show F2 r=true by simpa using h2)
 refine Ar ?_;refine Ao (Yn g r.op hg) rfl (Ft ?_);refine C2 (fun h3=>?_) fun h3=>?_
 ·have h3:F0 r.op 0 (g.ay.length-1)=false:=by simpa using h3
  have h4:=Go.Sx.Gv.1 h3;refine Ar ?_;rw [Nv (fun p=>h4 ⟨h2.1.1,by have:=p.2.2;omega⟩)];exact Dk
 have h3:F0 r.op 0 (g.ay.length-1)=true:=by simpa using h3
 have h4:=Go.Sx.Dj.1 h3;have hP:Pc g r:=⟨h1,h2,by omega⟩;have hk:r.op.toNat<g.ay.length:=by omega
 obtain ⟨hnw,hol⟩:=A35 hg hk;have hoq:(g.ay.getD r.op.toNat default).ax.length=(Ac g r.op).ax.length:=rfl;refine Ar ?_;refine Fh (Tq r.af) ?_;rw [A9v hP];refine C2 (fun h7=>?_) fun h7=>?_
 ·have h7:((Ac g r.op).kind==7)=true:=h7
  rw [h7];refine Ar ?_;refine C2 (fun h8=>?_) fun h8=>?_
  ·have h8:decide (((Ac g r.op).ax.length:Int)>0)=true:=h8
   rw [h8];refine Ar ?_;exact Dk
  have h8:decide (((Ac g r.op).ax.length:Int)>0)=false:=h8;rw [h8];refine Ar ?_;exact Dk
 have h7:((Ac g r.op).kind==7)=false:=h7;rw [h7];refine Ar ?_;exact Dk
theorem A6e {g:Ax}{op:Int}(h:F0 op 0 (g.ay.length-1)=true):A1q g op=(Ac g op,true):=Ah h
theorem B0l {g:Ax}{op:Int}(h:F0 op 0 (g.ay.length-1)=false):A1q g op=(⟨0,0,0,[]⟩,false):=Ab (by rw [h];decide)
theorem B77 {k:Int}{l:List Al}{x:Al}(h:¬ (k=5∨k=6∨k=8)):Dd k l x=(l,true):=A1v (fun p=>h (.inl p)) (fun p=>h (.inr (.inr p))) (fun p=>h (.inr (.inl p)))
set_option maxHeartbeats 4000000 in
theorem B8n (g:Ax)(cs:List Al)(r:A9)(hg:g.w≤16777216)(hl:cs.length≤16000000):Df 239 [.agg g.c,.one (As cs),.agg r.c] [.one (As (Hz g cs r).1),.one (Aa (Hz g cs r).2.1),.one (vb (Hz g cs r).2.2)]:=by
 refine Dy Tryz.func239 fun W=>?_;refine Bg A0 rfl (As cs) (Bw) (fun _=>Gj cs) A7 (Ag ?_);refine Hp (A7l g r.op hg) ?_
 cases h3:F0 r.op 0 (g.ay.length-1)
 ·have h4:=Go.Sx.Gv.1 h3
  rw [B0l h3];refine Ar ?_;refine R9 4 (Aa []) rfl Dx ?_;rw [Xb (fun p=>h4 ⟨p.2.1.1.1,by have:=p.2.2;omega⟩)];exact Dk
 have h4:=Go.Sx.Dj.1 h3;rw [A6e h3];have hk:r.op.toNat<g.ay.length:=by omega
 obtain ⟨hnw,hol⟩:=A35 hg hk;refine Ar ?_;refine Ao (Mn g A7) rfl (Ft ?_);refine C2 (fun h1=>?_) fun h1=>?_
 ·have h1:Eh g=false:=by simpa using h1
  refine Ar ?_;refine R9 4 (Aa []) rfl Dx ?_;rw [Xb (fun p=>absurd p.1 (Cy h1))];exact Dk
 have h1:Gc g:=Bp (show Eh g=true by simpa using h1)
 refine Ar ?_;refine Ao (Jl r) rfl (Ft ?_);refine C2 (fun h2=>?_) fun h2=>?_
 ·have h2:F2 r=false:=by simpa using h2
  refine Ar ?_;refine R9 4 (Aa []) rfl Dx ?_;rw [Xb (fun p=>absurd p.2.1 (Cy h2))];exact Dk
 have h2:H8 r:=Bp (show F2 r=true by simpa using h2)
 have hP:Pc g r:=⟨h1,h2,by omega⟩;refine Ar ?_;refine Fh (B52 (Ac g r.op) r.key r.val hnw) ?_;refine C2 (fun h5=>?_) fun h5=>?_
 ·have h5:(Bc (Ac g r.op) r.key r.val).2.2=false:=by simpa using h5
  refine Ar ?_;refine Xi (fun h8=>?_) fun h8=>?_
  ·have h8:(Ac g r.op).kind≠8:=h8
   refine Ar ?_;refine R9 4 (Aa []) rfl Dx ?_;rw [B05 hP h5 h8];exact Dk
  have h8:(Ac g r.op).kind=8:=h8;refine Ar ?_;have hnb:¬ ((Bc (Ac g r.op) r.key r.val).2.2=false∧(Ac g r.op).kind≠8):=(fun p=>p.2 h8);refine Fh (Ya (Ac g r.op).kind) ?_;refine C2 (fun hr=>?_) fun hr=>?_
  ·have hr:(Ac g r.op).kind=5∨(Ac g r.op).kind=6∨(Ac g r.op).kind=8:=Bp hr
   refine Hp (A7n (Ac g r.op).kind cs (Fo r) hl) ?_;refine C2 (fun h6=>?_) fun h6=>?_
   ·have h6:(Dd (Ac g r.op).kind cs (Fo r)).2=false:=by simpa using h6
    refine Ar ?_;refine R9 4 (Aa []) rfl Dx ?_;rw [U8 hP hnb h6];exact Dk
   have h6:(Dd (Ac g r.op).kind cs (Fo r)).2=true:=by simpa using h6
   refine Ar ?_;have h7:(Ac g r.op).kind≠7:=by omega
   refine Mf (fun h7'=>?_) fun h7'=>?_
   ·exact absurd h7' h7
   refine Fi 4 (Aa []) rfl Dx ?_;refine Fs [25] (fun k:Nat=>[(21,.c (vi k))]) (fun k=>[⟨6,[.c (vi (Ac g r.op).kind),.c (vi (Ac g r.op).a),.c (vi (Ac g r.op).b),.own 5]⟩,⟨8,[.c (vi (r.af).am),.c (vi (r.af).turn)]⟩]) (fun k=>[⟨5,De (Ac g r.op).ax⟩,⟨4,Aa (emL g r (r.af) k)⟩,⟨7,As (Dd (Ac g r.op).kind cs (Fo r)).1⟩]) (fun k=>k≤(Ac g r.op).ax.length) (fun k=>(Ac g r.op).ax.length-k) fun k hk=>?_;conv=>whnf
   refine E3 (fun h=>?_) fun h=>?_
   ·have h:k<(Ac g r.op).ax.length:=by omega
    have hem:=Ve (g:=g) (r:=r) (s:=r.af) (k:=k)
    first|(refine Ae 23 rfl [0,1,2,3,4,5,6,7,8,9,10,11,12] Ak (Ag ?_))
    refine B6 ?_;refine Bg A0 rfl (Aa (emL g r (r.af) k++[Sl r (r.af) (Bc (Ac g r.op) r.key r.val).1 (Bc (Ac g r.op) r.key r.val).2.1 ((Ac g r.op).ax.getD k default)])) (An rfl) Ij A7 (F1 ?_);refine Co [(4,10)] (k+1) A7 A7 ⟨rfl,trivial⟩ ⟨rfl,A6 Aa (Rd h).symm,rfl,trivial⟩
   refine Ar ?_;rw [Nb hP hnb h6,Zp h7,Vd A7];exact Dk
  exact absurd (.inr (.inr h8)) (Cy hr)
 have h5:(Bc (Ac g r.op) r.key r.val).2.2=true:=by simpa using h5
 refine Ar ?_;have hnb:¬ ((Bc (Ac g r.op) r.key r.val).2.2=false∧(Ac g r.op).kind≠8):=(fun p=>by rw [p.1] at h5;cases h5);refine Fh (Ya (Ac g r.op).kind) ?_;refine C2 (fun hr=>?_) fun hr=>?_
 ·have hr:(Ac g r.op).kind=5∨(Ac g r.op).kind=6∨(Ac g r.op).kind=8:=Bp hr
  refine Hp (A7n (Ac g r.op).kind cs (Fo r) hl) ?_;refine C2 (fun h6=>?_) fun h6=>?_
  ·have h6:(Dd (Ac g r.op).kind cs (Fo r)).2=false:=by simpa using h6
   refine Ar ?_;refine R9 4 (Aa []) rfl Dx ?_;rw [U8 hP hnb h6];exact Dk
  have h6:(Dd (Ac g r.op).kind cs (Fo r)).2=true:=by simpa using h6
  refine Ar ?_;have h7:(Ac g r.op).kind≠7:=by omega
  refine Mf (fun h7'=>?_) fun h7'=>?_
  ·exact absurd h7' h7
  refine Fi 4 (Aa []) rfl Dx ?_;refine Fs [25] (fun k:Nat=>[(21,.c (vi k))]) (fun k=>[⟨6,[.c (vi (Ac g r.op).kind),.c (vi (Ac g r.op).a),.c (vi (Ac g r.op).b),.own 5]⟩,⟨8,[.c (vi (r.af).am),.c (vi (r.af).turn)]⟩]) (fun k=>[⟨5,De (Ac g r.op).ax⟩,⟨4,Aa (emL g r (r.af) k)⟩,⟨7,As (Dd (Ac g r.op).kind cs (Fo r)).1⟩]) (fun k=>k≤(Ac g r.op).ax.length) (fun k=>(Ac g r.op).ax.length-k) fun k hk=>?_;conv=>whnf
  refine E3 (fun h=>?_) fun h=>?_
  ·have h:k<(Ac g r.op).ax.length:=by omega
   have hem:=Ve (g:=g) (r:=r) (s:=r.af) (k:=k)
   first|(refine Ae 23 rfl [0,1,2,3,4,5,6,7,8,9,10,11,12] Ak (Ag ?_))
   refine B6 ?_;refine Bg A0 rfl (Aa (emL g r (r.af) k++[Sl r (r.af) (Bc (Ac g r.op) r.key r.val).1 (Bc (Ac g r.op) r.key r.val).2.1 ((Ac g r.op).ax.getD k default)])) (An rfl) Ij A7 (F1 ?_);refine Co [(4,10)] (k+1) A7 A7 ⟨rfl,trivial⟩ ⟨rfl,A6 Aa (Rd h).symm,rfl,trivial⟩
  refine Ar ?_;rw [Nb hP hnb h6,Zp h7,Vd A7];exact Dk
 have hr:¬ ((Ac g r.op).kind=5∨(Ac g r.op).kind=6∨(Ac g r.op).kind=8):=Cy hr;have e6:=B77 (l:=cs) (x:=Fo r) hr;have h6:(Dd (Ac g r.op).kind cs (Fo r)).2=true:=by rw [e6]
 have e61:(Dd (Ac g r.op).kind cs (Fo r)).1=cs:=by rw [e6]
 refine Ar ?_;refine Mf (fun h7=>?_) fun h7=>?_
 ·have h7:(Ac g r.op).kind=7:=h7
  refine Fh (A0y r.af) ?_;refine C2 (fun hnt=>?_) fun hnt=>?_
  ·have hnt:(Br r.af).2=false:=by simpa using hnt
   refine Ar ?_;refine R9 4 (Aa []) rfl Dx ?_;rw [Nb hP hnb h6,A44 h7 hnt,e61];exact Dk
  have hnt:(Br r.af).2=true:=by simpa using hnt
  refine Ar ?_;refine Fi 4 (Aa []) rfl Dx ?_;refine Fs [25] (fun k:Nat=>[(21,.c (vi k))]) (fun k=>[⟨6,[.c (vi (Ac g r.op).kind),.c (vi (Ac g r.op).a),.c (vi (Ac g r.op).b),.own 5]⟩,⟨7,[.c (vi ((Br r.af).1).am),.c (vi ((Br r.af).1).turn)]⟩]) (fun k=>[⟨5,De (Ac g r.op).ax⟩,⟨4,Aa (emL g r ((Br r.af).1) k)⟩,⟨3,As cs⟩]) (fun k=>k≤(Ac g r.op).ax.length) (fun k=>(Ac g r.op).ax.length-k) fun k hk=>?_;conv=>whnf
  refine E3 (fun h=>?_) fun h=>?_
  ·have h:k<(Ac g r.op).ax.length:=by omega
   have hem:=Ve (g:=g) (r:=r) (s:=(Br r.af).1) (k:=k)
   first|(refine Ae 23 rfl [0,1,2,3,4,5,6,7,8,9,10,11,12] Ak (Ag ?_))
   refine B6 ?_;refine Bg A0 rfl (Aa (emL g r ((Br r.af).1) k++[Sl r ((Br r.af).1) (Bc (Ac g r.op) r.key r.val).1 (Bc (Ac g r.op) r.key r.val).2.1 ((Ac g r.op).ax.getD k default)])) (An rfl) Ij A7 (F1 ?_);refine Co [(4,10)] (k+1) A7 A7 ⟨rfl,trivial⟩ ⟨rfl,A6 Aa (Rd h).symm,rfl,trivial⟩
  refine Ar ?_;rw [Nb hP hnb h6,B1l h7 hnt,e61,Vd A7];exact Dk
 have h7:(Ac g r.op).kind≠7:=h7;refine Ar ?_;refine Fi 4 (Aa []) rfl Dx ?_;refine Fs [25] (fun k:Nat=>[(21,.c (vi k))]) (fun k=>[⟨6,[.c (vi (Ac g r.op).kind),.c (vi (Ac g r.op).a),.c (vi (Ac g r.op).b),.own 5]⟩,⟨7,[.c (vi (r.af).am),.c (vi (r.af).turn)]⟩]) (fun k=>[⟨5,De (Ac g r.op).ax⟩,⟨4,Aa (emL g r (r.af) k)⟩,⟨3,As cs⟩]) (fun k=>k≤(Ac g r.op).ax.length) (fun k=>(Ac g r.op).ax.length-k) fun k hk=>?_;conv=>whnf
 refine E3 (fun h=>?_) fun h=>?_
 ·have h:k<(Ac g r.op).ax.length:=by omega
  have hem:=Ve (g:=g) (r:=r) (s:=r.af) (k:=k)
  first|(refine Ae 23 rfl [0,1,2,3,4,5,6,7,8,9,10,11,12] Ak (Ag ?_))
  refine B6 ?_;refine Bg A0 rfl (Aa (emL g r (r.af) k++[Sl r (r.af) (Bc (Ac g r.op) r.key r.val).1 (Bc (Ac g r.op) r.key r.val).2.1 ((Ac g r.op).ax.getD k default)])) (An rfl) Ij A7 (F1 ?_);refine Co [(4,9)] (k+1) A7 A7 ⟨rfl,trivial⟩ ⟨rfl,A6 Aa (Rd h).symm,rfl,trivial⟩
 refine Ar ?_;rw [Nb hP hnb h6,Zp h7,e61,Vd A7];exact Dk
theorem B8j (g:Ax)(r:A9)(hg:g.w≤16777216):Df 240 [.agg g.c,.agg r.c] [.one (vb (ae g r))]:=by
 refine Dy Tryz.func240 fun W=>?_;refine Hp (A7l g r.op hg) ?_;refine Fh (A0y r.af) ?_
 cases h3:F0 r.op 0 (g.ay.length-1)
 ·have h4:=Go.Sx.Gv.1 h3
  rw [B0l h3];refine Ar ?_;rw [Nv (fun p=>h4 ⟨p.2.1.1.1,by have:=p.2.2;omega⟩)];exact Dk
 have h4:=Go.Sx.Dj.1 h3;rw [A6e h3];have hk:r.op.toNat<g.ay.length:=by omega
 obtain ⟨hnw,hol⟩:=A35 hg hk;refine Ar ?_;refine Ao (Mn g A7) rfl (Ft ?_);refine C2 (fun h1=>?_) fun h1=>?_
 ·have h1:Gc g:=Bp h1
  refine Ar ?_;refine Ao (Jl r) rfl (Ft ?_);refine C2 (fun h2=>?_) fun h2=>?_
  ·have h2:H8 r:=Bp h2
   have hP:Pc g r:=⟨h1,h2,by omega⟩;rw [A9v hP];refine Ar ?_;refine C2 (fun h7=>?_) fun h7=>?_
   ·have h7:((Ac g r.op).kind==7)=true:=h7
    rw [h7];refine Ar ?_;refine C2 (fun h8=>?_) fun h8=>?_
    ·have h8:decide (((Ac g r.op).ax.length:Int)>0)=true:=h8
     rw [h8];refine Ar ?_;exact Dk
    have h8:decide (((Ac g r.op).ax.length:Int)>0)=false:=h8;rw [h8];refine Ar ?_;exact Dk
   have h7:((Ac g r.op).kind==7)=false:=h7;rw [h7];refine Ar ?_;exact Dk
  refine Ar ?_;rw [Nv (fun p=>absurd p.2.1 (Cy h2))];exact Dk
 refine Ar ?_;rw [Nv (fun p=>absurd p.1 (Cy h1))];exact Dk
end Go.Proofs.YtmhcebdkjgkmlaaGreatDoor
