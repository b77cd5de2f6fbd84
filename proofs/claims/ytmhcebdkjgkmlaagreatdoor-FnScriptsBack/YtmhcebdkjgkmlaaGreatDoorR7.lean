/- Part 7 of the proof that each of the laws FnScriptsBack returns true for every input. No conditions. -/
import Derived.Test.YtmhcebdkjgkmlaaGreatDoorR6

set_option linter.unusedSimpArgs false
set_option linter.unusedVariables false
set_option maxRecDepth 100000
namespace Go.Proofs.YtmhcebdkjgkmlaaGreatDoor
open Go.Sx
theorem Hm (n lo hi:Int):Df 130 [.one (vi n),.one (vi lo),.one (vi hi)] [.one (vb (F0 n lo hi))]:=by
 refine Dy Tryz.func130 fun W=>?_
 repeat' (first|(refine Gy ?_;conv=>whnf)|(refine Gz ?_;conv=>whnf)|(refine ⟨fun h=>?_,fun h=>?_⟩<;>conv=>whnf)|(refine Af A0 rfl rfl ⟨?_,trivial⟩;conv=>whnf)|(refine Ew ?_;conv=>whnf)|fail)
 all_goals (refine A6 vb ?_;simp_all [F0]<;>omega)
theorem Hw (n lo hi:Int):Df 115 [.one (vi n),.one (vi lo),.one (vi hi)] [.one (vb (F0 n lo hi))]:=by
 refine Dy Tryz.func115 fun W=>?_
 repeat' (first|(refine Gy ?_;conv=>whnf)|(refine Gz ?_;conv=>whnf)|(refine ⟨fun h=>?_,fun h=>?_⟩<;>conv=>whnf)|(refine Af A0 rfl rfl ⟨?_,trivial⟩;conv=>whnf)|(refine Ew ?_;conv=>whnf)|fail)
 all_goals (refine A6 vb ?_;simp_all [F0]<;>omega)
def I6 (x:Ba):Prop:=(1≤x.kind∧x.kind≤8)∧(x.kind=2→0≤x.a∧x.a≤999∧x.b=0)∧(x.kind=3→1≤x.a∧x.a≤10∧0≤x.b∧x.b≤x.a-1)∧(x.kind=4→0≤x.a∧x.a≤99∧x.b=0)∧
 (x.kind≠2→x.kind≠3→x.kind≠4→x.a=0∧x.b=0)∧x.ax.length≤2∧(x.kind=8→x.ax.length=0)∧(x.ax.length=2→x.ax.getD 0 default≠x.ax.getD 1 default)∧(∀n∈x.ax,0≤n∧n≤7)
instance (x:Ba):Decidable (I6 x):=by unfold I6;infer_instance
def Li (x:Ba):Bool:=decide (I6 x)
def A4i (l:List Int) (k:Nat):Prop:=∀i,i<k→0≤l.getD i default∧l.getD i default≤7
theorem A6j {l:List Int}{k:Nat}(h:A4i l k)(h1:0≤l.getD k default)(h2:l.getD k default≤7):A4i l (k+1):=fun i hi=>by
 by_cases e:i=k
 ·subst e;exact ⟨h1,h2⟩
 exact h i A7
theorem B0n {l:List Int}(h:A4i l l.length):∀n∈l,0≤n∧n≤7:=fun n hn=>by
 obtain ⟨i,hi,e⟩:=Po hn
 have:=h i hi
 rw [List.getD,Dh hi] at this;rw [←e];exact this
def A4j (x:Ba):Prop:=(1≤x.kind∧x.kind≤8)∧(x.kind=2→0≤x.a∧x.a≤999∧x.b=0)∧(x.kind=3→1≤x.a∧x.a≤10∧0≤x.b∧x.b≤x.a-1)∧(x.kind=4→0≤x.a∧x.a≤99∧x.b=0)∧
 (x.kind≠2→x.kind≠3→x.kind≠4→x.a=0∧x.b=0)
theorem I6.pars {x:Ba}(h:I6 x):A4j x:=⟨h.1,h.2.1,h.2.2.1,h.2.2.2.1,h.2.2.2.2.1⟩
theorem Tr (x:Ba)(hx:x.w≤16777216):Df 112 [.agg x.c] [.one (vb (Li x))]:=by
 have hl:x.ax.length≤16777216:=hx;refine C4y 6 A0 false Tryz.func112 rfl Bk fun W=>?_;conv=>whnf
 refine C76 A0 false (J:=Unit) [5,6,7,8,9,10,11,12,13,14,15,16,17,18,19,20,21,22,23,24,25,26,27,28,29,30,31,32,33,34,35,36,37,38,39,40,41,42,43,44,45,46,47,48,49,50,51,52,53,54,55,56,57] (fun _=>[]) (fun _=>[⟨0,[.c (vi x.kind),.c (vi x.a),.c (vi x.b),.c (De x.ax)]⟩]) (fun _=>[]) (fun _=>A4j x) ?_ ?_
 ·conv=>whnf
  repeat' (first|(refine Gy ?_;conv=>whnf)|(refine Gz ?_;conv=>whnf)|(refine ⟨fun h=>?_,fun h=>?_⟩<;>conv=>whnf)|(refine Ao (Hw _ _ _) rfl (Ag ?_))|(refine D6 ?_;conv=>whnf)|(refine Ae 19 rfl [0,1,2,3,4,5,6,7,8,9,10,11,12,13,14,15,16,17,18,19,20,21,22,23,24,25,26,27,28,29,30,31] Ak (Ag ?_))|fail)
  all_goals first
   |(refine Af A0 rfl rfl ⟨A6 vb (Cx fun p=>?_),trivial⟩;have p:=p.pars;unfold A4j at p;obtain ⟨p1,p2,p3,p4,p5⟩:=p;simp only [Es] at * <;>omega)
   |(refine Co [] () ?_ Bk trivial trivial;refine ⟨?_,?_,?_,?_,?_⟩<;>(intros;simp only [Es] at * <;>omega))
 intro _ hp;have hu:A4i x.ax 0:=fun i h=>absurd h (Le i);conv=>whnf
 unfold A4j at hp
 repeat' (first|(refine Gy ?_;conv=>whnf)|(refine Gz ?_;conv=>whnf)|(refine ⟨fun h=>?_,fun h=>?_⟩<;>conv=>whnf)|(refine D6 ?_;conv=>whnf)|(refine Ae 19 rfl [0,1,2,3,4,5,6,7,8,9,10,11,12,13,14,15,16,17,18,19,20,21,22,23,24,25,26,27,28,29,30,31] Ak (Ag ?_))|fail)
 all_goals try (refine Af A0 rfl rfl ⟨A6 vb (Cx fun p=>?_),trivial⟩;obtain ⟨p1,p2,p3,p4,p5,p6,p7,p8,p9⟩:=p;clear hp p1 p2 p3 p4 p5 p9;simp only [Es] at * <;>omega)
 all_goals
  refine Fs [] (fun k:Nat=>[(93,.c (vi k))]) (fun k=>[⟨0,[.c (vi x.kind),.c (vi x.a),.c (vi x.b),.c (De x.ax)]⟩]) (fun k=>[]) (fun k=>k≤x.ax.length∧A4i x.ax k) (fun k=>x.ax.length-k) fun k hk=>?_;obtain ⟨hk,he⟩:=hk;refine E3 (fun h'=>?_) fun h'=>?_
  ·have h':k<x.ax.length:=by omega
   refine B6 ?_;refine Fh (Hw (x.ax.getD k default) 0 7) ?_;refine C2 (fun hc=>?_) fun hc=>?_
   ·exact Af A0 rfl rfl ⟨A6 vb (Cx fun p=>by have p9:=p.2.2.2.2.2.2.2.2 _ (Am (d:=default) h');clear p hp he;simp only [Es] at * <;>omega),trivial⟩
   have hc:=Go.Sx.Dj.1 (by simpa using hc);refine B6 ?_;refine Co [] (k+1) ⟨by omega,A6j he hc.1 hc.2⟩ A7 ⟨rfl,trivial⟩ trivial
  have e:k=x.ax.length:=by omega
  refine Af A0 rfl rfl ⟨A6 vb (D7 ⟨hp.1,hp.2.1,hp.2.2.1,hp.2.2.2.1,hp.2.2.2.2,?_,?_,?_,B0n (e▸he)⟩),trivial⟩
  all_goals (clear he hp;intros;simp only [Es] at * <;>omega)
theorem C4v {p:Prop}(d:Decidable p)(q:Prop) [Decidable q]:(Decidable.rec (motive:=fun _=>Bool) (fun _=>false) (fun _=>decide q) d=true)↔(p∧q):=by
 cases d<;>simp [*]
theorem Z1 (x:Ba)(hx:x.w≤16777216):Df 128 [.agg x.c] [.one (vb (Li x))]:=by
 have hl:x.ax.length≤16777216:=hx;have hw1:1≤x.a→x.a≤10→IntKind.wrap .i64 (x.a-1)=x.a-1:=fun h1 h2=>L0 (by show _∧_;omega)
 refine C4y 20 A0 true Tryz.func128 rfl Bk fun W=>?_;conv=>whnf
 refine C76 A0 true (J:=Bool×Bool) [12,13,14,15,16,17,18,19,20,21,22,23,24,25,26,27,28,29,30,31,32,33,34] (fun j=>[(3,.c (vb j.1)),(4,.c (vb j.2))]) (fun _=>[⟨0,[.c (vi x.kind),.c (vi x.a),.c (vi x.b),.c (De x.ax)]⟩]) (fun _=>[]) (fun j=>((j.1=true∧j.2=true∧1≤x.kind∧x.kind≤8)↔A4j x)) ?_ ?_
 ·conv=>whnf
  repeat' (first|(refine Gy ?_;conv=>whnf)|(refine Gz ?_;conv=>whnf)|(refine ⟨fun h=>?_,fun h=>?_⟩<;>conv=>whnf)|(refine Ao (Hm _ _ _) rfl (go A0 true ?_);conv=>whnf)|(refine D6 ?_;conv=>whnf)|(refine Ae 16 rfl [0,1,2,3,4,5,6,7,8,9,10,11,12,13,14,15,16,17,18,19,20,21] Ak (go A0 true ?_);conv=>whnf)|fail)
  all_goals
   refine Co [] (_,_) ?_ Bk ⟨rfl,rfl,trivial⟩ trivial;unfold A4j
   try simp only [C4v]
   simp only [Es] at * <;>omega
 rintro ⟨a,b⟩ hp
 have hu:A4i x.ax 0∧(2≤0→x.ax.getD 0 default≠x.ax.getD 1 default):=⟨fun i h=>absurd h (Le i),fun h=>by omega⟩
 conv=>whnf
 repeat' (first|(refine Gy ?_;conv=>whnf)|(refine Gz ?_;conv=>whnf)|(refine ⟨fun h=>?_,fun h=>?_⟩<;>conv=>whnf)|(refine Ao (Hm _ _ _) rfl (go A0 true ?_);conv=>whnf)|(refine D6 ?_;conv=>whnf)|(refine Ae 16 rfl [0,1,2,3,4,5,6,7,8,9,10,11,12,13,14,15,16,17,18,19,20,21] Ak (go A0 true ?_);conv=>whnf)|fail)
 all_goals try (refine Af A0 rfl rfl ⟨A6 vb (Cx fun p=>?_),trivial⟩;have q:=hp.2 p.pars;obtain ⟨p1,p2,p3,p4,p5,p6,p7,p8,p9⟩:=p;clear hp hu p2 p3 p4 p5 p9;simp only [Es] at * <;>first|omega|simp_all)
 all_goals
  refine Vq A0 true [] (fun k:Nat=>[(5,.c (vi k))]) (fun k=>[⟨0,[.c (vi x.kind),.c (vi x.a),.c (vi x.b),.c (De x.ax)]⟩]) (fun k=>[])
   (fun k=>k≤x.ax.length∧(A4i x.ax k∧(2≤k→x.ax.getD 0 default≠x.ax.getD 1 default))) (fun k=>x.ax.length-k) 0 ⟨Ff _,by first|rfl|assumption|simp⟩ ⟨(by first|rfl|simp [I4,ren2,ren1,ren0]),trivial⟩ Td trivial ab8 Ak (fun k hk=>?_)
  obtain ⟨hk,he⟩:=hk;conv=>whnf
  refine E3 (fun h'=>?_) fun h'=>?_
  ·have h':k<x.ax.length:=by omega
   clear hp hu
   repeat' (first|(refine Gy ?_;conv=>whnf)|(refine Gz ?_;conv=>whnf)|(refine ⟨fun h=>?_,fun h=>?_⟩<;>conv=>whnf)|(refine Ao (Hm _ _ _) rfl (go A0 true ?_);conv=>whnf)|(refine D6 ?_;conv=>whnf)|(refine Ae 16 rfl [0,1,2,3,4,5,6,7,8,9,10,11,12,13,14,15,16,17,18,19,20,21] Ak (go A0 true ?_);conv=>whnf)|fail)
   all_goals try (refine Af A0 rfl rfl ⟨A6 vb (Cx fun p=>?_),trivial⟩;have p9:=p.2.2.2.2.2.2.2.2 _ (Am (d:=default) h');have p8:=p.2.2.2.2.2.2.2.1;have p6:=p.2.2.2.2.2.1;clear p he;simp only [Es] at * <;>omega)
   all_goals
    refine Co [] (k+1) ⟨by omega,⟨A6j he.1 (by clear he;simp only [Es] at * <;>omega) (by clear he;simp only [Es] at * <;>omega),by have q:=he.2;clear he;simp only [Es] at * <;>omega⟩⟩ A7 ⟨A6 (fun n=>AV.c (vi n)) (C3h k A7),trivial⟩ trivial
  have e:k=x.ax.length:=by omega
  have hq:A4j x:=hp.1 (by clear hp hu he;simp only [Es] at * <;>first|omega|(refine ⟨?_,?_,?_,?_⟩<;>first|assumption|omega))
  have q:=he.2;refine Af A0 rfl rfl ⟨A6 vb (D7 ⟨hq.1,hq.2.1,hq.2.2.1,hq.2.2.2.1,hq.2.2.2.2,?_,?_,?_,B0n (e▸he.1)⟩),trivial⟩
  all_goals (clear he hp hu hq;intros;simp only [Es] at * <;>omega)
def A1j (g:Ax) (k:Int):Int:=(g.ay.getD k.toNat default).kind
def V2 (g:Ax) (i:Nat) (x:Ba) (k:Int):Prop:=k<g.ay.length∧(x.kind=7→k≤i∧(A1j g k=5∨A1j g k=6))∧(x.kind≠7→i<k)
instance (g:Ax) (i:Nat) (x:Ba) (k:Int):Decidable (V2 g i x k):=by unfold V2;infer_instance
def R6 (g:Ax) (i:Nat):Prop:=I6 (g.ay.getD i default)∧((g.ay.getD i default).kind=1↔i=0)∧∀k∈(g.ay.getD i default).ax,V2 g i (g.ay.getD i default) k
instance (g:Ax) (i:Nat):Decidable (R6 g i):=by unfold R6;infer_instance
def Gc (g:Ax):Prop:=(1≤g.ay.length∧g.ay.length≤8)∧(1≤g.aq∧g.aq≤4)∧(1≤g.cap∧g.cap≤4)∧∀i,i<g.ay.length→R6 g i
instance (g:Ax):Decidable (Gc g):=by unfold Gc;infer_instance
def Eh (g:Ax):Bool:=decide (Gc g)
def Mv (p:Nat→Prop) (k:Nat):Prop:=∀i,i<k→p i
theorem Dm (p:Nat→Prop):Mv p 0:=fun i h=>absurd h (Le i)
variable {k : Nat}
theorem Dl {p:Nat→Prop}(h:Mv p k)(hk:p k):Mv p (k+1):=fun i hi=>by
 by_cases e:i=k
 ·subst e;exact hk
 exact h i A7
theorem Io {α:Type} [Inhabited α] {l:List α}{p:α→Prop}(h:Mv (fun i=>p (l.getD i default)) l.length):∀x∈l,p x:=fun x hx=>by
 obtain ⟨i,hi,e⟩:=Po hx
 have:p (l.getD i default):=h i hi
 rw [List.getD,Dh hi] at this;rw [←e];exact this
theorem Ax.nodes_le {g:Ax}{n:Nat}(h:g.w≤n):g.ay.length≤n:=by
 have:g.ay.length+(g.ay.map Ba.w).sum≤n:=h
 omega
theorem Ax.node_le {g:Ax}{n:Nat}(h:g.w≤n)(hk:k<g.ay.length):(g.ay.getD k default).w≤n:=by
 have:g.ay.length+(g.ay.map Ba.w).sum≤n:=h
 have hle:=Fg Ba.w g.ay k hk;omega
theorem C6e {z:Int}(h:((z==1) !=((k:Int)==0))=true):¬ (z=1↔k=0):=by
 intro q
 by_cases e:k=0
 ·have:=q.2 e
  subst this;subst e;exact absurd h Bk
 have e1:¬ z=1:=fun e2=>e (q.1 e2);rw [Nh.2 e1,Nh.2 (show (k:Int)≠0 by omega)] at h
 exact absurd h Bk
theorem C6d {z:Int}(h:((z==1) !=((k:Int)==0))=false):z=1↔k=0:=by
 have h:=Ni.1 h
 constructor
 ·intro e
  have h2:((k:Int)==0)=true:=by rw [←h,e];rfl
  have:=eq_of_beq h2
  omega
 intro e;have h2:(z==1)=true:=by rw [h,e];rfl
 exact eq_of_beq h2
theorem Mn (g:Ax)(hg:g.w≤16777216):Df 88 [.agg g.c] [.one (vb (Eh g))]:=by
 have hn:=Ax.nodes_le hg;have hu:=Dm (R6 g);refine Dy Tryz.func88 fun W=>?_
 repeat' (first|(refine Gy ?_;conv=>whnf)|(refine Gz ?_;conv=>whnf)|(refine ⟨fun h=>?_,fun h=>?_⟩<;>conv=>whnf)|(refine Ao (Hm _ _ _) rfl (Ag ?_))|(refine D6 ?_;conv=>whnf)|fail)
 all_goals try (refine Af A0 rfl rfl ⟨A6 vb (Cx fun p=>?_),trivial⟩;have p1:=p.1;have p2:=p.2.1;have p3:=p.2.2.1;clear p;simp only [Es] at * <;>omega)
 refine Fs [] (fun k:Nat=>[(3,.c (vi k))]) (fun k=>[⟨0,[.c (Ay g.ay),.c (vi g.aq),.c (vi g.cap)]⟩]) (fun k=>[]) (fun k=>k≤g.ay.length∧Mv (R6 g) k) (fun k=>g.ay.length-k) fun k hk=>?_;obtain ⟨hk,he⟩:=hk;refine E3 (fun h'=>?_) fun h'=>?_
 ·have h':k<g.ay.length:=by omega
  have hw:=Ax.node_le hg h';have hq:(g.ay.getD k default).ax.length≤16777216:=hw;have hv:=Dm (fun j=>V2 g k (g.ay.getD k default) ((g.ay.getD k default).ax.getD j default))
  repeat' (first|(refine Gy ?_;conv=>whnf)|(refine Gz ?_;conv=>whnf)|(refine ⟨fun h=>?_,fun h=>?_⟩<;>conv=>whnf)|(refine Ao (Z1 (g.ay.getD k default) hw) rfl (I7 ?_);conv=>whnf)|(refine D6 ?_;conv=>whnf)|fail)
  ·exact Af A0 rfl rfl ⟨A6 vb (Cx fun p=>by rw [show Li (g.ay.getD k default)=true from D7 (p.2.2.2 k h').1] at h;exact absurd h Bk),trivial⟩
  ·exact Af A0 rfl rfl ⟨A6 vb (Cx fun p=>C6e h (p.2.2.2 k h').2.1),trivial⟩
  rename_i hno
  have hN:I6 (g.ay.getD k default):=Bp (show Li (g.ay.getD k default)=true by cases hq2:Li (g.ay.getD k default)<;>simp_all only [Bool.not_false,A8i])
  have hK:(g.ay.getD k default).kind=1↔k=0:=C6d h;have hO:=hN.2.2.2.2.2.2.2.2;refine Fs [] (fun j:Nat=>[(5,.c (vi j))]) (fun j=>[⟨0,[.c (Ay g.ay),.c (vi g.aq),.c (vi g.cap)]⟩,⟨1,[.c (vi (g.ay.getD k default).kind),.c (vi (g.ay.getD k default).a),.c (vi (g.ay.getD k default).b),.c (De (g.ay.getD k default).ax)]⟩]) (fun j=>[]) (fun j=>j≤(g.ay.getD k default).ax.length∧Mv (fun j=>V2 g k (g.ay.getD k default) ((g.ay.getD k default).ax.getD j default)) j) (fun j=>(g.ay.getD k default).ax.length-j) fun j hj=>?_;obtain ⟨hj,hej⟩:=hj;refine E3 (fun h2=>?_) fun h2=>?_
  ·have h2:j<(g.ay.getD k default).ax.length:=by first|omega|(simp only [Cp] at h2;omega)
   have hb:=hO _ (Am (d:=default) h2)
   repeat' (first|(refine Gy ?_;conv=>whnf)|(refine Gz ?_;conv=>whnf)|(refine ⟨fun h=>?_,fun h=>?_⟩<;>conv=>whnf)|(refine D6 ?_;conv=>whnf)|fail)
   all_goals try (refine Af A0 rfl rfl ⟨A6 vb (Cx fun p=>?_),trivial⟩;have q:=(p.2.2.2 k h').2.2 _ (Am (d:=default) h2);clear p hej he hv hu hN hK hO;simp only [V2,A1j] at q;simp only [Es] at * <;>omega)
   all_goals
    refine Co [] (j+1) ⟨by omega,Dl hej (by clear hej he hv hu hN hK hO;simp only [V2,A1j];simp only [Es] at * <;>omega)⟩ A7 ⟨rfl,trivial⟩ trivial
  have e:j=(g.ay.getD k default).ax.length:=by first|omega|(simp only [Cp] at h2;omega)
  refine B6 ?_;refine Co [] (k+1) ⟨by omega,Dl he ⟨hN,hK,Io (e▸hej)⟩⟩ A7 ⟨rfl,trivial⟩ trivial
 have e:k=g.ay.length:=by omega
 exact Af A0 rfl rfl ⟨A6 vb (D7 ⟨by simp only [Es] at * <;>omega,by simp only [Es] at * <;>omega,by simp only [Es] at * <;>omega,e▸he⟩),trivial⟩
def H8 (r:A9):Prop:=(0≤r.op∧r.op≤7)∧(0≤r.af.am∧r.af.am≤3)∧(0≤r.af.turn∧r.af.turn≤6)∧(0≤r.key∧r.key≤99)∧(0≤r.val∧r.val≤999)
instance (r:A9):Decidable (H8 r):=by unfold H8;infer_instance
def F2 (r:A9):Bool:=decide (H8 r)
theorem N7 (r:A9):F2 r=true↔(0≤r.op∧r.op≤7)∧(0≤r.af.am∧r.af.am≤3)∧(0≤r.af.turn∧r.af.turn≤6)∧(0≤r.key∧r.key≤99)∧(0≤r.val∧r.val≤999):=decide_eq_true_iff
def Jm (s:Iq):Bool:=decide ((0≤s.am∧s.am≤3)∧(0≤s.turn∧s.turn≤6))
theorem A3n (s:Iq):Df 182 [.agg s.c] [.one (vb (Jm s))]:=by
 refine Dy Tryz.func182 fun W=>?_
 repeat' (first|(refine Gy ?_;conv=>whnf)|(refine Gz ?_;conv=>whnf)|(refine ⟨fun h=>?_,fun h=>?_⟩<;>conv=>whnf)|(refine Ao (Hm _ _ _) rfl (Ag ?_))|(refine D6 ?_;conv=>whnf)|fail)
 all_goals (refine Af A0 rfl rfl ⟨A6 vb ?_,trivial⟩;(rw [Lf];simp only [N7,Jm,B7b,T5,iff_false,false_iff,iff_true,true_iff,ne_eq] at * <;>omega))
theorem A2z (s:Iq):Df 170 [.agg s.c] [.one (vb (Jm s))]:=by
 refine Dy Tryz.func170 fun W=>?_
 repeat' (first|(refine Gy ?_;conv=>whnf)|(refine Gz ?_;conv=>whnf)|(refine ⟨fun h=>?_,fun h=>?_⟩<;>conv=>whnf)|(refine Ao (Hw _ _ _) rfl (Ag ?_))|(refine D6 ?_;conv=>whnf)|fail)
 all_goals (refine Af A0 rfl rfl ⟨A6 vb ?_,trivial⟩;(rw [Lf];simp only [N7,Jm,B7b,T5,iff_false,false_iff,iff_true,true_iff,ne_eq] at * <;>omega))
theorem Jl (r:A9):Df 123 [.agg r.c] [.one (vb (F2 r))]:=by
 refine Dy Tryz.func123 fun W=>?_
 repeat' (first|(refine Gy ?_;conv=>whnf)|(refine Gz ?_;conv=>whnf)|(refine ⟨fun h=>?_,fun h=>?_⟩<;>conv=>whnf)|(refine Ao (Hm _ _ _) rfl (Ag ?_))|(refine Ao (A3n r.af) rfl (Ag ?_))|(refine D6 ?_;conv=>whnf)|fail)
 all_goals (refine Af A0 rfl rfl ⟨A6 vb ?_,trivial⟩;(rw [Lf];simp only [N7,Jm,B7b,T5,iff_false,false_iff,iff_true,true_iff,ne_eq] at * <;>omega))
theorem A5v (k v:Int):Df 171 [.one (vi k),.one (vi v)] [.one (vb (decide ((0≤k∧k≤99)∧(0≤v∧v≤999))))]:=by
 refine Dy Tryz.func171 fun W=>?_
 repeat' (first|(refine Gy ?_;conv=>whnf)|(refine Gz ?_;conv=>whnf)|(refine ⟨fun h=>?_,fun h=>?_⟩<;>conv=>whnf)|(refine Ao (Hw _ _ _) rfl (Ag ?_))|(refine D6 ?_;conv=>whnf)|fail)
 all_goals (refine Af A0 rfl rfl ⟨A6 vb ?_,trivial⟩;(rw [Lf];simp only [N7,Jm,B7b,T5,iff_false,false_iff,iff_true,true_iff,ne_eq] at * <;>omega))
theorem Ik (r:A9):Df 114 [.agg r.c] [.one (vb (F2 r))]:=by
 refine Dy Tryz.func114 fun W=>?_
 repeat' (first|(refine Gy ?_;conv=>whnf)|(refine Gz ?_;conv=>whnf)|(refine ⟨fun h=>?_,fun h=>?_⟩<;>conv=>whnf)|(refine Ao (Hw _ _ _) rfl (Ag ?_))|(refine Ao (A2z r.af) rfl (Ag ?_))|(refine Ao (A5v r.key r.val) rfl (Ag ?_))|(refine D6 ?_;conv=>whnf)|fail)
 all_goals (refine Af A0 rfl rfl ⟨A6 vb ?_,trivial⟩;(rw [Lf];simp only [N7,Jm,B7b,T5,iff_false,false_iff,iff_true,true_iff,ne_eq] at * <;>omega))
def Oh (a b:Int):Int:=if a<b then-1 else if a>b then 1 else 0
def Vp:List Int→List Int→Int
 |a::x,b::y=>if Oh a b=0 then Vp x y else Oh a b
 |_,_=>0
theorem C2e {a b:List Int}{k:Nat}(h:k<a.length)(hl:a.length=b.length):Vp (a.drop k) (b.drop k)=if Oh (a.getD k default) (b.getD k default)=0 then Vp (a.drop (k+1)) (b.drop (k+1)) else Oh (a.getD k default) (b.getD k default):=by
 have h2:k<b.length:=by omega
 rw [A8e h,A8e h2,Vp,List.getD,List.getD,Dh h,Dh h2];rfl
theorem C5u {a b:List Int}{k:Nat}(h:¬ k<a.length):Vp (a.drop k) (b.drop k)=0:=by
 rw [List.drop_of_length_le A7];rfl
theorem B9l (n:Int):Df 335 [.one (vi n)] [.one (vb false)]:=by
 refine Dy Tryz.func335 fun W=>?_;exact Af A0 rfl rfl ⟨A6 vb Ef,trivial⟩
theorem B7n (a b:Int):Df 329 [.one (vi a),.one (vi b)] [.one (vi (Oh a b))]:=by
 refine Dy Tryz.func329 fun W=>?_;refine Fh (B9l a) ?_;refine Fh (B9l b) ?_;refine A20 C3u ?_;conv=>whnf
 refine A20 C3u ?_;conv=>whnf
 refine E3 (fun h=>?_) fun h=>?_
 ·exact Af A0 rfl rfl ⟨A6 vi (by rw [Oh,Ah h]),trivial⟩
 refine E3 (fun h2=>?_) fun h2=>?_
 ·exact Af A0 rfl rfl ⟨A6 vi (by rw [Oh,Ab h,Ah h2]),trivial⟩
 exact Af A0 rfl rfl ⟨A6 vi (by rw [Oh,Ab h,Ab h2]),trivial⟩
theorem C25 (a b:Int):Df 295 [.one (vi a),.one (vi b)] [.one (vi (Oh a b))]:=by
 refine Dy Tryz.func295 fun W=>?_;refine E3 (fun h=>?_) fun h=>?_
 ·exact Af A0 rfl rfl ⟨A6 vi (by rw [Oh,Ah h]),trivial⟩
 refine E3 (fun h2=>?_) fun h2=>?_
 ·exact Af A0 rfl rfl ⟨A6 vi (by rw [Oh,Ab h,Ah h2]),trivial⟩
 exact Af A0 rfl rfl ⟨A6 vi (by rw [Oh,Ab h,Ab h2]),trivial⟩
theorem B4f (a b:List Int)(hl:a.length=b.length)(ha:a.length≤16777216):Df 321 [.one (De a),.one (De b)] [.one (vi (Vp a b))]:=by
 refine Dy Tryz.func321 fun W=>?_;refine Fs [] (fun k:Nat=>[(11,.c (vi k))]) (fun k=>[]) (fun k=>[]) (fun k=>k≤a.length∧Vp (a.drop k) (b.drop k)=Vp a b) (fun k=>a.length-k) fun k hk=>?_;obtain ⟨hk,he⟩:=hk;refine E3 (fun h=>?_) fun h=>?_
 ·have h:k<a.length:=by omega
  rw [C2e h hl] at he;refine B6 ?_;refine E3 (fun h2=>?_) fun h2=>?_
  ·omega
  refine B6 ?_;refine Fh (B7n (a.getD k default) (b.getD k default)) ?_;refine Xi (fun h3=>?_) fun h3=>?_
  ·rw [Ab h3] at he
   exact Af A0 rfl rfl ⟨A6 vi he.symm,trivial⟩
  rw [Ah h3] at he;refine B6 ?_;refine Co [] (k+1) ⟨by omega,he⟩ A7 ⟨rfl,trivial⟩ trivial
 rw [C5u A7] at he;refine E3 (fun h4=>?_) fun h4=>?_
 ·omega
 exact Af A0 rfl rfl ⟨A6 vi he.symm,trivial⟩
theorem B4k (a b:List Int)(hl:a.length=b.length)(ha:a.length≤16777216):Df 297 [.one (De a),.one (De b)] [.one (vi (Vp a b))]:=by
 refine Dy Tryz.func297 fun W=>?_;refine Fh (B4f a b hl ha) ?_;exact Af A0 rfl rfl ⟨rfl,trivial⟩
def Ra (x:Al):List Int:=[x.am,x.op,x.key,x.val]
def Mx (a b:Al):Int:=Vp (Ra a) (Ra b)
theorem Xp (a b:Al):Df 262 [.agg a.c,.agg b.c] [.one (vi (Mx a b))]:=by
 refine Dy Tryz.func262 fun W=>?_;refine Mg 2 (De (Ra a)) rfl (Cc rfl Td) ?_;refine Mg 3 (De (Ra b)) rfl (Cc rfl Td) ?_;refine Fh (B4k (Ra a) (Ra b) rfl (by simp [Ra])) ?_;exact Af A0 rfl rfl ⟨rfl,trivial⟩
def C1g (a b:Al):List Int:=[Oh a.am b.am,Oh a.op b.op,Oh a.key b.key,Oh a.val b.val]
theorem A55:∀(l m:List Int) (k:Nat),(∀i,i<k→Oh (l.getD i default) (m.getD i default)=0)→l.length=m.length→k<l.length→Oh (l.getD k default) (m.getD k default)≠0→Vp l m=Oh (l.getD k default) (m.getD k default)
 | [],_,_,_,_,h,_=>by simp at h
 |_::_,[],_,_,h,_,_=>by simp at h
 |a::x,b::y,0,_,_,_,h=>by rw [Vp,Ab (show ¬ Oh a b=0 from h)];rfl
 |a::x,b::y,k+1,h0,hl,hk,h=>by
  have:=h0 0 A7
  rw [Vp,Ah (show Oh a b=0 from this)]
  exact A55 x y k (fun i hi=>h0 (i+1) A7) (by simpa using hl) (by simpa using hk) h
theorem B0g:∀(l m:List Int),(∀i,i<l.length→Oh (l.getD i default) (m.getD i default)=0)→l.length=m.length→Vp l m=0
 | [],_,_,_=>by rw [Vp];simp
 |_::_,[],_,h=>by simp at h
 |a::x,b::y,h0,hl=>by
  have:=h0 0 Ef
  rw [Vp,Ah (show Oh a b=0 from this)]
  exact B0g x y (fun i hi=>h0 (i+1) (by simpa using hi)) (by simpa using hl)
theorem Y8 (a b:Al):Df 260 [.agg a.c,.agg b.c] [.one (vi (Mx a b))]:=by
 refine Dy Tryz.func260 fun W=>?_
 repeat' (first|(refine Gy ?_;conv=>whnf)|(refine Gz ?_;conv=>whnf)|(refine ⟨fun h=>?_,fun h=>?_⟩<;>conv=>whnf)|(refine Ao (C25 _ _) rfl (Ag ?_))|(refine D6 ?_;conv=>whnf)|(refine Ae 1 rfl [0,1,2,3,5,6,7,8,10,11,12,13,15,16,17,18,4,9,14,19,20,21] Ak (Ag ?_))|fail)
 refine Fi 2 (De (C1g a b)) rfl (Cc rfl Td) ?_;refine Fs [] (fun k:Nat=>[(6,.c (vi k))]) (fun k=>[]) (fun k=>[⟨2,De (C1g a b)⟩]) (fun k=>k≤4∧∀i,i<k→(C1g a b).getD i default=0) (fun k=>4-k) fun k hk=>?_;obtain ⟨hk,he⟩:=hk;refine E3 (fun h=>?_) fun h=>?_
 ·have h:k<4:=by omega
  have hk:(C1g a b).length=4:=rfl
  have hq:∀i,i<4→(C1g a b).getD i default=Oh ((Ra a).getD i default) ((Ra b).getD i default):=fun i hi=>by
   match i,hi with
   | 0,_=>rfl
   | 1,_=>rfl
   | 2,_=>rfl
   | 3,_=>rfl
  refine B6 ?_;refine Xi (fun h3=>?_) fun h3=>?_
  ·refine B6 ?_
   exact Af A0 rfl rfl ⟨A6 vi ((A55 _ _ k (fun i hi=>(hq i A7).symm.trans (he i hi)) rfl h (by rw [←hq k h];exact h3)).trans (hq k h).symm),trivial⟩
  refine B6 ?_;refine Co [] (k+1) ⟨by omega,fun i hi=>(Wl.1 hi).elim (fun h4=>he i h4) (fun h4=>h4▸h3)⟩ A7 ⟨rfl,trivial⟩ ⟨rfl,trivial⟩
 have hq:∀i,i<4→(C1g a b).getD i default=Oh ((Ra a).getD i default) ((Ra b).getD i default):=fun i hi=>by
  match i,hi with
  | 0,_=>rfl
  | 1,_=>rfl
  | 2,_=>rfl
  | 3,_=>rfl
 exact Af A0 rfl rfl ⟨A6 vi (B0g (Ra a) (Ra b) (fun i hi=>(hq i hi).symm.trans (he i (by have:i<4:=hi;omega))) rfl),trivial⟩
def O8 (l:List Al) (x:Al):Bool:=l.any fun y=>decide (y=x)
def Ph (l:List Al) (x:Al):Nat:=Iu (fun y=>!decide (Mx y x<0)) l
def I2 (l:List Al) (x:Al):List Al:=if O8 l x=true then l else l.take (Ph l x)++x::l.drop (Ph l x)
def A1m (op e k:Int) (s:Int×Bool) (x:Al):Int×Bool:=if (x.op=op∧x.am=e∧x.key=k)∧(s.2=false∨x.val<s.1) then (x.val,true) else s
def L7 (l:List Al) (op e k:Int):Int×Bool:=l.foldl (A1m op e k) (0,false)
def B7 (a b:Al):Bool:=decide (a.op=b.op∧a.am=b.am∧a.key=b.key)
def A6g (l:List Al) (x:Al):Prop:=(L7 l x.op x.am x.key).2=true∧(L7 l x.op x.am x.key).1≤x.val
instance (l:List Al) (x:Al):Decidable (A6g l x):=by unfold A6g;infer_instance
def M7 (l:List Al) (x:Al):List Al×Bool:=if A6g l x then (l,false) else (I2 (l.filter fun y=>!B7 x y) x,true)
def Dd (k:Int) (l:List Al) (x:Al):List Al×Bool:=
 if k=5∨k=8 then M7 l x else if k=6 then (if O8 l x=true then (l,false) else (I2 l x,true)) else (l,true)
structure B3h (p:Prop):Prop where
 out:p
end Go.Proofs.YtmhcebdkjgkmlaaGreatDoor
