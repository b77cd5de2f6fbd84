/- Part 23 of the proof that each of the laws FnSpread returns true for every input. No conditions. -/
import Derived.Test.YtdendlkeiaccpaaGreatQ15
import Derived.Test.YtdendlkeiaccpaaGreatQ10
import Derived.Test.YtdendlkeiaccpaaGreatQ17
import Derived.Test.YtdendlkeiaccpaaGreatQ19
import Derived.Test.YtdendlkeiaccpaaGreatQ22
import Derived.Test.YtdendlkeiaccpaaGreatQ21
import Derived.Test.YtdendlkeiaccpaaGreatQ20

set_option linter.unusedSimpArgs false
set_option linter.unusedVariables false
set_option maxRecDepth 100000
namespace Go.Proofs.YtdendlkeiaccpaaGreat
open Go.Sx
abbrev sRR (xs:List (List Aa)):Ai:=Kv 1 (fun r=>[Af r]) xs
theorem Yo (xs:List Aa)(w:Int)(hx:xs.length≤16777216):B3 Tryz.prog 15 [.one (Af xs),.one (vi w)] [.one (sRR (Dh xs (Cx w 0 4).toNat))]:=by
 have hb:=Fe w 0 4 B5;obtain ⟨n,hn⟩:∃n:Nat,Cx w 0 4=n:=⟨(Cx w 0 4).toNat,by omega⟩;have hs:=Kq xs n;refine Aw A0 false Tryz.func15 rfl B5 fun W=>?_;conv=>whnf
 refine As (M3 w 0 4) rfl (A7 ?_);rw [hn];refine Es 0 (sRR []) rfl Cq ?_
 refine Bk A0 false [10] (fun k:Nat=>[(7,.c (vi k))]) (fun k=>[]) (fun k=>[⟨0,sRR ((Dh xs n).take k)⟩])
  (fun k=>k≤n) (fun k=>n-k) 0 (Nat.zero_le _) ⟨F0,trivial⟩ trivial ⟨Dm,trivial⟩ C1 A6 (fun k hk=>?_)
 conv=>whnf
 refine Eo (fun h=>?_) fun h=>?_<;>conv=>whnf
 ·have h:k<n:=by omega
  have ht:=Go.Sx.Fj (Dh xs n) k Ad;rw [W2 xs n k h] at ht;refine Es 1 (Af []) rfl Cq ?_
  refine Bk A0 false [18] (fun j:Nat=>[(9,.c (vi j))]) (fun _=>[]) (fun j=>[⟨1,Af ((xs.take j).filter fun r=>Bn r.key n==k)⟩,⟨0,sRR ((Dh xs n).take k)⟩])
   (fun j=>j≤xs.length) (fun j=>xs.length-j) 0 (Nat.zero_le _) ⟨rfl,trivial⟩ trivial ⟨rfl,rfl,trivial⟩ trivial A6 (fun j hj=>?_)
  conv=>whnf
  refine Eo (fun h'=>?_) fun h'=>?_<;>conv=>whnf
  ·have h':j<xs.length:=by omega
   have hf:=E4 (fun r=>Bn r.key n==k) xs j h';have hg:=Dd (fun r=>Bn r.key n==(k:Int)) xs j;(repeat refine Ap ?_);refine As (O2 (xs.getD j default).key n Ad) rfl (A7 ?_);refine ⟨fun hc=>?_,fun hc=>?_⟩<;>conv=>whnf
   ·(repeat refine Ap ?_)
    refine Bj A0 rfl rfl rfl rfl rfl rfl rfl rfl rfl rfl rfl (Af ((xs.take j).filter (fun r=>Bn r.key n==k)++[xs.getD j default])) (An rfl) C6 Ad (A7 ?_);(repeat refine Ap ?_);refine Az [(1,3)] (j+1) Ad Ad ⟨rfl,trivial⟩ ⟨?_,rfl,trivial⟩ trivial A6 trivial A6;exact congrArg Af (by rw [hf,if_pos hc])
   (repeat refine Ap ?_);refine Az [] (j+1) Ad Ad ⟨rfl,trivial⟩ ⟨?_,rfl,trivial⟩ trivial A6 trivial A6;exact congrArg Af (by rw [hf,if_neg (by rw [hc];decide),List.append_nil])
  rw [Da xs j Ad];refine Kg A0 rfl rfl rfl rfl rfl rfl rfl rfl rfl (A7 ?_);refine Bj A0 rfl rfl rfl rfl rfl rfl rfl rfl rfl rfl rfl (sRR ((Dh xs n).take k++[xs.filter fun r=>Bn r.key n==k])) (An rfl) C6 (by simp only [List.length_take];omega) (A7 ?_);(repeat refine Ap ?_);refine Az [(0,3)] (k+1) Ad Ad ⟨rfl,trivial⟩ ⟨congrArg sRR ht.symm,trivial⟩ trivial A6 C1 A6
 refine Am A0 rfl rfl ⟨?_,trivial⟩;exact congrArg sRR (Da _ _ Ad)
theorem A9y (n:Nat):Dh [] n=List.replicate n default:=by
 simp only [Dh,List.filter_nil];rw [List.map_const',List.length_range];rfl
theorem Yk (xs:List Aa)(w:Int)(hx:xs.length≤16777216):B3 Tryz.prog 14 [.one (Af xs),.one (vi w)] [.one (sRR (Dh xs (Cx w 0 4).toNat))]:=by
 have hb:=Fe w 0 4 B5;obtain ⟨n,hn⟩:∃n:Nat,Cx w 0 4=n:=⟨(Cx w 0 4).toNat,by omega⟩;refine Aw A0 false Tryz.func14 rfl B5 fun W=>?_;conv=>whnf
 refine As (Nw w 0 4) rfl (A7 ?_);rw [hn];(repeat refine Ap ?_);refine Es 0 (sRR (List.replicate n default)) rfl (B4p (α:=List Aa) (e:=fun r=>[Af r]) n ⟨.nil _ _,trivial⟩) ?_;rw [←A9y n]
 refine Bk A0 false [] (fun k:Nat=>[(16,.c (vi k))]) (fun k=>[]) (fun k=>[⟨0,sRR (Dh (xs.take k) n)⟩])
  (fun k=>k≤xs.length) (fun k=>xs.length-k) 0 (Nat.zero_le _) ⟨F0,trivial⟩ trivial ⟨Dm,trivial⟩ C1 A6 (fun k hk=>?_)
 conv=>whnf
 refine Eo (fun h=>?_) fun h=>?_<;>conv=>whnf
 ·have h:k<xs.length:=by omega
  have hs:=Kq (xs.take k) n;have ht:=Go.Sx.Fj xs k h;(repeat refine Ap ?_);refine Eo (fun hc=>?_) fun hc=>?_<;>conv=>whnf
  ·have hr:=Sz (xs.getD k default).key n Ad
   obtain ⟨j,hj⟩:∃j:Nat,Bn (xs.getD k default).key n=j:=⟨(Bn (xs.getD k default).key n).toNat,by omega⟩;have hl:=A9x (xs.take k) n _ (At (d:=default) (k:=j) Ad);have hk':(xs.take k).length≤xs.length:=List.length_take_le' _ _;refine As (Nx (xs.getD k default).key n Ad) rfl (A7 ?_);rw [hj]
   first|(refine Ax 8 rfl [0,1,2,3,4,5,6,7,8,9,10] A6 (A7 ?_))
   (repeat refine Ap ?_);refine C3w (j:=j) (off:=0) (r:=[Af ((Dh (xs.take k) n).getD j default)]) (c:=Af ((Dh (xs.take k) n).getD j default)) A0 rfl rfl rfl rfl rfl rfl rfl rfl (fun v=>go A0 false ?_);conv=>whnf
   refine Bj A0 rfl rfl rfl rfl rfl rfl rfl rfl rfl rfl rfl (Af ((Dh (xs.take k) n).getD j default++[xs.getD k default])) (An rfl) C6 Ad (A7 ?_);(repeat refine Ap ?_);refine Bv (j:=(j:Int)) A0 rfl rfl rfl rfl rfl rfl rfl rfl _ (G6 (j:=j) (xs:=Dh (xs.take k) n) (e:=fun r=>[Af r]) (x2:=(Dh (xs.take k) n).getD j default++[xs.getD k default]) Ad (by exact rfl)) (A7 ?_);(repeat refine Ap ?_);refine Az [] (k+1) Ad Ad ⟨rfl,trivial⟩ ⟨congrArg sRR (by rw [ht];exact A6y _ _ _ j hj Ad),trivial⟩ trivial A6 C1 A6
  have h0:n=0:=by omega
  subst h0;(repeat refine Ap ?_);refine Az [] (k+1) Ad Ad ⟨rfl,trivial⟩ ⟨rfl,trivial⟩ trivial A6 C1 A6
 refine Am A0 rfl rfl ⟨?_,trivial⟩;exact congrArg (fun l=>sRR (Dh l n)) (Da _ _ Ad)
theorem C3o {n:List Bw}{w k w' k':Int}{ins:List Aa}{e op x v:Int}(h:Drv ⟨n,w,k⟩ ins e op x v):Drv ⟨n,w',k'⟩ ins e op x v:=by
 induction h with
 |inp r hr he=>exact .inp r hr he
 |step op x v y _ ho hk hg ih=>exact .step (g:=⟨n,w',k'⟩) op x v y ih ho hk hg
theorem C3u {n:List Bw}{w k w' k':Int}{ins:List Aa}{e:Int}{best list:List Ae}(h:Sp ⟨n,w,k⟩ ins e best list):Sp ⟨n,w',k'⟩ ins e best list:=
 ⟨fun x hx=>⟨(h.a x hx).1,(h.a x hx).2.1,C3o (h.a x hx).2.2⟩,h.b,h.c,h.d,h.s⟩
theorem B2a {g:Ah}{ins:List Aa}{e w k:Int}{best:List Ae}(hS:Z9 g.nodes)(hI:Ui ins)(he:0≤e∧e≤3)(hF:Sp g ins e best [])(hok:(F8 g ins e w k).2=true):(F8 g ins e w k).1=Dn g best:=by
 obtain ⟨n,w0,k0⟩:=g;unfold F8 Hz at *
 by_cases hc:(Aj ⟨n,w,k⟩ ins).2=true
 ·have hN:L3 ⟨n,w,k⟩ ins:=by
   by_cases h:L3 ⟨n,w,k⟩ ins
   ·exact h
   rw [J8 h] at hc;cases hc
  rw [if_pos hc] at hok ⊢;have hr:=B1w (pk:=[]) 3000 (Nat.le_refl _) (g:=⟨n,w,k⟩) hS hN hI (Nat.zero_le _) he (C3u hF);have hnil:(Bb (Aj ⟨n,w,k⟩ ins).1 []).1=(Aj ⟨n,w,k⟩ ins).1:=rfl;rw [hnil] at hr
  simp only at hok ⊢
  generalize (Cy 3000 (Aj ⟨n,w,k⟩ ins).1).1=C at *;rw [Bool.and_eq_true,Bool.not_eq_true'] at hok;exact hr hok.1 hok.2
 rw [if_neg hc] at hok;cases hok
theorem A5c {c:A3}(hO:Lp c):H9 c=true:=by
 unfold H9 Lm;rw [List.all_eq_true];intro j hj;have hj:=List.mem_range.1 hj;rw [beq_iff_eq];unfold G0;rw [if_pos (Go.Sx.Al.2 ⟨by omega,by omega⟩),Int.toNat_natCast,List.filter_eq_self.2];intro x hx;rw [beq_iff_eq];exact hO j hj x hx
theorem Lh {c:A3}(h:Z4 c):H9 c=true:=by
 obtain ⟨g,ins,pk,m,⟨hgd,hgs⟩,hin,hpk,hm,rfl⟩:=h;have hN:=Vc hgs hin;obtain ⟨a,b,hG⟩:=B8b hgs.2.2;have hR0:=A8w hN;have he:(0:Int)≤0∧(0:Int)≤3:=by decide
 obtain ⟨hD,hO,hRs⟩:=Vo hG hin he pk ((Aj g ins).1,[]) hR0 Ad (A8u (a:=a) (b:=b) hN hin) (A1j hN) ⟨_,A8v hN⟩;have hR:=hR0.runs (l:=pk) Ad;have hD:Lq g a b ins (Bb (Aj g ins).1 pk).1:=hD;have hO:Lp (Bb (Aj g ins).1 pk).1:=hO;have hRs:∃H,Og g ins 0 (Bb (Aj g ins).1 pk).1 H:=hRs;generalize (Bb (Aj g ins).1 pk).1=c at *;obtain ⟨m',hm',hf,_⟩:=Uu m c;rw [hf];exact A5c (A6m hG hin he hR hD hO hRs m' Ad).2.1
theorem B27 {o:Int}:∀n:Nat,((List.range n).map fun j:Nat=>if (o==(j:Int))=true then 1 else 0).sum=if 0≤o∧o<n then 1 else 0
 | 0=>by rw [if_neg Ad];rfl
 |n+1=>by
  rw [List.range_succ,List.map_append,List.sum_append,B27 n];simp only [List.map_cons,List.map_nil,List.sum_cons,List.sum_nil,beq_iff_eq]
  by_cases h:o=n
  ·rw [if_neg Ad,if_pos h,if_pos Ad];omega
  rw [if_neg h]
  by_cases h2:0≤o∧o<n
  ·rw [if_pos h2,if_pos Ad];omega
  rw [if_neg h2,if_neg Ad];omega
theorem B2q {α:Type}(f g:α→Nat):∀l:List α,(l.map fun x=>f x+g x).sum=(l.map f).sum+(l.map g).sum
 | []=>rfl
 |x::l=>by
  simp only [List.map_cons,List.sum_cons,B2q f g l];omega
theorem A4p (n:Nat)(hn:1≤n):∀xs:List Aa,((Dh xs n).map List.length).sum=xs.length
 | []=>by
  unfold Dh;rw [List.map_map]
  have:∀l:List Nat,(l.map (List.length ∘ fun j:Nat=>([]:List Aa).filter fun r=>Bn r.key n==j)).sum=0:=by
   intro l
   induction l with
   |nil=>rfl
   |cons x l ih=>rw [List.map_cons,List.sum_cons,ih];rfl
  exact this _
 |x::xs=>by
  have ih:=A4p n hn xs;unfold Dh at *;rw [List.map_map] at *
  have e:(List.length ∘ fun j:Nat=>(x::xs).filter fun r=>Bn r.key n==j)=fun j:Nat=>(if (Bn x.key n==(j:Int))=true then 1 else 0)+(List.length ∘ fun j:Nat=>xs.filter fun r=>Bn r.key n==j) j:=by
   funext j
   simp only [Function.comp,List.filter_cons]
   split
   ·rw [List.length_cons];omega
   omega
  have ho:=Sz x.key n Ad;rw [e,B2q,B27,if_pos ho,ih,List.length_cons];omega
def C3x:Ah:=⟨[⟨1,0,0,[1]⟩,⟨8,0,0,[]⟩],1,1⟩
def B9u:List Aa:=[⟨0,⟨0,0⟩,5,0⟩]
set_option maxRecDepth 100000 in
theorem C0k:(F8 C3x B9u 0 3 2).2=true:=by kernel_rfl
theorem A9z {g:Ah}{l:List Aa}{e w k:Int}:(F8 g l e w k).1.length≤g.w+530000:=by
 obtain ⟨n,w0,k0⟩:=g;unfold F8 Hz
 split
 ·have h1:=A8y (g:=⟨n,w,k⟩) (l:=l)
  have h2:=S7 3000 (Aj ⟨n,w,k⟩ l).1;have h3:(⟨n,w,k⟩:Ah).w=(⟨n,w0,k0⟩:Ah).w:=rfl
  simp only
  generalize (Cy 3000 (Aj ⟨n,w,k⟩ l).1).1=C at *;exact Nat.le_trans (List.length_filter_le _ _) (Q0 (Qy Ad))
 exact Nat.zero_le _
theorem C2h {c:A3}{w:Int}{n:Nat}(h:c.w≤n):(G0 c w).length≤n:=by
 unfold G0
 split
 ·rename_i hw
  have hw:=Go.Sx.Al.1 hw;have h1:=Go.Sx.A3.worker_le h (k:=w.toNat) Ad;have h2:(c.workers.getD w.toNat default).cells.length≤(c.workers.getD w.toNat default).w:=by simp only [Ab.w];omega
  exact Nat.le_trans (List.length_filter_le _ _) Ad
 exact Nat.zero_le _
theorem B19 {xs:List Aa}{n:Nat}{l:List Aa}(h:l∈Dh xs n):l.length≤xs.length:=by
 unfold Dh at h;obtain ⟨j,_,rfl⟩:=List.mem_map.1 h;exact List.length_filter_le _ _
theorem A4o (xs:List Aa)(n:Nat):(Dh xs n).length=n:=by
 unfold Dh;rw [List.length_map,List.length_range]
theorem B4j (n:Int):(Cx n 0 4).toNat≤4:=by
 unfold Cx
 split
 ·omega
 split<;>omega
theorem B6a (xs:List Aa)(n:Nat):((Dh xs n).map List.length).sum=xs.length∨(Dh xs n).length=0:=by
 by_cases h:1≤n
 ·exact .inl (A4p n h xs)
 exact .inr (by rw [A4o];omega)
theorem A96 {l:List (List Aa)}(h:∀x∈l,x.length≤7)(hl:l.length≤4)(k:Nat):((l.take k).map List.length).sum≤7 * 4:=by
 have:∀l:List (List Aa),(∀x∈l,x.length≤7)→(l.map List.length).sum≤7 * l.length:=by
  intro l
  induction l with
  |nil=>intro _;exact Nat.le_refl _
  |cons x l ih=>
   intro h;have h1:=h x (List.mem_cons_self ..);have h2:=ih fun y hy=>h y (List.mem_cons_of_mem _ hy);rw [List.map_cons,List.sum_cons,List.length_cons];omega
 have h1:=this (l.take k) fun x hx=>h x (List.mem_of_mem_take hx);have h2:=List.length_take_le k l;have h3:(l.take k).length≤l.length:=by rw [List.length_take];omega
 omega
def Md (m:Nat) (x:Bw):Prop:=x.ok∧x.outs.length≤m
def Tj (xs:List Int):Prop:=∀n∈xs,-1≤n∧n≤100
theorem Ly {k a b:Int}{xs:List Int}{m:Nat}(hk:Gk .i64 k)(ha:Gk .i64 a)(hb:Gk .i64 b)(hs:Tj xs)(hl:xs.length≤m)(hm:m≤100):Md m ⟨k,a,b,xs⟩:=
 ⟨⟨hk,ha,hb,by show xs.length≤maxLen;unfold maxLen;omega,fun n hn=>by have:=hs n hn;exact Et Ad Ad⟩,hl⟩
theorem Qb {xs:List Int}{n:Int}(h:Tj xs)(h0: -1≤n)(h1:n≤100):Tj (xs++[n]):=fun x hx=>by
 rcases List.mem_append.1 hx with hx|hx
 ·exact h x hx
 rw [List.mem_singleton.1 hx];exact ⟨h0,h1⟩
structure JNd where
 k:Nat
 i:Int
 h:Int
 xs:List Int
set_option maxHeartbeats 2000000 in
theorem C04 (d:Ey)(i h:Int)(hi:0≤i∧i≤d.n):E3 Tryz.prog HT 124 d.pins (d.cur i h) [] (fun r:Int×Int×Bw=>(0≤r.1∧r.1≤d.n)∧Md 2 r.2.2) (fun r=>d.cur r.1 r.2.1) (fun r=>[.agg r.2.2.c]):=by
 refine Em A0 false Tryz.func124 rfl B5 fun B b hH hp=>?_;conv=>whnf
 refine Ay (Au d i h 8 hi B5) hH hp rfl B0 rfl rfl (fun r hr=>go A0 false ?_);conv=>whnf
 have hk:=hr.2.2.2 B5;have hk0:=hr.2.1;(repeat refine Ap ?_);refine ⟨fun c2=>have c2:=eq_of_beq c2;?_,fun c2=>have c2:=beq_eq_false_iff_ne.1 c2;?_⟩<;>conv=>whnf
 ·refine Fx 3 (Bh [0,1,3,10,999]) rfl (Bu rfl C2) ?_
  refine Ay (Dt d r.1 r.2.1 [0,1,3,10,999] hr.1 B5) hH hp rfl B0 rfl rfl (fun r2 hr2=>go A0 false ?_);conv=>whnf
  refine ⟨fun c8=>have c8:=bne_iff_ne.1 c8;?_,fun c8=>have c8:=bne_eq_false_iff_eq.1 c8;?_⟩<;>conv=>whnf
  ·refine X1 2 3 1 (fun i=>(fun n=>[vi n]) (([]:List Int).getD i default)) rfl rfl ?_
   refine Bk A0 false [] (fun j:JNd=>[(4,.c (vi j.k))]) (fun j=>[⟨2,[.c (vi (1+r.2.2)),.c (vi ([0,1,3,10,999].getD r2.2.2 0)),.c (vi 0),.own 4]⟩,⟨1,[.c (vi 0),.c (vi 0),.c (vi 0),.c (.val (.slice none 0 0))]⟩,⟨0,[.c (.val d.v),.c (vi j.i),.c (vi j.h)]⟩]) (fun j=>[⟨4,Bh j.xs⟩]) (fun j=>(0≤j.i∧j.i≤d.n)∧j.k≤2∧j.xs.length=j.k∧Tj j.xs) (fun j=>3-j.k) (⟨0,r2.1,r2.2.1,[]⟩) (⟨hr2.1,Nat.zero_le _,rfl,fun _ h=>by cases h⟩) ⟨F0,trivial⟩ C2 ⟨Dm,trivial⟩ C1 A6 (fun j hj=>?_);conv=>whnf
   obtain ⟨hi2,hk2,hx,hsm⟩:=hj;refine Ay (Au d j.i j.h 3 hi2 B5) hH hp rfl B0 rfl rfl (fun s hs=>go A0 false ?_);conv=>whnf
   refine Eo (fun hlt=>?_) fun hlt=>?_<;>conv=>whnf
   ·have hlt2:s.2.2<3:=hs.2.2.2 B5
    refine Gs rfl ?_;refine Bt A0 false 0 rfl rfl rfl A6 rfl (A4 Br) ?_;refine Bt A0 false 2 rfl rfl rfl A6 rfl (A4 Br) ?_;refine Bt A0 false 3 rfl rfl rfl A6 rfl (A4 Br) ?_;refine Bt A0 false 4 rfl rfl rfl A6 rfl (A4 Br) ?_;refine Bt A0 false 5 rfl rfl rfl A6 rfl (A4 Br) ?_;refine A5 [1,6] A6 ⟨?_,?_,trivial⟩
    focus
     refine A7 ?_;refine Ag (A5 [6] A6 ⟨A7 ?_,trivial⟩);refine Ay (Au d s.1 s.2.1 2 hs.1 B5) hH hp rfl B0 rfl rfl (fun r9 hr9=>go A0 false ?_);conv=>whnf
     refine Ag ?_;refine Bt A0 false 7 rfl rfl rfl A6 rfl (A4 Br) ?_;refine A5 [8] A6 ⟨?_,trivial⟩
    rotate_left 1
    focus
     refine A7 ?_;refine Ay (Au d s.1 s.2.1 2 hs.1 B5) hH hp rfl B0 rfl rfl (fun r9 hr9=>go A0 false ?_);conv=>whnf
     refine Ag ?_;refine Bt A0 false 7 rfl rfl rfl A6 rfl (A4 Br) ?_;refine A5 [1,8] A6 ⟨?_,?_,trivial⟩
     focus
      refine A7 ?_;refine Ag ?_;refine A5 [8] A6 ⟨?_,trivial⟩
     rotate_left 1
     focus
      refine A7 ?_;refine Ag ?_;refine A5 [1] A6 ⟨?_,trivial⟩
    all_goals
     refine A7 ?_;refine Ag (A5 [9] A6 ⟨A7 ?_,trivial⟩);refine Bj A0 rfl rfl rfl rfl rfl rfl rfl rfl rfl rfl rfl (Bh (j.xs++[1+(j.k:Int) * 2+r9.2.2])) (An rfl) C6 Ad (A7 ?_);refine Ag ?_;refine Bt A0 false 10 rfl rfl rfl A6 rfl (A4 Br) ?_;refine A5 [11] A6 ⟨A7 ?_,trivial⟩;refine Ag (Gr A6 (A7 ?_))
    all_goals
     have hn9:=hr9.2.2.2 B5;have hn8:=hr9.2.1;(repeat refine Ap ?_);refine Az [(4,6)] (⟨j.k+1,r9.1,r9.2.1,j.xs++[1+(j.k:Int) * 2+r9.2.2]⟩) (⟨hr9.1,by show j.k+1≤2;omega,by simp [hx],Qb hsm Ad Ad⟩) (by show 3-(j.k+1)<_;omega) ⟨rfl,trivial⟩ ⟨rfl,trivial⟩ C2 A6 C1 A6
   exact C3 A0 (s.1,s.2.1,⟨1+r.2.2,([0,1,3,10,999].getD r2.2.2 0),0,j.xs⟩) ⟨hs.1,Ly (Et Ad Ad) (Ha _ _ (by intro x hx;simp only [List.mem_cons,List.not_mem_nil,or_false] at hx;show _∧_;omega)) (Et B5 B5) hsm Ad B5⟩ rfl rfl rfl rfl B0
  repeat refine B2 ?_
  exact C3 A0 (r2.1,r2.2.1,⟨1+r.2.2,([0,1,3,10,999].getD r2.2.2 0),0,[]⟩) ⟨hr2.1,Ly (Et Ad Ad) (Ha _ _ (by intro x hx;simp only [List.mem_cons,List.not_mem_nil,or_false] at hx;show _∧_;omega)) (Et B5 B5) (fun _ h=>by cases h) B5 B5⟩ rfl rfl rfl rfl B0
 repeat refine B2 ?_
 refine ⟨fun c3=>have c3:=eq_of_beq c3;?_,fun c3=>have c3:=beq_eq_false_iff_ne.1 c3;?_⟩<;>conv=>whnf
 ·repeat refine B2 ?_
  refine Ay (Au d r.1 r.2.1 4 hr.1 B5) hH hp rfl B0 rfl rfl (fun r2 hr2=>go A0 false ?_);conv=>whnf
  have hk2:=hr2.2.2.2 B5;have hk3:=hr2.2.1;(repeat refine Ap ?_);refine Ay (Au d r2.1 r2.2.1 (1+r2.2.2) hr2.1 Ad) hH hp rfl B0 rfl rfl (fun r3 hr3=>go A0 false ?_);conv=>whnf
  have hk4:=hr3.2.2.2 Ad;have hk5:=hr3.2.1;refine ⟨fun c8=>have c8:=bne_iff_ne.1 c8;?_,fun c8=>have c8:=bne_eq_false_iff_eq.1 c8;?_⟩<;>conv=>whnf
  ·refine X1 2 3 1 (fun i=>(fun n=>[vi n]) (([]:List Int).getD i default)) rfl rfl ?_
   refine Bk A0 false [] (fun j:JNd=>[(4,.c (vi j.k))]) (fun j=>[⟨2,[.c (vi (1+r.2.2)),.c (vi (1+r2.2.2)),.c (vi r3.2.2),.own 3]⟩,⟨1,[.c (vi 0),.c (vi 0),.c (vi 0),.c (.val (.slice none 0 0))]⟩,⟨0,[.c (.val d.v),.c (vi j.i),.c (vi j.h)]⟩]) (fun j=>[⟨3,Bh j.xs⟩]) (fun j=>(0≤j.i∧j.i≤d.n)∧j.k≤2∧j.xs.length=j.k∧Tj j.xs) (fun j=>3-j.k) (⟨0,r3.1,r3.2.1,[]⟩) (⟨hr3.1,Nat.zero_le _,rfl,fun _ h=>by cases h⟩) ⟨F0,trivial⟩ C2 ⟨Dm,trivial⟩ C1 A6 (fun j hj=>?_);conv=>whnf
   obtain ⟨hi2,hk2,hx,hsm⟩:=hj;refine Ay (Au d j.i j.h 3 hi2 B5) hH hp rfl B0 rfl rfl (fun s hs=>go A0 false ?_);conv=>whnf
   refine Eo (fun hlt=>?_) fun hlt=>?_<;>conv=>whnf
   ·have hlt2:s.2.2<3:=hs.2.2.2 B5
    refine Gs rfl ?_;refine Bt A0 false 0 rfl rfl rfl A6 rfl (A4 Br) ?_;refine Bt A0 false 2 rfl rfl rfl A6 rfl (A4 Br) ?_;refine Bt A0 false 3 rfl rfl rfl A6 rfl (A4 Br) ?_;refine Bt A0 false 4 rfl rfl rfl A6 rfl (A4 Br) ?_;refine Bt A0 false 5 rfl rfl rfl A6 rfl (A4 Br) ?_;refine A5 [1,6] A6 ⟨?_,?_,trivial⟩
    focus
     refine A7 ?_;refine Ag (A5 [6] A6 ⟨A7 ?_,trivial⟩);refine Ay (Au d s.1 s.2.1 2 hs.1 B5) hH hp rfl B0 rfl rfl (fun r9 hr9=>go A0 false ?_);conv=>whnf
     refine Ag ?_;refine Bt A0 false 7 rfl rfl rfl A6 rfl (A4 Br) ?_;refine A5 [8] A6 ⟨?_,trivial⟩
    rotate_left 1
    focus
     refine A7 ?_;refine Ay (Au d s.1 s.2.1 2 hs.1 B5) hH hp rfl B0 rfl rfl (fun r9 hr9=>go A0 false ?_);conv=>whnf
     refine Ag ?_;refine Bt A0 false 7 rfl rfl rfl A6 rfl (A4 Br) ?_;refine A5 [1,8] A6 ⟨?_,?_,trivial⟩
     focus
      refine A7 ?_;refine Ag ?_;refine A5 [8] A6 ⟨?_,trivial⟩
     rotate_left 1
     focus
      refine A7 ?_;refine Ag ?_;refine A5 [1] A6 ⟨?_,trivial⟩
    all_goals
     refine A7 ?_;refine Ag (A5 [9] A6 ⟨A7 ?_,trivial⟩);refine Bj A0 rfl rfl rfl rfl rfl rfl rfl rfl rfl rfl rfl (Bh (j.xs++[1+(j.k:Int) * 2+r9.2.2])) (An rfl) C6 Ad (A7 ?_);refine Ag ?_;refine Bt A0 false 10 rfl rfl rfl A6 rfl (A4 Br) ?_;refine A5 [11] A6 ⟨A7 ?_,trivial⟩;refine Ag (Gr A6 (A7 ?_))
    all_goals
     have hn9:=hr9.2.2.2 B5;have hn8:=hr9.2.1;(repeat refine Ap ?_);refine Az [(3,5)] (⟨j.k+1,r9.1,r9.2.1,j.xs++[1+(j.k:Int) * 2+r9.2.2]⟩) (⟨hr9.1,by show j.k+1≤2;omega,by simp [hx],Qb hsm Ad Ad⟩) (by show 3-(j.k+1)<_;omega) ⟨rfl,trivial⟩ ⟨rfl,trivial⟩ C2 A6 C1 A6
   exact C3 A0 (s.1,s.2.1,⟨1+r.2.2,(1+r2.2.2),r3.2.2,j.xs⟩) ⟨hs.1,Ly (Et Ad Ad) (Et Ad Ad) (Et Ad Ad) hsm Ad B5⟩ rfl rfl rfl rfl B0
  repeat refine B2 ?_
  exact C3 A0 (r3.1,r3.2.1,⟨1+r.2.2,(1+r2.2.2),r3.2.2,[]⟩) ⟨hr3.1,Ly (Et Ad Ad) (Et Ad Ad) (Et Ad Ad) (fun _ h=>by cases h) B5 B5⟩ rfl rfl rfl rfl B0
 repeat refine B2 ?_
 refine ⟨fun c4=>have c4:=eq_of_beq c4;?_,fun c4=>have c4:=beq_eq_false_iff_ne.1 c4;?_⟩<;>conv=>whnf
 ·repeat refine B2 ?_
  refine Fx 3 (Bh [0,1,2,3,50,99]) rfl (Bu rfl C2) ?_;refine Ay (Dt d r.1 r.2.1 [0,1,2,3,50,99] hr.1 B5) hH hp rfl B0 rfl rfl (fun r2 hr2=>go A0 false ?_);conv=>whnf
  refine ⟨fun c8=>have c8:=bne_iff_ne.1 c8;?_,fun c8=>have c8:=bne_eq_false_iff_eq.1 c8;?_⟩<;>conv=>whnf
  ·refine X1 2 3 1 (fun i=>(fun n=>[vi n]) (([]:List Int).getD i default)) rfl rfl ?_
   refine Bk A0 false [] (fun j:JNd=>[(4,.c (vi j.k))]) (fun j=>[⟨2,[.c (vi (1+r.2.2)),.c (vi ([0,1,2,3,50,99].getD r2.2.2 0)),.c (vi 0),.own 4]⟩,⟨1,[.c (vi 0),.c (vi 0),.c (vi 0),.c (.val (.slice none 0 0))]⟩,⟨0,[.c (.val d.v),.c (vi j.i),.c (vi j.h)]⟩]) (fun j=>[⟨4,Bh j.xs⟩]) (fun j=>(0≤j.i∧j.i≤d.n)∧j.k≤2∧j.xs.length=j.k∧Tj j.xs) (fun j=>3-j.k) (⟨0,r2.1,r2.2.1,[]⟩) (⟨hr2.1,Nat.zero_le _,rfl,fun _ h=>by cases h⟩) ⟨F0,trivial⟩ C2 ⟨Dm,trivial⟩ C1 A6 (fun j hj=>?_);conv=>whnf
   obtain ⟨hi2,hk2,hx,hsm⟩:=hj;refine Ay (Au d j.i j.h 3 hi2 B5) hH hp rfl B0 rfl rfl (fun s hs=>go A0 false ?_);conv=>whnf
   refine Eo (fun hlt=>?_) fun hlt=>?_<;>conv=>whnf
   ·have hlt2:s.2.2<3:=hs.2.2.2 B5
    refine Gs rfl ?_;refine Bt A0 false 0 rfl rfl rfl A6 rfl (A4 Br) ?_;refine Bt A0 false 2 rfl rfl rfl A6 rfl (A4 Br) ?_;refine Bt A0 false 3 rfl rfl rfl A6 rfl (A4 Br) ?_;refine Bt A0 false 4 rfl rfl rfl A6 rfl (A4 Br) ?_;refine Bt A0 false 5 rfl rfl rfl A6 rfl (A4 Br) ?_;refine A5 [1,6] A6 ⟨?_,?_,trivial⟩
    focus
     refine A7 ?_;refine Ag (A5 [6] A6 ⟨A7 ?_,trivial⟩);refine Ay (Au d s.1 s.2.1 2 hs.1 B5) hH hp rfl B0 rfl rfl (fun r9 hr9=>go A0 false ?_);conv=>whnf
     refine Ag ?_;refine Bt A0 false 7 rfl rfl rfl A6 rfl (A4 Br) ?_;refine A5 [8] A6 ⟨?_,trivial⟩
    rotate_left 1
    focus
     refine A7 ?_;refine Ay (Au d s.1 s.2.1 2 hs.1 B5) hH hp rfl B0 rfl rfl (fun r9 hr9=>go A0 false ?_);conv=>whnf
     refine Ag ?_;refine Bt A0 false 7 rfl rfl rfl A6 rfl (A4 Br) ?_;refine A5 [1,8] A6 ⟨?_,?_,trivial⟩
     focus
      refine A7 ?_;refine Ag ?_;refine A5 [8] A6 ⟨?_,trivial⟩
     rotate_left 1
     focus
      refine A7 ?_;refine Ag ?_;refine A5 [1] A6 ⟨?_,trivial⟩
    all_goals
     refine A7 ?_;refine Ag (A5 [9] A6 ⟨A7 ?_,trivial⟩);refine Bj A0 rfl rfl rfl rfl rfl rfl rfl rfl rfl rfl rfl (Bh (j.xs++[1+(j.k:Int) * 2+r9.2.2])) (An rfl) C6 Ad (A7 ?_);refine Ag ?_;refine Bt A0 false 10 rfl rfl rfl A6 rfl (A4 Br) ?_;refine A5 [11] A6 ⟨A7 ?_,trivial⟩;refine Ag (Gr A6 (A7 ?_))
    all_goals
     have hn9:=hr9.2.2.2 B5;have hn8:=hr9.2.1;(repeat refine Ap ?_);refine Az [(4,6)] (⟨j.k+1,r9.1,r9.2.1,j.xs++[1+(j.k:Int) * 2+r9.2.2]⟩) (⟨hr9.1,by show j.k+1≤2;omega,by simp [hx],Qb hsm Ad Ad⟩) (by show 3-(j.k+1)<_;omega) ⟨rfl,trivial⟩ ⟨rfl,trivial⟩ C2 A6 C1 A6
   exact C3 A0 (s.1,s.2.1,⟨1+r.2.2,([0,1,2,3,50,99].getD r2.2.2 0),0,j.xs⟩) ⟨hs.1,Ly (Et Ad Ad) (Ha _ _ (by intro x hx;simp only [List.mem_cons,List.not_mem_nil,or_false] at hx;show _∧_;omega)) (Et B5 B5) hsm Ad B5⟩ rfl rfl rfl rfl B0
  repeat refine B2 ?_
  exact C3 A0 (r2.1,r2.2.1,⟨1+r.2.2,([0,1,2,3,50,99].getD r2.2.2 0),0,[]⟩) ⟨hr2.1,Ly (Et Ad Ad) (Ha _ _ (by intro x hx;simp only [List.mem_cons,List.not_mem_nil,or_false] at hx;show _∧_;omega)) (Et B5 B5) (fun _ h=>by cases h) B5 B5⟩ rfl rfl rfl rfl B0
 repeat refine B2 ?_
 refine ⟨fun c8=>have c8:=bne_iff_ne.1 c8;?_,fun c8=>have c8:=bne_eq_false_iff_eq.1 c8;?_⟩<;>conv=>whnf
 ·refine X1 2 3 1 (fun i=>(fun n=>[vi n]) (([]:List Int).getD i default)) rfl rfl ?_
  refine Bk A0 false [] (fun j:JNd=>[(4,.c (vi j.k))]) (fun j=>[⟨2,[.c (vi (1+r.2.2)),.c (vi 0),.c (vi 0),.own 3]⟩,⟨1,[.c (vi 0),.c (vi 0),.c (vi 0),.c (.val (.slice none 0 0))]⟩,⟨0,[.c (.val d.v),.c (vi j.i),.c (vi j.h)]⟩]) (fun j=>[⟨3,Bh j.xs⟩]) (fun j=>(0≤j.i∧j.i≤d.n)∧j.k≤2∧j.xs.length=j.k∧Tj j.xs) (fun j=>3-j.k) (⟨0,r.1,r.2.1,[]⟩) (⟨hr.1,Nat.zero_le _,rfl,fun _ h=>by cases h⟩) ⟨F0,trivial⟩ C2 ⟨Dm,trivial⟩ C1 A6 (fun j hj=>?_);conv=>whnf
  obtain ⟨hi2,hk2,hx,hsm⟩:=hj;refine Ay (Au d j.i j.h 3 hi2 B5) hH hp rfl B0 rfl rfl (fun s hs=>go A0 false ?_);conv=>whnf
  refine Eo (fun hlt=>?_) fun hlt=>?_<;>conv=>whnf
  ·have hlt2:s.2.2<3:=hs.2.2.2 B5
   refine Gs rfl ?_;refine Bt A0 false 0 rfl rfl rfl A6 rfl (A4 Br) ?_;refine Bt A0 false 2 rfl rfl rfl A6 rfl (A4 Br) ?_;refine Bt A0 false 3 rfl rfl rfl A6 rfl (A4 Br) ?_;refine Bt A0 false 4 rfl rfl rfl A6 rfl (A4 Br) ?_;refine Bt A0 false 5 rfl rfl rfl A6 rfl (A4 Br) ?_;refine A5 [1,6] A6 ⟨?_,?_,trivial⟩
   focus
    refine A7 ?_;refine Ag (A5 [6] A6 ⟨A7 ?_,trivial⟩);refine Ay (Au d s.1 s.2.1 2 hs.1 B5) hH hp rfl B0 rfl rfl (fun r9 hr9=>go A0 false ?_);conv=>whnf
    refine Ag ?_;refine Bt A0 false 7 rfl rfl rfl A6 rfl (A4 Br) ?_;refine A5 [8] A6 ⟨?_,trivial⟩
   rotate_left 1
   focus
    refine A7 ?_;refine Ay (Au d s.1 s.2.1 2 hs.1 B5) hH hp rfl B0 rfl rfl (fun r9 hr9=>go A0 false ?_);conv=>whnf
    refine Ag ?_;refine Bt A0 false 7 rfl rfl rfl A6 rfl (A4 Br) ?_;refine A5 [1,8] A6 ⟨?_,?_,trivial⟩
    focus
     refine A7 ?_;refine Ag ?_;refine A5 [8] A6 ⟨?_,trivial⟩
    rotate_left 1
    focus
     refine A7 ?_;refine Ag ?_;refine A5 [1] A6 ⟨?_,trivial⟩
   all_goals
    refine A7 ?_;refine Ag (A5 [9] A6 ⟨A7 ?_,trivial⟩);refine Bj A0 rfl rfl rfl rfl rfl rfl rfl rfl rfl rfl rfl (Bh (j.xs++[1+(j.k:Int) * 2+r9.2.2])) (An rfl) C6 Ad (A7 ?_);refine Ag ?_;refine Bt A0 false 10 rfl rfl rfl A6 rfl (A4 Br) ?_;refine A5 [11] A6 ⟨A7 ?_,trivial⟩;refine Ag (Gr A6 (A7 ?_))
   all_goals
    have hn9:=hr9.2.2.2 B5;have hn8:=hr9.2.1;(repeat refine Ap ?_);refine Az [(3,5)] (⟨j.k+1,r9.1,r9.2.1,j.xs++[1+(j.k:Int) * 2+r9.2.2]⟩) (⟨hr9.1,by show j.k+1≤2;omega,by simp [hx],Qb hsm Ad Ad⟩) (by show 3-(j.k+1)<_;omega) ⟨rfl,trivial⟩ ⟨rfl,trivial⟩ C2 A6 C1 A6
  exact C3 A0 (s.1,s.2.1,⟨1+r.2.2,0,0,j.xs⟩) ⟨hs.1,Ly (Et Ad Ad) (Et B5 B5) (Et B5 B5) hsm Ad B5⟩ rfl rfl rfl rfl B0
 repeat refine B2 ?_
 exact C3 A0 (r.1,r.2.1,⟨1+r.2.2,0,0,[]⟩) ⟨hr.1,Ly (Et Ad Ad) (Et B5 B5) (Et B5 B5) (fun _ h=>by cases h) B5 B5⟩ rfl rfl rfl rfl B0
theorem Md.to {m m':Nat}{x:Bw}(h:Md m x)(hm:m≤m'):Md m' x:=⟨h.1,Nat.le_trans h.2 hm⟩
theorem C14 {m m':Nat}{x:Bw}{k:Int}(h:Md m x)(hm:m≤m')(hk:Gk .i64 k):Md m' ⟨k,x.a,x.b,x.outs⟩:=⟨⟨hk,h.1.2⟩,Nat.le_trans h.2 hm⟩
theorem C12 {m m':Nat}{x:Bw}{k:Int}(h:Md m x)(hm:m≤m')(hk:Gk .i64 k):Md m' ⟨x.kind,k,x.b,x.outs⟩:=⟨⟨h.1.1,hk,h.1.2.2⟩,Nat.le_trans h.2 hm⟩
theorem C13 {m m':Nat}{x:Bw}{k:Int}(h:Md m x)(hm:m≤m')(hk:Gk .i64 k):Md m' ⟨x.kind,x.a,k,x.outs⟩:=⟨⟨h.1.1,h.1.2.1,hk,h.1.2.2.2⟩,Nat.le_trans h.2 hm⟩
theorem B3j {m:Nat}{x:Bw}{k:Int}(h:Md m x)(hm:m≤1000)(hk:Gk .i64 k):Md (m+1) ⟨x.kind,x.a,x.b,x.outs++[k]⟩:=by
 have hl:=h.2;refine ⟨⟨h.1.1,h.1.2.1,h.1.2.2.1,?_,fun n hn=>?_⟩,?_⟩
 ·show (x.outs++[k]).length≤maxLen
  rw [List.length_append,List.length_singleton,maxLen];omega
 ·rcases List.mem_append.1 hn with hn|hn
  ·exact h.1.2.2.2.2 n hn
  rw [List.mem_singleton.1 hn];exact hk
 show (x.outs++[k]).length≤m+1
 rw [List.length_append,List.length_singleton];omega
set_option maxHeartbeats 2000000 in
theorem A0c (d:Ey)(i h:Int)(hi:0≤i∧i≤d.n):E3 Tryz.prog HT 90 d.pins (d.cur i h) [] (fun r:Int×Int×Bw=>(0≤r.1∧r.1≤d.n)∧Md 3 r.2.2) (fun r=>d.cur r.1 r.2.1) (fun r=>[.agg r.2.2.c]):=by
 refine Em A0 false Tryz.func90 rfl B5 fun B b hH hp=>?_;conv=>whnf
 refine Ay (C04 d i h hi) hH hp rfl B0 rfl rfl (fun r hr=>go A0 false ?_);conv=>whnf
 have hl:=hr.2.2;refine Ay (Au d r.1 r.2.1 12 hr.1 B5) hH hp rfl B0 rfl rfl (fun r2 hr2=>go A0 false ?_);conv=>whnf
 refine ⟨fun c0=>?_,fun c0=>?_⟩<;>conv=>whnf
 ·repeat refine B2 ?_
  refine Ay (Au d r2.1 r2.2.1 11 hr2.1 B5) hH hp rfl B0 rfl rfl (fun r3 hr3=>go A0 false ?_);conv=>whnf
  have h3:=hr3.2.2.2 B5;have h4:=hr3.2.1;(repeat refine Ap ?_);exact C3 A0 (r3.1,r3.2.1,⟨r3.2.2-1,r.2.2.a,r.2.2.b,r.2.2.outs⟩) ⟨hr3.1,C14 hr.2 B5 (Et Ad Ad)⟩ rfl rfl rfl rfl B0
 repeat refine B2 ?_
 refine ⟨fun c1=>?_,fun c1=>?_⟩<;>conv=>whnf
 ·repeat refine B2 ?_
  refine Fx 4 (Bh [-1,0,1000,100,11]) rfl (Bu rfl C2) ?_;refine Ay (Dt d r2.1 r2.2.1 [-1,0,1000,100,11] hr2.1 B5) hH hp rfl B0 rfl rfl (fun r3 hr3=>go A0 false ?_);conv=>whnf
  exact C3 A0 (r3.1,r3.2.1,⟨r.2.2.kind,[-1,0,1000,100,11].getD r3.2.2 0,r.2.2.b,r.2.2.outs⟩) ⟨hr3.1,C12 hr.2 B5 (Ha _ _ (by intro x hx;simp only [List.mem_cons,List.not_mem_nil,or_false] at hx;show _∧_;omega))⟩ rfl rfl rfl rfl B0
 repeat refine B2 ?_
 refine ⟨fun c2=>?_,fun c2=>?_⟩<;>conv=>whnf
 ·repeat refine B2 ?_
  refine Fx 4 (Bh [-1,1,3]) rfl (Bu rfl C2) ?_;refine Ay (Dt d r2.1 r2.2.1 [-1,1,3] hr2.1 B5) hH hp rfl B0 rfl rfl (fun r3 hr3=>go A0 false ?_);conv=>whnf
  exact C3 A0 (r3.1,r3.2.1,⟨r.2.2.kind,r.2.2.a,[-1,1,3].getD r3.2.2 0,r.2.2.outs⟩) ⟨hr3.1,C13 hr.2 B5 (Ha _ _ (by intro x hx;simp only [List.mem_cons,List.not_mem_nil,or_false] at hx;show _∧_;omega))⟩ rfl rfl rfl rfl B0
 repeat refine B2 ?_
 refine ⟨fun c3=>?_,fun c3=>?_⟩<;>conv=>whnf
 ·repeat refine B2 ?_
  refine Gs rfl ?_;refine Bt A0 false 0 rfl rfl rfl A6 rfl (A4 Br) ?_;refine Bt A0 false 2 rfl rfl rfl A6 rfl (A4 Br) ?_;refine A5 [1,3] A6 ⟨?_,?_,trivial⟩
  focus
   refine A7 ?_;refine Ag (A5 [3] A6 ⟨A7 ?_,trivial⟩);refine Ag (A5 [4] A6 ⟨A7 ?_,trivial⟩);refine Fx 4 (Bh [1,7,8,-1]) rfl (Bu rfl C2) ?_;refine Ay (Dt d r2.1 r2.2.1 [1,7,8,-1] hr2.1 B5) hH hp rfl B0 rfl rfl (fun r3 hr3=>go A0 false ?_);conv=>whnf
   refine Ag ?_;refine A5 [5] A6 ⟨?_,trivial⟩
  rotate_left 1
  focus
   refine A7 ?_;refine Ag ?_;refine A5 [1,4] A6 ⟨?_,?_,trivial⟩
   focus
    refine A7 ?_;refine Ag (A5 [4] A6 ⟨A7 ?_,trivial⟩);refine Fx 4 (Bh [1,7,8,-1]) rfl (Bu rfl C2) ?_;refine Ay (Dt d r2.1 r2.2.1 [1,7,8,-1] hr2.1 B5) hH hp rfl B0 rfl rfl (fun r3 hr3=>go A0 false ?_);conv=>whnf
    refine Ag ?_;refine A5 [5] A6 ⟨?_,trivial⟩
   rotate_left 1
   focus
    refine A7 ?_;refine Fx 4 (Bh [1,7,8,-1]) rfl (Bu rfl C2) ?_;refine Ay (Dt d r2.1 r2.2.1 [1,7,8,-1] hr2.1 B5) hH hp rfl B0 rfl rfl (fun r3 hr3=>go A0 false ?_);conv=>whnf
    refine Ag ?_;refine A5 [1,5] A6 ⟨?_,?_,trivial⟩
    focus
     refine A7 ?_;refine Ag ?_;refine A5 [5] A6 ⟨?_,trivial⟩
    rotate_left 1
    focus
     refine A7 ?_;refine Ag ?_;refine A5 [1] A6 ⟨?_,trivial⟩
  all_goals
   refine A7 ?_;refine Ag (A5 [6] A6 ⟨A7 ?_,trivial⟩);refine Bj A0 rfl rfl rfl rfl rfl rfl rfl rfl rfl rfl rfl (Bh (r.2.2.outs++[[1,7,8,-1].getD r3.2.2 0])) (An rfl) C6 Ad (A7 ?_);refine Ag ?_;refine Bt A0 false 7 rfl rfl rfl A6 rfl (A4 Br) ?_;refine A5 [8] A6 ⟨A7 ?_,trivial⟩;refine Ag (Gr A6 (A7 ?_))
  all_goals exact C3 A0 (r3.1,r3.2.1,⟨r.2.2.kind,r.2.2.a,r.2.2.b,r.2.2.outs++[[1,7,8,-1].getD r3.2.2 0]⟩) ⟨hr3.1,B3j hr.2 B5 (Ha _ _ (by intro x hx;simp only [List.mem_cons,List.not_mem_nil,or_false] at hx;show _∧_;omega))⟩ rfl rfl rfl rfl B0
 repeat refine B2 ?_
 exact C3 A0 (r2.1,r2.2.1,r.2.2) ⟨hr2.1,hr.2.to B5⟩ rfl rfl rfl rfl B0
end Go.Proofs.YtdendlkeiaccpaaGreat
