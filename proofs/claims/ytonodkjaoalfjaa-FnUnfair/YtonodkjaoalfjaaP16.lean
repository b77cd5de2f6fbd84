/- Part 16 of the proof that each of the laws FnUnfair returns true for every input. No conditions. -/
import Derived.Test.YtonodkjaoalfjaaP5
import Derived.Test.YtonodkjaoalfjaaP7
import Derived.Test.YtonodkjaoalfjaaP11
import Derived.Test.YtonodkjaoalfjaaP9

set_option linter.unusedSimpArgs false
set_option linter.unusedVariables false
set_option maxRecDepth 100000
namespace Go.Proofs.Ytonodkjaoalfjaa
open Go.Sx
theorem U0 {s:E9}(h:Hr s=false):Cd s=(s,false):=by
 unfold Cd
 rw [if_neg (fun p=>by rw [p.1] at h;cases h)]
theorem U1 {s:E9}(h:¬ s.turn<6):Cd s=(s,false):=by
 unfold Cd
 rw [if_neg (fun p=>h p.2)]
theorem U2 {s:E9}(h1:Hr s=true)(h2:s.turn<6):Cd s=(⟨s.epoch,s.turn+1⟩,true):=by
 unfold Cd
 rw [if_pos ⟨h1,h2⟩]
theorem A3y {s:E9}(h:Hr s=true):(0≤s.epoch∧s.epoch≤3)∧0≤s.turn∧s.turn≤6:=of_decide_eq_true h
theorem Nb (s:E9):Bp Try.prog 86 [.agg s.c] [.agg (Cd s).1.c,.one (vb (Cd s).2)]:=by
 refine Bm A0 false Try.func86 rfl Cb fun W=>?_
 conv=>whnf
 refine B7 (P8 s) rfl (Af ?_)
 refine ⟨fun h1=>?_,fun h1=>?_⟩<;>conv=>whnf
 ·have h1:Hr s=false:=by simpa using h1
  repeat refine Bg ?_
  rw [U0 h1]
  refine B1 A0 rfl rfl ?_
  exact C1
 ·have h1:Hr s=true:=by simpa using h1
  have hb:=A3y h1
  repeat refine Bg ?_
  refine ⟨fun h2=>?_,fun h2=>?_⟩<;>conv=>whnf
  ·have h2:s.turn≥6:=of_decide_eq_true h2
   repeat refine Bg ?_
   rw [U1 Ag]
   refine B1 A0 rfl rfl ?_
   exact C1
  ·have h2:¬ s.turn≥6:=of_decide_eq_false h2
   repeat refine Bg ?_
   (repeat refine Ak ?_)
   rw [U2 h1 Ag]
   refine B1 A0 rfl rfl ?_
   exact C1
theorem A3t (a b:Int):Bp Try.prog 89 [.one (vi a),.one (vi b)] [.one (vi (if b<a then b else a))]:=by
 refine Bm A0 false Try.func89 rfl Cb fun W=>?_
 conv=>whnf
 refine G2 (fun h=>?_) fun h=>?_<;>conv=>whnf
 ·rw [if_pos h]
  refine B1 A0 rfl rfl ?_
  exact C1
 ·rw [if_neg h]
  refine B1 A0 rfl rfl ?_
  exact C1
theorem Lm (k:Int):Bp Try.prog 84 [.one (vi k)] [.one (vb (decide (k=5∨k=6∨k=8)))]:=by
 refine Bm A0 false Try.func84 rfl Cb fun W=>?_
 conv=>whnf
 refine ⟨fun h5=>have h5:=eq_of_beq h5;?_,fun h5=>have h5:=beq_eq_false_iff_ne.1 h5;?_⟩<;>conv=>whnf
 ·repeat refine Bg ?_
  exact B1 A0 rfl rfl ⟨congrArg vb (by simp [h5]),trivial⟩
 ·repeat refine Bg ?_
  refine ⟨fun h6=>have h6:=eq_of_beq h6;?_,fun h6=>have h6:=beq_eq_false_iff_ne.1 h6;?_⟩<;>conv=>whnf
  ·repeat refine Bg ?_
   exact B1 A0 rfl rfl ⟨congrArg vb (by simp [h6]),trivial⟩
  ·repeat refine Bg ?_
   exact B1 A0 rfl rfl ⟨congrArg vb (by simp [h5,h6];rfl),trivial⟩
theorem Lz {x:C3}{k v:Int}(h:¬ (Hw x∧K5 k v)):Bh x k v=(k,v,false):=if_neg h
theorem Zn {x:C3}{k v:Int}(h:Hw x∧K5 k v)(h2:x.kind=2):Bh x k v=(k,if 999<v+x.a then 999 else v+x.a,true):=by
 rw [Bh,if_pos h,if_pos h2]
 congr 2
 by_cases h3:999<v+x.a
 ·rw [if_pos h3,if_neg Ag]
 ·rw [if_neg h3]
  split<;>omega
theorem Zp {x:C3}{k v:Int}(h:Hw x∧K5 k v)(h2:x.kind=4):Bh x k v=((k+x.a).tmod 100,v,true):=by
 rw [Bh,if_pos h,if_neg Ag,if_pos h2]
theorem Zo {x:C3}{k v:Int}(h:Hw x∧K5 k v)(h2:x.kind=3):Bh x k v=(k,v,k.tmod x.a==x.b):=by
 rw [Bh,if_pos h,if_neg Ag,if_neg Ag,if_pos h2]
theorem Zq {x:C3}{k v:Int}(h:Hw x∧K5 k v)(h2:x.kind≠2)(h4:x.kind≠4)(h3:x.kind≠3):Bh x k v=(k,v,x.kind !=8):=by
 rw [Bh,if_pos h,if_neg h2,if_neg h4,if_neg h3]
theorem Vy (x:C3)(k v:Int)(hx:x.w≤16777216):Bp Try.prog 83 [.agg x.c,.one (vi k),.one (vi v)] [.one (vi (Bh x k v).1),.one (vi (Bh x k v).2.1),.one (vb (Bh x k v).2.2)]:=by
 refine Bm A0 false Try.func83 rfl Cb fun W=>?_
 conv=>whnf
 refine B7 (Rg x hx) rfl (Af ?_)
 refine ⟨fun h1=>?_,fun h1=>?_⟩<;>conv=>whnf
 ·have h1:O2 x=false:=by simpa using h1
  repeat refine Bg ?_
  rw [Lz (fun p=>absurd p.1 (of_decide_eq_false h1))]
  refine B1 A0 rfl rfl ?_
  exact C1
 have h1:O2 x=true:=by simpa using h1
 repeat refine Bg ?_
 refine B7 (Er k 0 99) rfl (Af ?_)
 repeat refine Bg ?_
 refine ⟨fun h2=>?_,fun h2=>?_⟩<;>conv=>whnf
 ·have h2:Ek k 0 99=false:=by simpa using h2
  repeat refine Bg ?_
  rw [Lz (fun p=>Go.Sx.B3.1 h2 p.2.1)]
  refine B1 A0 rfl rfl ?_
  exact C1
 have h2:Ek k 0 99=true:=by simpa using h2
 repeat refine Bg ?_
 refine B7 (Er v 0 999) rfl (Af ?_)
 repeat refine Bg ?_
 refine ⟨fun h3=>?_,fun h3=>?_⟩<;>conv=>whnf
 ·have h3:Ek v 0 999=false:=by simpa using h3
  repeat refine Bg ?_
  rw [Lz (fun p=>Go.Sx.B3.1 h3 p.2.2)]
  refine B1 A0 rfl rfl ?_
  exact C1
 have h3:Ek v 0 999=true:=by simpa using h3
 have hI:K5 k v:=⟨Go.Sx.Al.1 h2,Go.Sx.Al.1 h3⟩
 have hN:Hw x:=of_decide_eq_true h1
 have hk:=hI.1
 have hv:=hI.2
 repeat refine Bg ?_
 refine ⟨fun k2=>have k2:=eq_of_beq k2;?_,fun k2=>have k2:=beq_eq_false_iff_ne.1 k2;?_⟩<;>conv=>whnf
 ·have ha:=hN.2.1 k2
  repeat refine Bg ?_
  (repeat refine Ak ?_)
  refine B7 (A3t (v+x.a) 999) rfl (Af ?_)
  rw [Zn ⟨hN,hI⟩ k2]
  refine B1 A0 rfl rfl ?_
  exact C1
 ·repeat refine Bg ?_
  refine ⟨fun k4=>have k4:=eq_of_beq k4;?_,fun k4=>have k4:=beq_eq_false_iff_ne.1 k4;?_⟩<;>conv=>whnf
  ·have ha:=hN.2.2.2.1 k4
   repeat refine Bg ?_
   (repeat refine Ak ?_)
   rw [Zp ⟨hN,hI⟩ k4]
   refine B1 A0 rfl rfl ?_
   exact C1
  ·repeat refine Bg ?_
   refine ⟨fun k3=>have k3:=eq_of_beq k3;?_,fun k3=>have k3:=beq_eq_false_iff_ne.1 k3;?_⟩<;>conv=>whnf
   ·have ha:=hN.2.2.1 k3
    repeat refine Bg ?_
    first|(refine At 9 rfl [0,1,2,3,4,5,6,7,8,9,10,11] A6 (Af ?_))|(refine At 10 rfl [0,1,2,3,4,5,6,7] A6 (Af ?_))
    (repeat refine Ak ?_)
    rw [Zo ⟨hN,hI⟩ k3]
    refine B1 A0 rfl rfl ?_
    exact C1
   ·repeat refine Bg ?_
    first|(refine At 9 rfl [0,1,2,3,4,5,6,7,8,9,10,11] A6 (Af ?_))|(refine At 10 rfl [0,1,2,3,4,5,6,7] A6 (Af ?_))
    rw [Zq ⟨hN,hI⟩ k2 k4 k3]
    refine B1 A0 rfl rfl ?_
    exact C1
theorem Pg {l:C0}{r:Ac}(h:¬ Uv l r):C6 l r=(l,false):=if_neg h
theorem A3o {l:C0}{r:Ac}(h:Uv l r):C6 l r=(⟨l.cap,l.queue++[r],l.credits-1,l.back,l.sent+1,l.got⟩,true):=if_pos h
theorem Uk {l:C0}(h:¬ (Fc l∧0<l.queue.length)):Bn l=(l,default,false):=if_neg h
theorem W6 {l:C0}(h:Fc l∧0<l.queue.length):Bn l=(⟨l.cap,l.queue.drop 1,l.credits,l.back+1,l.sent,l.got+1⟩,l.queue.getD 0 default,true):=if_pos h
theorem Y5 {l:C0}(h:¬ (Fc l∧l.back≠0)):D4 l=(l,false):=if_neg h
theorem A1w {l:C0}(h:Fc l∧l.back≠0):D4 l=(⟨l.cap,l.queue,l.credits+1,l.back-1,l.sent,l.got⟩,true):=if_pos h
set_option maxHeartbeats 1000000 in
theorem Rj (l:C0)(r:Ac)(hl:l.w≤16777216):Bp Try.prog 66 [.agg l.c,.agg r.c] [.agg (C6 l r).1.c,.one (vb (C6 l r).2)]:=by
 have hq:l.queue.length≤16777216:=hl
 refine Bm A0 false Try.func66 rfl Cb fun W=>?_
 conv=>whnf
 refine Dk (Hq l Ag) rfl (Af ?_)
 refine B7 (Jx l Ag) rfl (Af ?_)
 refine ⟨fun h1=>?_,fun h1=>?_⟩<;>conv=>whnf
 ·have h1:Jr l=false:=by simpa using h1
  repeat refine Bg ?_
  rw [Pg (fun p=>absurd p.1 (of_decide_eq_false h1))]
  refine B1 A0 rfl rfl ?_
  exact C1
 have h1:Fc l:=of_decide_eq_true (show Jr l=true by simpa using h1)
 obtain ⟨⟨n1,n2,n3,n4,n5,n6,n7⟩,nA⟩:=id h1
 repeat refine Bg ?_
 refine B7 (Ft r) rfl (Af ?_)
 repeat refine Bg ?_
 refine ⟨fun h2=>?_,fun h2=>?_⟩<;>conv=>whnf
 ·have h2:Gp r=false:=by simpa using h2
  repeat refine Bg ?_
  rw [Pg (fun p=>absurd p.2.1 (of_decide_eq_false h2))]
  refine B1 A0 rfl rfl ?_
  exact C1
 have h2:Gt r:=of_decide_eq_true (show Gp r=true by simpa using h2)
 repeat refine Bg ?_
 refine ⟨fun h3=>have h3:=eq_of_beq h3;?_,fun h3=>have h3:=beq_eq_false_iff_ne.1 h3;?_⟩<;>conv=>whnf
 ·repeat refine Bg ?_
  rw [Pg (fun p=>p.2.2.1 h3)]
  refine B1 A0 rfl rfl ?_
  exact C1
 repeat refine Bg ?_
 refine ⟨fun h4=>?_,fun h4=>?_⟩<;>conv=>whnf
 ·have h4:l.sent=1000000000:=by (have:=of_decide_eq_true h4;omega)
  repeat refine Bg ?_
  rw [Pg (fun p=>p.2.2.2 h4)]
  refine B1 A0 rfl rfl ?_
  exact C1
 have h4:l.sent≠1000000000:=by (have:=of_decide_eq_false h4;omega)
 repeat refine Bg ?_
 refine B4 A0 rfl rfl rfl rfl rfl rfl rfl rfl rfl rfl rfl (A8 (l.queue++[r])) (B5 rfl) Ia Ag (Af ?_)
 (repeat refine Ak ?_)
 rw [A3o ⟨h1,h2,h3,h4⟩]
 refine B1 A0 rfl rfl ?_
 exact C1
set_option maxHeartbeats 1000000 in
theorem Ud (l:C0)(hl:l.w≤16777216):Bp Try.prog 77 [.agg l.c] [.agg (Bn l).1.c,.agg (Bn l).2.1.c,.one (vb (Bn l).2.2)]:=by
 have hq:l.queue.length≤16777216:=hl
 refine Bm A0 false Try.func77 rfl Cb fun W=>?_
 conv=>whnf
 refine Dk (Hq l Ag) rfl (Af ?_)
 refine B7 (Jx l Ag) rfl (Af ?_)
 refine ⟨fun h1=>?_,fun h1=>?_⟩<;>conv=>whnf
 ·have h1:Jr l=false:=by simpa using h1
  repeat refine Bg ?_
  rw [Uk (fun p=>absurd p.1 (of_decide_eq_false h1))]
  refine B1 A0 rfl rfl ?_
  exact C1
 have h1:Fc l:=of_decide_eq_true (show Jr l=true by simpa using h1)
 obtain ⟨⟨n1,n2,n3,n4,n5,n6,n7⟩,nA⟩:=id h1
 repeat refine Bg ?_
 refine ⟨fun h2=>have h2:=eq_of_beq h2;?_,fun h2=>have h2:=beq_eq_false_iff_ne.1 h2;?_⟩<;>conv=>whnf
 ·repeat refine Bg ?_
  rw [Uk (fun p=>by omega)]
  refine B1 A0 rfl rfl ?_
  exact C1
 have h2:0<l.queue.length:=by omega
 repeat refine Bg ?_
 (repeat refine Ak ?_)
 refine A33 A0 rfl rfl rfl rfl rfl rfl rfl rfl (l:=1) rfl rfl (⟨by omega,by omega,by omega⟩) (A8 (l.queue.drop 1)) (G5 (k:=1) h2) (Af ?_)
 refine B4 A0 rfl rfl rfl rfl rfl rfl rfl rfl rfl rfl rfl (A8 (l.queue.drop 1)) (Ah) (fun _=>Aj _) (by (rw [List.length_drop];omega)) (Af ?_)
 (repeat refine Ak ?_)
 refine J7 rfl ?_
 refine Eh (s':=?_) 0 rfl A6 ?_ ?_
 rotate_left
 refine go A0 false ?_
 conv=>whnf
 (repeat refine Ak ?_)
 exact Ay
 refine Jy [1,2] A6 ⟨?_,?_,trivial⟩
 focus
  refine go A0 false ?_
  conv=>whnf
  (repeat refine Ak ?_)
  refine Kn ?_
  refine Jy [2] A6 ⟨?_,trivial⟩
  refine go A0 false ?_
  conv=>whnf
  (repeat refine Ak ?_)
  refine Kn ?_
  refine Jy [3] A6 ⟨?_,trivial⟩
  refine go A0 false ?_
  conv=>whnf
  (repeat refine Ak ?_)
  refine Kn ?_
  refine Bi A0 false 4 rfl rfl A6 rfl (Aa D3) ?_
  refine Y6 A6 (Af ?_)
 rotate_left 1
 focus
  refine go A0 false ?_
  conv=>whnf
  (repeat refine Ak ?_)
  refine Kn ?_
  refine Eh (s':=?_) 1 rfl A6 ?_ ?_
  rotate_left
  refine go A0 false ?_
  conv=>whnf
  (repeat refine Ak ?_)
  exact Ay
  refine Jy [3] A6 ⟨?_,trivial⟩
  refine go A0 false ?_
  conv=>whnf
  (repeat refine Ak ?_)
  refine Kn ?_
  refine Bi A0 false 4 rfl rfl A6 rfl (Aa D3) ?_
  refine Y6 A6 (Af ?_)
 all_goals
  rw [W6 ⟨h1,h2⟩]
  refine B1 A0 rfl rfl ?_
  exact C1
theorem Rd (l:C0)(hl:l.w≤16777216):Bp Try.prog 78 [.agg l.c] [.agg (D4 l).1.c,.one (vb (D4 l).2)]:=by
 refine Bm A0 false Try.func78 rfl Cb fun W=>?_
 conv=>whnf
 refine Dk (Hq l Ag) rfl (Af ?_)
 refine B7 (Jx l Ag) rfl (Af ?_)
 refine ⟨fun h1=>?_,fun h1=>?_⟩<;>conv=>whnf
 ·have h1:Jr l=false:=by simpa using h1
  repeat refine Bg ?_
  rw [Y5 (fun p=>absurd p.1 (of_decide_eq_false h1))]
  refine B1 A0 rfl rfl ?_
  exact C1
 have h1:Fc l:=of_decide_eq_true (show Jr l=true by simpa using h1)
 obtain ⟨⟨n1,n2,n3,n4,n5,n6,n7⟩,nA⟩:=id h1
 repeat refine Bg ?_
 refine ⟨fun h2=>have h2:=eq_of_beq h2;?_,fun h2=>have h2:=beq_eq_false_iff_ne.1 h2;?_⟩<;>conv=>whnf
 ·repeat refine Bg ?_
  rw [Y5 (fun p=>p.2 h2)]
  refine B1 A0 rfl rfl ?_
  exact C1
 repeat refine Bg ?_
 (repeat refine Ak ?_)
 rw [A1w ⟨h1,h2⟩]
 refine B1 A0 rfl rfl ?_
 exact C1
theorem Fu {α:Type} [Inhabited α] {l:List α}{k:Nat}(hk:k<l.length):l.take (k+1)=l.take k++[l.getD k default]:=by
 rw [List.take_succ_eq_append_getElem hk]
 simp [List.getD,hk]
theorem Qi {l:List Ax}{k:Nat}(hk:k<l.length)(op e key:Int):Ho (l.take (k+1)) op e key=Tv op e key (Ho (l.take k) op e key) (l.getD k default):=by
 unfold Ho
 rw [Fu hk,List.foldl_append]
 rfl
set_option maxHeartbeats 1000000 in
theorem P6 (l:List Ax)(op e key:Int)(hl:l.length≤16000000):Bp Try.prog 92 [.one (Aw l),.one (vi op),.one (vi e),.one (vi key)] [.one (vi (Ho l op e key).1),.one (vb (Ho l op e key).2)]:=by
 refine Bm A0 false Try.func92 rfl Cb fun W=>?_
 conv=>whnf
 refine Cc A0 false [] (fun k:Nat=>[(12,.c (vi k)),(10,.c (vi (Ho (l.take k) op e key).1)),(11,.c (vb (Ho (l.take k) op e key).2))]) (fun k=>[]) (fun k=>[])
  (fun k=>k≤l.length) (fun k=>l.length-k) 0 (Nat.zero_le _) ⟨by first|rfl|simp [Dc,ren2,ren1,ren0],by first|rfl|simp [Dc,ren2,ren1,ren0],by first|rfl|simp [Dc,ren2,ren1,ren0],trivial⟩ trivial trivial Dg A6 (fun k hk=>?_)
 conv=>whnf
 refine G2 (fun h0=>?_) fun h0=>?_<;>conv=>whnf
 ·have h0:k<l.length:=by omega
  (repeat refine Ak ?_)
  repeat' (first|(refine L9 ?_;conv=>whnf)|(refine La ?_;conv=>whnf)|(refine ⟨fun h=>?_,fun h=>?_⟩<;>conv=>whnf)|(refine He ?_;conv=>whnf)|fail)
  all_goals
   refine B8 [] (k+1) Ag Ag ⟨rfl,congrArg (fun n=>AV.c (vi n)) (by rw [Qi h0];simp_all [Tv]<;>rw [if_neg Ag]<;>assumption),congrArg (fun n=>AV.c (vb n)) (by rw [Qi h0];simp_all [Tv]<;>rw [if_neg Ag]<;>assumption),trivial⟩ trivial trivial A6 Dg A6
 ·refine B1 A0 rfl rfl ⟨?_,?_,trivial⟩
  ·rw [show l.take k=l from List.take_of_length_le Ag];rfl
  ·rw [show l.take k=l from List.take_of_length_le Ag];rfl
end Go.Proofs.Ytonodkjaoalfjaa
