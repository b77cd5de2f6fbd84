/- Part 35 of the proof that each of the laws FnTight returns true for every input. No conditions. -/
import Derived.Test.YtonodkjaoalfjaaP21
import Derived.Test.YtonodkjaoalfjaaP20
import Derived.Test.YtonodkjaoalfjaaP34
import Derived.Test.YtonodkjaoalfjaaP7
import Derived.Test.YtonodkjaoalfjaaP12
import Derived.Test.YtonodkjaoalfjaaP24
import Derived.Test.YtonodkjaoalfjaaP26
import Derived.Test.YtonodkjaoalfjaaP6
import Derived.Test.YtonodkjaoalfjaaP27

set_option linter.unusedSimpArgs false
set_option linter.unusedVariables false
set_option maxRecDepth 100000
namespace Go.Proofs.Ytonodkjaoalfjaa
open Go.Sx
theorem A4r (d:Gb):Pp Try.prog HT 6 d.pins [] [.one (.val d.v)] (fun r:An×List Ac×List Bl=>(Wh r.1∧Po r.1)∧A4h r.2.1∧r.2.2.length≤80) (fun r=>[.agg r.1.c,.one (A8 r.2.1),.one (C4 r.2.2)]):=by
 refine A6f A0 false Try.func6 rfl Cb fun B hH hp=>?_
 conv=>whnf
 refine A54 (A6c d) hp rfl (fun h0 _=>go A0 false ?_)
 conv=>whnf
 refine Cm (Zs d 0 h0 ⟨Int.le_refl _,Int.natCast_nonneg _⟩) hH hp rfl C1 rfl rfl (fun r hr=>go A0 false ?_)
 conv=>whnf
 refine Cm (Zt d r.1 r.2.1 hr.1) hH hp rfl C1 rfl rfl (fun r2 hr2=>go A0 false ?_)
 conv=>whnf
 refine Cm (A1z d r2.1 r2.2.1 80 Cb hr2.1) hH hp rfl C1 rfl rfl (fun r3 hr3=>go A0 false ?_)
 conv=>whnf
 exact A72 A0 (r.2.2,r2.2.2,r3.2.2) ⟨hr.2,hr2.2,hr3.2⟩ rfl rfl C1
theorem A25 {l:List C3}(h:A1g l):Fh ⟨l,1,1⟩:=by
 obtain ⟨G,a,b,k,hG,ha,hb,hk,hl⟩:=h
 have ha:a=1∨a=2∨a=3:=by omega
 have hb:b=0∨b=1∨b=2∨b=3:=by omega
 have hk:k=1∨k=2∨k=3:=by omega
 rcases hl with rfl|rfl|rfl|rfl|rfl
 ·show Fh ⟨[⟨1,0,0,[1]⟩,⟨G,0,0,[2,5]⟩,⟨4,a,0,[3]⟩,⟨3,k,0,[4]⟩,⟨7,0,0,[1]⟩,⟨8,0,0,[]⟩],1,1⟩
  rcases hG with rfl|rfl<;>rcases ha with rfl|rfl|rfl<;>rcases hk with rfl|rfl|rfl<;>decide
 ·rcases hG with rfl|rfl<;>rcases ha with rfl|rfl|rfl<;>rcases hb with rfl|rfl|rfl|rfl<;>decide
 ·rcases hG with rfl|rfl<;>rcases ha with rfl|rfl|rfl<;>rcases hb with rfl|rfl|rfl|rfl<;>decide
 ·rcases hG with rfl|rfl<;>rcases ha with rfl|rfl|rfl<;>rcases hb with rfl|rfl|rfl|rfl<;>decide
 ·rcases hG with rfl|rfl<;>rcases ha with rfl|rfl|rfl<;>rcases hb with rfl|rfl|rfl|rfl<;>decide
theorem A2g {g:An}(h:Po g):Fh g:=by
 obtain ⟨h1,h2,hn⟩:=h
 have:Fh ⟨g.nodes,1,1⟩:=A25 hn
 exact ⟨this.1,by omega,by omega,this.2.2.2⟩
theorem A47 {g:An}{ins:List Ac}(hg:Po g)(hi:A4h ins):Rs g ins:=by
 refine ⟨A2g hg,by have:=hi.1;omega,fun r hr=>?_⟩
 obtain ⟨h1,h2,h3,h4,h5⟩:=hi.2 r hr
 exact ⟨⟨by omega,h3,by omega,by omega,by omega⟩,h1,h2⟩
theorem A6m (a:Option Addr)(n cp:Nat):Bp Try.prog 5 [.one (.val (.slice a n cp))] [.one (vb (decide ((n:Int)>1_048_576)))]:=by
 refine Bm A0 false Try.func5 rfl Cb fun W=>?_
 conv=>whnf
 exact B1 A0 rfl rfl ⟨by rfl,trivial⟩
theorem A94 (x:A3)(w:Int)(h:x.w≤8000000)(og:Gs .i64 x.graph.workers):Bp Try.prog 16 [.agg x.c,.one (vi w)] [.agg (Br x w).1.c,.one (vb (Br x w).2)]:=by
 refine Bm A0 false Try.func16 rfl Cb fun W=>?_
 conv=>whnf
 have hp:It ⟨W,fun _=>False⟩ []:=fun _ h=>by cases h
 have hH:∀w,Am.rel ⟨W,fun _=>False⟩ w→True:=fun _ _=>trivial
 refine A54 (A03 x Ag) hp rfl (fun r hr=>go A0 false ?_)
 conv=>whnf
 refine Cm (A3u x w h og) hH hp rfl C1 rfl rfl (fun r2 hr2=>go A0 false ?_)
 conv=>whnf
 refine B1 A0 rfl rfl ?_
 exact C1
theorem B2c {c:A3}{w:Int}(hC:Ar c)(h:A8j c w=true):(Br c w).2=false:=by
 obtain ⟨h1,h2,h3,h4,h5⟩:B1u c w:=of_decide_eq_true h
 have hW:Fi c w:=⟨hC,h1⟩
 have hmb:=Ss hW h2
 have hwb:0≤w∧w<c.graph.workers:=by have:=hC.1.2.1;omega
 have hk:A9y c w=Ai c w (As c w):=Le hC.1.1.2.1 hwb hmb
 unfold Br
 rw [if_pos ⟨hW,h2⟩,if_neg h3,if_neg]
 unfold C6
 rw [←hk,if_neg (fun p=>p.2.2.1 h5)]
 exact Bool.false_ne_true
theorem B37 {p:Nat→Bool}{n:Nat}{x:Int}(h:x∈A8n p n):∃i:Nat,i<n∧x=i∧p i=true:=by
 obtain ⟨i,hi,hx⟩:=List.mem_flatMap.1 h
 split at hx
 ·rename_i hp
  exact ⟨i,List.mem_range.1 hi,List.mem_singleton.1 hx,hp⟩
 ·cases hx
theorem B38 {p:Nat→Bool}{n:Nat}(h:∀k,k<n→p k=false):A8n p n=[]:=by
 induction n with
 |zero=>rfl
 |succ n ih=>
  rw [A9b,ih (fun k hk=>h k Ag),h n Ag]
  rfl
theorem B36 {p:Nat→Bool}{n:Nat}(h:∀k,k<n→p k=true):(A8n p n).length=n:=by
 induction n with
 |zero=>rfl
 |succ n ih=>
  rw [A9b,List.length_append,ih (fun k hk=>h k Ag),h n Ag]
  rfl
theorem B2a {k:Nat}{c:A3}(hR:A60 k c)(hA:A8o c):A8n (fun i=>A8j c i) c.workers.length=[]:=B38 fun i hi=>decide_eq_false fun p=>by
 have h1:=((A8q hR.ok hA.ov).1 i hi).2.1
 have h2:0<(wk c i).staged.length:=p.2.1
 rw [h1] at h2
 exact Nat.lt_irrefl 0 h2
theorem B2q {k:Nat}{c:A3}(hR:A60 k c)(hA:A8o c):(A8n (B3m c) c.workers.length).length=c.workers.length:=B36 fun i hi=>by
 obtain ⟨h1,h2,h3⟩:=(A8q hR.ok hA.ov).1 i hi
 show idle (wk c i)=true
 unfold idle
 rw [h1,h2,h3]
 rfl
theorem B3w {k:Nat}{c:A3}(hR:A60 k c)(hA:A8o c):A78 c.links=0:=A84 _ fun x hx=>by
 obtain ⟨y,hy,rfl⟩:=List.mem_map.1 hx
 obtain ⟨j,hj,rfl⟩:=B0e hy
 have h1:=(A8q hR.ok hA.ov).2 j hj
 have h2:=(hR.ok.2.2.1 j hj).1.1.1
 rw [if_neg (by rw [h1];show ¬ ((0:Nat):Int)=_;omega)]
theorem B16:∀(l:List Ad),(∀w∈l,w.queue=[])→A8w l=0:=by
 have:∀(l:List Ad),(∀w∈l,w.queue=[])→l.foldl (fun n x=>if (x.queue.length:Int)>n then (x.queue.length:Int) else n) (0:Int)=0:=by
  intro l
  induction l with
  |nil=>intro _;rfl
  |cons w l ih=>
   intro h
   rw [List.foldl_cons,h w (List.mem_cons_self ..)]
   exact ih fun v hv=>h v (List.mem_cons_of_mem _ hv)
 exact this
theorem B19 {k:Nat}{c:A3}(hR:A60 k c)(hA:A8o c):A8w c.workers=0:=B16 _ fun w hw=>by
 obtain ⟨i,hi,rfl⟩:=B0e hw
 exact ((A8q hR.ok hA.ov).1 i hi).1
theorem B4p {g:An}{ins:List Ac}(hg:Po g)(hi:A4h ins):Rs ⟨g.nodes,g.workers,1⟩ ins:=A47 (g:=⟨g.nodes,g.workers,1⟩) ⟨hg.1,⟨Int.le_refl _,(by decide:(1:Int)≤3)⟩,hg.2.2⟩ hi
set_option maxHeartbeats 4000000 in
theorem B44 (xs:List UInt8):Bp Try.prog 4 [.one (A3n xs)] [.one (vb true)]:=by
 refine A6h A0 false Try.func4 rfl Cb fun W a cp hp=>?_
 conv=>whnf
 have hH:∀w,Am.rel ⟨W,fun _=>False⟩ w→HT w:=fun _ _=>trivial
 refine B7 (A6m a xs.length cp) rfl (Af ?_)
 refine ⟨fun hb=>?_,fun hb=>?_⟩<;>conv=>whnf
 ·exact B1 A0 rfl rfl ⟨rfl,trivial⟩
 have hb:(xs.length:Int)≤16777216:=by have:=of_decide_eq_false hb;omega
 let d:Gb:=⟨a,xs.length,cp,fun i=>(xs.getD i default).toNat,fun i=>by have:=(xs.getD i default).toNat_lt;omega,by omega⟩
 have hp:It ⟨W,fun _=>False⟩ d.pins:=hp
 refine A6b (A4r d) hH hp rfl (fun r hr=>go A0 false ?_)
 conv=>whnf
 obtain ⟨g,ins,pk⟩:=r
 obtain ⟨⟨hgd,hgs⟩,hin,hpk⟩:(Wh g∧Po g)∧A4h ins∧pk.length≤80:=hr
 have hN:Rs ⟨g.nodes,g.workers,1⟩ ins:=B4p hgs hin
 have hgw:g.w≤64:=hgd.1
 have hgw2:(⟨g.nodes,g.workers,1⟩:An).w=g.w:=rfl
 have hil:=hin.1
 have hwC:=A7j (g:=⟨g.nodes,g.workers,1⟩) (l:=ins)
 have hgC:(Ej ⟨g.nodes,g.workers,1⟩ ins).1.graph=⟨g.nodes,g.workers,1⟩:=by rw [N3 hN]
 have hww:=hgs.1
 obtain ⟨hR,hend,⟨k',hRz⟩,hAO,hgz⟩:=B4w 3000 Cb (g:=⟨g.nodes,g.workers,1⟩) hgs.2.2 hN hin hpk (.inl rfl)
 refine B7 (Rb ⟨g.nodes,g.workers,1⟩ ins Ag Ag) rfl (Af ?_)
 have hrw:=A3m (c:=(Ej ⟨g.nodes,g.workers,1⟩ ins).1) (l:=pk)
 have hgX:=X8 (Ej ⟨g.nodes,g.workers,1⟩ ins).1 pk
 refine B7 (Uc (Ej ⟨g.nodes,g.workers,1⟩ ins).1 pk Ag (by rw [hgC];show _∧_;simp only;omega)) rfl (Af ?_)
 generalize hX:(Ce (Ej ⟨g.nodes,g.workers,1⟩ ins).1 pk).1=X at *
 have og:Gs .i64 X.graph.workers:=by rw [hgX,hgC];show _∧_;simp only;omega
 refine B7 (A9o X Ag og) rfl (Af ?_)
 have h3000:(Dn 3000 0 3000).toNat=3000:=by decide
 have hsl:=B1t (fun k=>A8j X k) X.workers.length
 have hXl:=A3.workers_le (Nat.le_refl X.w)
 have hmem:∀x∈A8n (fun k=>A8j X k) X.workers.length,(Br X x).2=false:=fun x hx=>by
  obtain ⟨i,_,rfl,hs⟩:=B37 hx
  exact B2c hR.ok hs
 generalize hL:A8n (fun k=>A8j X k) X.workers.length=L at *
 refine Cc A0 false [] (fun k:Nat=>[(9,.c (vi k))]) (fun k=>[⟨4,[.c (Bt X.graph.nodes),.c (vi X.graph.workers),.c (vi X.graph.cap),.c (Ap X.workers),.c (D7 X.links),.c (Cl X.tokens),.c (D0 X.news)]⟩,⟨3,[.own 0,.c (vi g.workers),.c (vi 1)]⟩]) (fun k=>[⟨0,Bt g.nodes⟩])
  (fun k=>k≤L.length) (fun k=>L.length-k) 0 (Nat.zero_le _) ⟨by first|rfl|simp [Dc,ren2,ren1,ren0],trivial⟩ D8 ⟨by first|rfl|exact (congrArg (fun l=>Dz _ _ l) (List.append_nil _)).symm|(show (_:A7)=_;simp)|simp,trivial⟩ Dg A6 (fun k hk=>?_)
 conv=>whnf
 conv=>whnf
 refine G2 (fun hlt=>?_) fun hlt=>?_<;>conv=>whnf
 ·have hlt:k<L.length:=by omega
  refine J7 rfl ?_
  refine Bi A0 false 1 rfl rfl A6 rfl (Aa D3) ?_
  refine Bi A0 false 2 rfl rfl A6 rfl (Aa D3) ?_
  refine Eh (s':=?_) 0 rfl A6 ?_ ?_
  rotate_left
  refine go A0 false ?_
  conv=>whnf
  (repeat refine Ak ?_)
  exact Ay
  refine Eh (s':=?_) 3 rfl A6 ?_ ?_
  rotate_left
  refine go A0 false ?_
  conv=>whnf
  (repeat refine Ak ?_)
  exact Ay
  refine Eh (s':=?_) 4 rfl A6 ?_ ?_
  rotate_left
  refine go A0 false ?_
  conv=>whnf
  (repeat refine Ak ?_)
  exact Ay
  refine Jy [5,9] A6 ⟨?_,?_,trivial⟩
  focus
   refine go A0 false ?_
   conv=>whnf
   refine B7 (A94 X (L.getD k default) Ag og) rfl (Af ?_)
   refine Kn ?_
   refine Bi A0 false 6 rfl rfl A6 rfl (Aa D3) ?_
   refine A5a (s':=?_) 7 rfl A6 ?_ ?_
   rotate_left
   refine go A0 false ?_
   conv=>whnf
   (repeat refine Ak ?_)
   exact Ay
   refine A5a (s':=?_) 8 rfl A6 ?_ ?_
   rotate_left
   refine go A0 false ?_
   conv=>whnf
   (repeat refine Ak ?_)
   exact Ay
   refine Jy [9] A6 ⟨?_,trivial⟩
   refine go A0 false ?_
   conv=>whnf
   (repeat refine Ak ?_)
   refine Kn ?_
   refine Jy [10] A6 ⟨?_,trivial⟩
   refine go A0 false ?_
   conv=>whnf
   (repeat refine Ak ?_)
   refine Kn ?_
   refine Bi A0 false 11 rfl rfl A6 rfl (Aa D3) ?_
   refine Y6 A6 (Af ?_)
  rotate_left 1
  focus
   refine go A0 false ?_
   conv=>whnf
   (repeat refine Ak ?_)
   refine Kn ?_
   refine Jy [5] A6 ⟨?_,trivial⟩
   refine go A0 false ?_
   conv=>whnf
   refine B7 (A94 X (L.getD k default) Ag og) rfl (Af ?_)
   refine Kn ?_
   refine Bi A0 false 6 rfl rfl A6 rfl (Aa D3) ?_
   refine A5a (s':=?_) 7 rfl A6 ?_ ?_
   rotate_left
   refine go A0 false ?_
   conv=>whnf
   (repeat refine Ak ?_)
   exact Ay
   refine A5a (s':=?_) 8 rfl A6 ?_ ?_
   rotate_left
   refine go A0 false ?_
   conv=>whnf
   (repeat refine Ak ?_)
   exact Ay
   refine Jy [10] A6 ⟨?_,trivial⟩
   refine go A0 false ?_
   conv=>whnf
   (repeat refine Ak ?_)
   refine Kn ?_
   refine Bi A0 false 11 rfl rfl A6 rfl (Aa D3) ?_
   refine Y6 A6 (Af ?_)
  all_goals
   rw [hmem _ (B9 hlt)]
   repeat refine Bg ?_
   (repeat refine Ak ?_)
   refine B8 [] (k+1) Ag Ag ⟨rfl,trivial⟩ ⟨rfl,trivial⟩ D8 A6 Dg A6
 ·repeat refine Bg ?_
  refine B7 (B2y X 3000 Ag og) rfl (Af ?_)
  rw [h3000]
  have hwZ:=B3s 3000 X
  generalize hZ:A46 3000 X=Z at *
  obtain ⟨Z,m⟩:=Z
  simp only at hend hRz hAO hgz hwZ
  have ogZ:Gs .i64 Z.graph.workers:=by rw [hgz];show _∧_;simp only;omega
  have hlZ:(Z.workers.length:Int)=g.workers:=by rw [hRz.ok.1.2.1,hgz]
  first|(refine At 11 rfl [0,1,2,3,4,5,6,7,8,9,10,11] A6 (Af ?_))|(refine At 15 rfl [0,1,2,3,4,5,6,7,8,9,12,13,10,11,14,15,16,17,18,19,20,21,22,23,24,25,26] A6 (Af ?_))
  refine G2 (fun h5=>?_) fun h5=>?_<;>conv=>whnf
  ·repeat refine Bg ?_
   refine B7 (A9o Z Ag ogZ) rfl (Af ?_)
   rw [B2a hRz hAO]
   repeat refine Bg ?_
   refine B7 (B13 Z Ag) rfl (Af ?_)
   have hhg:=B2q hRz hAO
   repeat ((first|refine Yi rfl ?_|refine Yi (by rw [beq_iff_eq,hhg];exact hlZ) ?_);conv=>whnf)
   repeat refine Bg ?_
   refine B7 (B1c Z Ag) rfl (Af ?_)
   rw [B3w hRz hAO]
   repeat (refine Yi rfl ?_;conv=>whnf)
   repeat refine Bg ?_
   refine B7 (B0c Z Ag) rfl (Af ?_)
   rw [B19 hRz hAO]
   repeat (refine Yi rfl ?_;conv=>whnf)
   repeat refine Bg ?_
   exact B1 A0 rfl rfl ⟨rfl,trivial⟩
  ·omega
end Go.Proofs.Ytonodkjaoalfjaa
