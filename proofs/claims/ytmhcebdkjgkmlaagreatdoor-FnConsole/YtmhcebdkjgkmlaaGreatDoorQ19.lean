/- Part 19 of the proof that each of the laws FnConsole returns true for every input. No conditions. -/
import Derived.Test.YtmhcebdkjgkmlaaGreatDoorQ18

set_option linter.unusedSimpArgs false
set_option linter.unusedVariables false
set_option maxRecDepth 100000
namespace Go.Proofs.YtmhcebdkjgkmlaaGreatDoor
open Go.Sx
def A4 (c:A3) (e:Int):Gg:=c.ap.getD e.toNat default
def A8 (c:A3) (j:Int):Ae:=c.aq.getD j.toNat default
def G5 (c:A3) (e:Int) (t:Gg):A3:=⟨c.az,c.aq,c.ay,c.ap.set e.toNat t,c.ac⟩
def Be (c:A3) (j:Int) (w:Ae):A3:=⟨c.az,c.aq.set j.toNat w,c.ay,c.ap,c.ac⟩
def Kc (w:Ae) (e:Int):Ae:=⟨w.ar,w.aa,w.au,w.cells,w.al,w.ah.set e.toNat false,w.ai,w.an⟩
def Jw (w:Ae) (d:H6):Ae:=⟨w.ar,w.aa,w.au,w.cells,w.al,w.ah,w.ai,w.an++[d]⟩
def Qi (e:Int) (b:Bool) (k:Nat):List De:=(List.range k).map fun (i:Nat)=>(⟨(i:Int)+1,e,b⟩:De)
def A5g (c:A3) (l:List De):A3:=⟨c.az,c.aq,c.ay,c.ap,c.ac++l⟩
def Kz (c:A3) (e:Int) (t:Gg) (w:Ae):A3:=
 if t.ah=false∧w.ah.getD e.toNat default=false∧t.sum+w.al.getD e.toNat default=0 then
  A5g (Be c 0 (Jw w ⟨e,t.ao||w.ai.getD e.toNat default⟩)) (Qi e (t.ao||w.ai.getD e.toNat default) (c.aq.length-1))
 else c
def Y2 (c:A3) (e:Int):Prop:=Ax c∧(0≤e∧e≤3)∧Kr (A8 c 0) e=false∧Lc (A8 c (A4 c e).aj) e=true
instance (c:A3) (e:Int):Decidable (Y2 c e):=by unfold Y2;infer_instance
def D0 (c:A3) (e:Int):A3×Bool:=
 if Y2 c e then
  let t:=A4 c e
  let w:=A8 c t.aj
  if t.bz=false then (Be (G5 c e ⟨true,(c.aq.length:Int)-1,0,false,w.ai.getD e.toNat default⟩) t.aj (Kc w e),true)
  else if t.aj>0 then
   if Jk (t.sum+w.al.getD e.toNat default) then
    (Be (G5 c e ⟨t.bz,t.aj-1,t.sum+w.al.getD e.toNat default,t.ah||w.ah.getD e.toNat default,t.ao||w.ai.getD e.toNat default⟩) t.aj (Kc w e),true)
   else (c,false)
  else (Kz (G5 c e ⟨false,t.aj,t.sum,t.ah,t.ao⟩) e t w,true)
 else (c,false)
variable {c : A3} {e : Int}
theorem B2p (h:Y2 c e)(hg:(A4 c e).bz=false):D0 c e=(Be (G5 c e ⟨true,(c.aq.length:Int)-1,0,false,(A8 c (A4 c e).aj).ai.getD e.toNat default⟩) (A4 c e).aj (Kc (A8 c (A4 c e).aj) e),true):=by
 rw [D0,Ak h];simp only [hg,Mp]
theorem C2f (h:Y2 c e)(hg:(A4 c e).bz=true)(ha:(A4 c e).aj>0)(hs:¬ Jk ((A4 c e).sum+(A8 c (A4 c e).aj).al.getD e.toNat default)):D0 c e=(c,false):=by
 rw [D0,Ak h];simp only [hg,A9v,Te,Ak ha,Ab hs]
theorem P3 (h:Y2 c e)(hg:(A4 c e).bz=true)(ha:(A4 c e).aj>0)(hs:Jk ((A4 c e).sum+(A8 c (A4 c e).aj).al.getD e.toNat default)):
  D0 c e=(Be (G5 c e ⟨true,(A4 c e).aj-1,(A4 c e).sum+(A8 c (A4 c e).aj).al.getD e.toNat default,(A4 c e).ah||(A8 c (A4 c e).aj).ah.getD e.toNat default,(A4 c e).ao||(A8 c (A4 c e).aj).ai.getD e.toNat default⟩) (A4 c e).aj (Kc (A8 c (A4 c e).aj) e),true):=by
 rw [D0,Ak h];simp only [hg,A9v,Te,Ak ha,Ak hs]
theorem Uo (h:¬ Y2 c e):D0 c e=(c,false):=by rw [D0,Ab h]
theorem Ct {α:Type} [Inhabited α] {es:Nat}{e:α→List Ag}{l:List α}{j:Nat}{r:List Ag}(h:r=e (l.getD j default)):Kk (.sl l.length es (Hl (fun i=>e (l.getD i default)) j r)) (Mx es e l):=by
 refine ⟨rfl,rfl,fun i _=>?_⟩;unfold Hl
 split
 ·rename_i e;subst e;rw [h];exact I8.rfl' _
 exact I8.rfl' _
theorem Hx {α:Type} [Inhabited α] {es:Nat}{e:α→List Ag}{l:List α}{j:Nat}{r:List Ag}{x:α}(hj:j<l.length)(h:r=e x):Kk (.sl l.length es (Hl (fun i=>e (l.getD i default)) j r)) (Mx es e (l.set j x)):=by
 refine ⟨by rw [K0],rfl,fun i _=>?_⟩;unfold Hl
 split
 ·rename_i q
  subst q
  show I8 r (e ((l.set i x).getD i default))
  rw [h,Sx.getD_set_self _ _ _ _ hj];exact I8.rfl' _
 rename_i q
 show I8 (e (l.getD i default)) (e ((l.set j x).getD i default))
 rw [Sx.getD_set_ne _ _ _ _ _ q];exact I8.rfl' _
abbrev rcb (x:A3) (b:Bool):List Ag:=[At x.az.ak,vi x.az.aq,vi x.az.cap,Af x.aq,Ba x.ay,Aw x.ap,Bf x.ac,vb b]
abbrev rc (x:A3):List Ag:=rcb x (Au x)
theorem Ol (h:Y2 c e)(hg:(A4 c e).bz=true)(ha:¬ (A4 c e).aj>0):D0 c e=(Kz (G5 c e ⟨false,(A4 c e).aj,(A4 c e).sum,(A4 c e).ah,(A4 c e).ao⟩) e (A4 c e) (A8 c (A4 c e).aj),true):=by
 rw [D0,Ak h];simp only [hg,A9v,Te,Ab ha]
theorem A20 (e:Int)(b:Bool)(k:Nat):(Qi e b k).length=k:=by rw [Qi,Jd,Rx]
theorem Zl (e:Int)(b:Bool)(k:Nat):Qi e b (k+1)=Qi e b k++[⟨(k:Int)+1,e,b⟩]:=by
 rw [Qi,Yy,Qu];rfl
set_option maxHeartbeats 4000000 in
theorem B7w (x:A3)(e:Int)(cap ok:Bool)(h:x.w≤16000000)(h0:0<x.aq.length):
  MtR (fun _=>True) 248 [] (rcb x ok) [.one (vi e),.one (vb cap)] (fun _:Unit=>True) (fun _=>rcb (A5g (Be x 0 (Jw (x.aq.getD 0 default) ⟨e,cap⟩)) (Qi e cap (x.aq.length-1))) ok) (fun _=>[]):=by
 have hw:=A3.worker_le h h0;have hnl:=A3.news_le h;have hwl:=A3.workers_le h;have hdl:(x.aq.getD 0 default).an.length≤16000000:=by simp only [Ae.w] at hw;omega
 refine zeP Tryz.func248 fun B b hH hp=>?_;refine Zk 0 3 2 rfl rfl (fun v2=>?_);refine A71 0 3 rfl rfl (fun ho_v2=>?_);refine J3 rfl (E5 0 rfl (E5 1 rfl (E5 2 rfl (E5 3 rfl (E5 5 rfl (E5 6 rfl (E5 7 rfl (E5 8 rfl (E5 13 rfl (E5 14 rfl ?_))))))))));refine On 9 ?_;refine Lt (s':=?_) 10 rfl Am ?_ ?_;rotate_left;refine Ah ?_;refine Hk 16 2 rfl (Em ?_);exact C2
 refine E5 11 rfl ?_;refine Wa (α:=Value) (s':=?_) 12 rfl Am ?_ ?_;rotate_left;refine Ah ?_;refine M9 A0 rfl (jn:=0) rfl rfl (fun v=>go A0 false ?_);conv=>whnf
 exact A3y v
 intro v;refine On 15 ?_;refine Nu [16,17,18,19,20] [⟨4,11,.rd v2⟩] Am ?_;refine My rfl Dt ?_;refine Lg (s':=?_) rfl Dt ?_ ?_;rotate_left;refine Ah ?_;refine B6 A0 rfl (I0 ((x.aq.getD 0 default).an++[⟨e,cap⟩])) (Ao rfl) Hd A7 (Ah ?_);exact C2
 refine Lg (s':=?_) rfl Dt ?_ ?_;rotate_left;refine Ah ?_;refine Hk 11 2 rfl (Em ?_);exact C2
 refine My rfl Dt ?_;refine Lg (s':=?_) rfl Dt ?_ ?_;rotate_left;refine Ah ?_;refine Bi (j:=0) A0 rfl (Af (x.aq.set 0 (Jw (x.aq.getD 0 default) ⟨e,cap⟩))) (Ht h0 rfl) (Ah ?_);exact C2
 refine Lr A0 Am Dt (GW.out (It ?_));conv=>whnf
 refine Zh 0 3 2 rfl rfl rfl ?_;refine Fx [7,8,9,10,11,12,13,14,15,16,17,18,19,20,21,22,23,24,25,26] (fun k:Nat=>[(6,.c (vi (k+1)))]) (fun k=>[⟨0,[.own 1,.c (vi x.az.aq),.c (vi x.az.cap),.own 2,.own 3,.own 4,.own 5,.c (vb ok)]⟩]) (fun k=>[⟨1,At x.az.ak⟩,⟨2,Af (x.aq.set 0 (Jw (x.aq.getD 0 default) ⟨e,cap⟩))⟩,⟨3,Ba x.ay⟩,⟨4,Aw x.ap⟩,⟨5,Bf (x.ac++Qi e cap k)⟩]) (fun k=>k≤(x.aq.length-1)) (fun k=>(x.aq.length-1)-k) fun k hk=>?_;refine Dv (fun hg=>?_) fun hg=>?_
 ·rw [K0] at hg
  refine B6 A0 rfl (Bf (x.ac++Qi e cap k++[⟨k+1,e,cap⟩])) (Ao rfl) Hd (by rw [D3,A20];omega) (Em ?_);refine Cc [(0,0),(1,1),(2,2),(3,3),(4,4),(5,10)] (k+1) A7 A7 ⟨by rw [Int.natCast_add];rfl,trivial⟩ ⟨rfl,rfl,rfl,rfl,by show (_:Ag)=_;rw [Zl,←Cr],trivial⟩
 rw [K0] at hg;refine As ?_;obtain rfl:k=x.aq.length-1:=by omega
 exact D15 (Mw A0 () trivial rfl rfl rfl rfl J0)
theorem D06 (c:A3)(e:Int)(t:Gg):(G5 c e t).w=c.w:=by simp only [A3.w,G5,K0]
set_option maxHeartbeats 4000000 in
theorem C4s (x:A3)(e:Int)(h:x.w≤16000000):MtR (fun _=>True) 189 [] (rc x) [.one (vi e)] (fun _:Unit=>True) (fun _=>rcb (D0 x e).1 (Au x)) (fun _=>[.one (vb (D0 x e).2)]):=by
 refine zeP Tryz.func189 fun B b hH hp=>?_;refine C1 (fun hC=>?_) fun hC=>?_
 ·refine As ?_
  rw [Uo (fun p=>by rw [show Au x=true from Dc p.1] at hC;exact absurd hC Bq)]
  exact Jf () trivial
 have hC:Ax x:=Bn (show Au x=true by simpa using hC)
 have hl0:1≤x.aq.length:=by have:=hC.1.2.1;have:=hC.1.1.2.1;omega
 have htl:x.ap.length=4:=hC.1.2.2.2;have hwl4:x.aq.length≤4:=by have:=hC.1.2.1;have:=hC.1.1.2.1;omega
 refine As ?_;refine Aq (Hg e 0 3) rfl (Gu ?_);refine C1 (fun hE=>?_) fun hE=>?_
 ·refine As ?_
  rw [Uo (fun p=>by have:=p.2.1;clear hC p;simp only [F4] at *;omega)];exact Jf () trivial
 have hE:0≤e∧e≤3:=by clear hC;simp only [F4] at *;omega
 refine As ?_;refine Aq (A83 x e A7) rfl (Gu ?_);refine C1 (fun hD=>?_) fun hD=>?_
 ·rw [Uo (fun p=>by have hd:Kr (x.aq.getD 0 default) e=false:=p.2.2.1;rw [Qp,Ak A7,hd] at hD;cases hD)]
  exact Jf () trivial
 have hD:Kr (A8 x 0) e=false:=by rw [Qp,Ak A7] at hD;exact hD
 have hTP:=hC.2.2.2.1 _ (Al (d:=default) (show e.toNat<x.ap.length by omega))
 have hat:0≤(x.ap.getD e.toNat default).aj∧(x.ap.getD e.toNat default).aj<x.aq.length:=by
  have:=hC.1.2.1
  have:=hTP.1
  omega
 have hj:(x.ap.getD e.toNat default).aj.toNat<x.aq.length:=by omega
 have hWP:=hC.2.1 _ (Al (d:=default) hj);refine B4 ?_;refine A4k A0 rfl hj rfl (fun u=>go A0 false ?_);conv=>whnf
 refine Aq (B0o (x.aq.getD (x.ap.getD e.toNat default).aj.toNat default) e (by have:=A3.worker_le h hj;omega)) rfl ?_
 cases hP:Lc (x.aq.getD (x.ap.getD e.toNat default).aj.toNat default) e
 ·refine Rt 2 ((x.ap.getD e.toNat default).aj.toNat) [(0,7),(1,8),(2,9),(3,10),(4,11),(5,12),(6,13),(7,14)] (Af x.aq) hj rfl rfl S7 rfl (Ct rfl) (It ?_)
  conv=>whnf
  refine As ?_;rw [Uo (fun p=>by have q:=p.2.2.2;rw [show A8 x (A4 x e).aj=x.aq.getD (x.ap.getD e.toNat default).aj.toNat default from rfl,hP] at q;cases q)]
  exact Jf () trivial
 have hT:Y2 x e:=⟨hC,hE,hD,hP⟩;obtain ⟨hL1,hL2,hL3⟩:=hWP.2.1;have hs1:=hTP.2.2;have htk:e.toNat<x.ap.length:=by omega
 have hbl:e.toNat<(A8 x (A4 x e).aj).ah.length:=by
  show e.toNat<(x.aq.getD (x.ap.getD e.toNat default).aj.toNat default).ah.length
  omega
 have hs2:Jk ((x.aq.getD (x.ap.getD e.toNat default).aj.toNat default).al.getD e.toNat default):=hWP.2.2.2.1 _ (Al A7);simp only [Jk] at hs2;refine Gu ?_
 first|(refine Aj 8 rfl [0,1,2,3,4,5,6,7,8] Am (Ah ?_))|(refine Aj 14 rfl [0,1,2,3,4,5,6,7,8,9,10,11,12,13,14,15,16,17,18,19,20] Am (Ah ?_))|(refine Aj 19 rfl [0,1,2,3,4,5,6,7,8,9,10,11,12,13,14,15,16,17,18,19,20,21,22,23,24,25,26,27,28,29] Am (Ah ?_))|(refine Aj 10 rfl [0,1,2,3,4,5,6,7,8] Am (Ah ?_))
 refine ⟨by (show _∧_;omega),?_⟩
 conv=>whnf
 refine ⟨by (show _∧_;omega),?_⟩
 conv=>whnf
 refine C1 (fun hg=>?_) fun hg=>?_
 ·have hg:(A4 x e).bz=false:=by simpa [A4] using hg
  have hA:(A4 x e).aj=0:=hTP.2.1 hg
  first|(refine Aj 8 rfl [0,1,2,3,4,5,6,7,8] Am (Ah ?_))|(refine Aj 14 rfl [0,1,2,3,4,5,6,7,8,9,10,11,12,13,14,15,16,17,18,19,20] Am (Ah ?_))|(refine Aj 19 rfl [0,1,2,3,4,5,6,7,8,9,10,11,12,13,14,15,16,17,18,19,20,21,22,23,24,25,26,27,28,29] Am (Ah ?_))|(refine Aj 10 rfl [0,1,2,3,4,5,6,7,8] Am (Ah ?_))
  refine B4 ?_;refine Bi (j:=e) A0 rfl (Aw (x.ap.set e.toNat ⟨true,(x.aq.length:Int)-1,0,false,(A8 x (A4 x e).aj).ai.getD e.toNat default⟩)) (Cm htk rfl) ?_;refine Rt 2 ((x.ap.getD e.toNat default).aj.toNat) [(0,7),(1,8),(2,9),(3,10),(4,11),(5,12),(6,13),(7,14)] (Af x.aq) hj rfl rfl S7 rfl (Ct rfl) (It ?_);conv=>whnf
  refine ⟨by exact ⟨Tj 0,by show (0:Int)<(x.aq.length:Int);omega⟩,?_⟩
  conv=>whnf
  refine M9 A0 rfl (jn:=(x.ap.getD e.toNat default).aj.toNat) (by rw [show (x.ap.getD e.toNat default).aj=0 from hA]) rfl (fun v=>go A0 false ?_)
  conv=>whnf
  refine B4 ?_;refine Bi (j:=e) A0 rfl (Df ((A8 x (A4 x e).aj).ah.set e.toNat false)) (Cm hbl rfl) (Ah ?_);rw [B2p hT hg];refine Gb Tryz.prog 2 ((x.ap.getD e.toNat default).aj.toNat) [(5,16)] (Af (x.aq.set (x.ap.getD e.toNat default).aj.toNat (Kc (A8 x (A4 x e).aj) e))) hj rfl S7 rfl (Hx hj rfl) ?_;exact Jf () trivial
 have hg:(A4 x e).bz=true:=by simpa [A4] using hg
 refine C1 (fun hA=>?_) fun hA=>?_
 ·have hA:(A4 x e).aj>0:=Bn hA
  refine Aq (Hg ((x.ap.getD e.toNat default).sum+(x.aq.getD (x.ap.getD e.toNat default).aj.toNat default).al.getD e.toNat default) (-1000000) 1000000) rfl (Gu ?_);refine C1 (fun hS=>?_) fun hS=>?_
  ·rw [C2f hT hg hA (fun p=>by simp only [Jk,A4,A8] at p;simp only [F4] at *;omega)]
   refine Gb Tryz.prog 2 ((x.ap.getD e.toNat default).aj.toNat) [(0,7),(1,8),(2,9),(3,10),(4,11),(5,12),(6,13),(7,14)] (Af x.aq) hj rfl S7 rfl (Ct rfl) ?_;exact Jf () trivial
  have hS:Jk ((A4 x e).sum+(A8 x (A4 x e).aj).al.getD e.toNat default):=by simp only [Jk,A4,A8];simp only [F4] at *;omega
  first|(refine Aj 8 rfl [0,1,2,3,4,5,6,7,8] Am (Ah ?_))|(refine Aj 14 rfl [0,1,2,3,4,5,6,7,8,9,10,11,12,13,14,15,16,17,18,19,20] Am (Ah ?_))|(refine Aj 19 rfl [0,1,2,3,4,5,6,7,8,9,10,11,12,13,14,15,16,17,18,19,20,21,22,23,24,25,26,27,28,29] Am (Ah ?_))|(refine Aj 10 rfl [0,1,2,3,4,5,6,7,8] Am (Ah ?_))
  refine B4 ?_;refine C1 (fun hb=>?_) fun hb=>?_
  ·have hb:(A4 x e).ah=true:=hb
   refine As ?_;refine C1 (fun hc=>?_) fun hc=>?_
   ·have hc:(A4 x e).ao=true:=hc
    refine As ?_;refine Bi (j:=e) A0 rfl (Aw (x.ap.set e.toNat ⟨true,(A4 x e).aj-1,(A4 x e).sum+(A8 x (A4 x e).aj).al.getD e.toNat default,(A4 x e).ah||(A8 x (A4 x e).aj).ah.getD e.toNat default,(A4 x e).ao||(A8 x (A4 x e).aj).ai.getD e.toNat default⟩)) (Cm htk (by rw [hb,hc];rfl)) ?_;refine Rt 2 ((x.ap.getD e.toNat default).aj.toNat) [(0,7),(1,8),(2,9),(3,10),(4,11),(5,12),(6,13),(7,14)] (Af x.aq) hj rfl rfl S7 rfl (Ct rfl) (It ?_);conv=>whnf
    refine B4 ?_;refine M9 A0 rfl (jn:=(x.ap.getD e.toNat default).aj.toNat) rfl rfl (fun v=>go A0 false ?_);conv=>whnf
    refine B4 ?_;refine Bi (j:=e) A0 rfl (Df ((A8 x (A4 x e).aj).ah.set e.toNat false)) (Cm hbl rfl) (Ah ?_);rw [P3 hT hg hA hS];refine Gb Tryz.prog 2 ((x.ap.getD e.toNat default).aj.toNat) [(5,16)] (Af (x.aq.set (x.ap.getD e.toNat default).aj.toNat (Kc (A8 x (A4 x e).aj) e))) hj rfl S7 rfl (Hx hj rfl) ?_;exact Jf () trivial
   have hc:(A4 x e).ao=false:=hc;refine As ?_;refine Bi (j:=e) A0 rfl (Aw (x.ap.set e.toNat ⟨true,(A4 x e).aj-1,(A4 x e).sum+(A8 x (A4 x e).aj).al.getD e.toNat default,(A4 x e).ah||(A8 x (A4 x e).aj).ah.getD e.toNat default,(A4 x e).ao||(A8 x (A4 x e).aj).ai.getD e.toNat default⟩)) (Cm htk (by rw [hb,hc];rfl)) ?_;refine Rt 2 ((x.ap.getD e.toNat default).aj.toNat) [(0,7),(1,8),(2,9),(3,10),(4,11),(5,12),(6,13),(7,14)] (Af x.aq) hj rfl rfl S7 rfl (Ct rfl) (It ?_);conv=>whnf
   refine B4 ?_;refine M9 A0 rfl (jn:=(x.ap.getD e.toNat default).aj.toNat) rfl rfl (fun v=>go A0 false ?_);conv=>whnf
   refine B4 ?_;refine Bi (j:=e) A0 rfl (Df ((A8 x (A4 x e).aj).ah.set e.toNat false)) (Cm hbl rfl) (Ah ?_);rw [P3 hT hg hA hS];refine Gb Tryz.prog 2 ((x.ap.getD e.toNat default).aj.toNat) [(5,16)] (Af (x.aq.set (x.ap.getD e.toNat default).aj.toNat (Kc (A8 x (A4 x e).aj) e))) hj rfl S7 rfl (Hx hj rfl) ?_;exact Jf () trivial
  have hb:(A4 x e).ah=false:=hb;refine As ?_;refine C1 (fun hc=>?_) fun hc=>?_
  ·have hc:(A4 x e).ao=true:=hc
   refine As ?_;refine Bi (j:=e) A0 rfl (Aw (x.ap.set e.toNat ⟨true,(A4 x e).aj-1,(A4 x e).sum+(A8 x (A4 x e).aj).al.getD e.toNat default,(A4 x e).ah||(A8 x (A4 x e).aj).ah.getD e.toNat default,(A4 x e).ao||(A8 x (A4 x e).aj).ai.getD e.toNat default⟩)) (Cm htk (by rw [hb,hc];rfl)) ?_;refine Rt 2 ((x.ap.getD e.toNat default).aj.toNat) [(0,7),(1,8),(2,9),(3,10),(4,11),(5,12),(6,13),(7,14)] (Af x.aq) hj rfl rfl S7 rfl (Ct rfl) (It ?_);conv=>whnf
   refine B4 ?_;refine M9 A0 rfl (jn:=(x.ap.getD e.toNat default).aj.toNat) rfl rfl (fun v=>go A0 false ?_);conv=>whnf
   refine B4 ?_;refine Bi (j:=e) A0 rfl (Df ((A8 x (A4 x e).aj).ah.set e.toNat false)) (Cm hbl rfl) (Ah ?_);rw [P3 hT hg hA hS];refine Gb Tryz.prog 2 ((x.ap.getD e.toNat default).aj.toNat) [(5,16)] (Af (x.aq.set (x.ap.getD e.toNat default).aj.toNat (Kc (A8 x (A4 x e).aj) e))) hj rfl S7 rfl (Hx hj rfl) ?_;exact Jf () trivial
  have hc:(A4 x e).ao=false:=hc;refine As ?_;refine Bi (j:=e) A0 rfl (Aw (x.ap.set e.toNat ⟨true,(A4 x e).aj-1,(A4 x e).sum+(A8 x (A4 x e).aj).al.getD e.toNat default,(A4 x e).ah||(A8 x (A4 x e).aj).ah.getD e.toNat default,(A4 x e).ao||(A8 x (A4 x e).aj).ai.getD e.toNat default⟩)) (Cm htk (by rw [hb,hc];rfl)) ?_;refine Rt 2 ((x.ap.getD e.toNat default).aj.toNat) [(0,7),(1,8),(2,9),(3,10),(4,11),(5,12),(6,13),(7,14)] (Af x.aq) hj rfl rfl S7 rfl (Ct rfl) (It ?_);conv=>whnf
  refine B4 ?_;refine M9 A0 rfl (jn:=(x.ap.getD e.toNat default).aj.toNat) rfl rfl (fun v=>go A0 false ?_);conv=>whnf
  refine B4 ?_;refine Bi (j:=e) A0 rfl (Df ((A8 x (A4 x e).aj).ah.set e.toNat false)) (Cm hbl rfl) (Ah ?_);rw [P3 hT hg hA hS];refine Gb Tryz.prog 2 ((x.ap.getD e.toNat default).aj.toNat) [(5,16)] (Af (x.aq.set (x.ap.getD e.toNat default).aj.toNat (Kc (A8 x (A4 x e).aj) e))) hj rfl S7 rfl (Hx hj rfl) ?_;exact Jf () trivial
 have hA:¬ (A4 x e).aj>0:=Cv hA
 have hz:(x.ap.getD e.toNat default).aj=0:=by
  have:¬ (x.ap.getD e.toNat default).aj>0:=hA
  omega
 have hsw:(G5 x e ⟨false,(A4 x e).aj,(A4 x e).sum,(A4 x e).ah,(A4 x e).ao⟩).w≤16000000:=by rw [D06];exact h
 first|(refine Aj 8 rfl [0,1,2,3,4,5,6,7,8] Am (Ah ?_))|(refine Aj 14 rfl [0,1,2,3,4,5,6,7,8,9,10,11,12,13,14,15,16,17,18,19,20] Am (Ah ?_))|(refine Aj 19 rfl [0,1,2,3,4,5,6,7,8,9,10,11,12,13,14,15,16,17,18,19,20,21,22,23,24,25,26,27,28,29] Am (Ah ?_))|(refine Aj 10 rfl [0,1,2,3,4,5,6,7,8] Am (Ah ?_))
 refine B4 ?_;refine Bi (j:=e) A0 rfl (Aw (x.ap.set e.toNat ⟨false,(A4 x e).aj,(A4 x e).sum,(A4 x e).ah,(A4 x e).ao⟩)) (Cm htk rfl) ?_;refine Ah ?_;refine C1 (fun hb=>?_) fun hb=>?_
 ·have hb:(A4 x e).ah=false:=by simpa [A4] using hb
  refine As ?_;refine C1 (fun hw=>?_) fun hw=>?_
  ·have hw:(A8 x (A4 x e).aj).ah.getD e.toNat default=false:=by simpa [A4,A8] using hw
   refine As ?_;refine C1 (fun hs=>?_) fun hs=>?_
   ·have hs:(A4 x e).sum+(A8 x (A4 x e).aj).al.getD e.toNat default=0:=eq_of_beq hs
    have hyes:=And.intro hb (And.intro hw hs);refine As ?_
    have hw0:A8 x (A4 x e).aj=x.aq.getD 0 default:=by
     show x.aq.getD (x.ap.getD e.toNat default).aj.toNat default=_
     rw [hz];rfl
    refine C1 (fun hc=>?_) fun hc=>?_
    ·have hc:(A4 x e).ao=true:=hc
     have hcap:((A4 x e).ao||(A8 x (A4 x e).aj).ai.getD e.toNat default)=true:=by rw [hc];rfl
     refine As ?_;refine C0c 2 ((x.ap.getD e.toNat default).aj.toNat) [(0,7),(1,8),(2,9),(3,10),(4,11),(5,12),(6,13),(7,14)] (Af x.aq) hj rfl rfl S7 rfl (Ct rfl) ?_;refine M4 (B7w (G5 x e ⟨false,(A4 x e).aj,(A4 x e).sum,(A4 x e).ah,(A4 x e).ao⟩) e true (Au x) hsw hl0) hH hp fun r hr=>?_;rw [Ol hT hg hA,Kz,Ak hyes,hcap,show Jw (A8 x (A4 x e).aj)=Jw (x.aq.getD 0 default) by rw [hw0]]
     exact Jf () trivial
    have hc:(A4 x e).ao=false:=hc;have hcap:((A4 x e).ao||(A8 x (A4 x e).aj).ai.getD e.toNat default)=(A8 x (A4 x e).aj).ai.getD e.toNat default:=by rw [hc];rfl
    refine As ?_;refine C0c 2 ((x.ap.getD e.toNat default).aj.toNat) [(0,7),(1,8),(2,9),(3,10),(4,11),(5,12),(6,13),(7,14)] (Af x.aq) hj rfl rfl S7 rfl (Ct rfl) ?_;refine M4 (B7w (G5 x e ⟨false,(A4 x e).aj,(A4 x e).sum,(A4 x e).ah,(A4 x e).ao⟩) e ((A8 x (A4 x e).aj).ai.getD e.toNat default) (Au x) hsw hl0) hH hp fun r hr=>?_;rw [Ol hT hg hA,Kz,Ak hyes,hcap,show Jw (A8 x (A4 x e).aj)=Jw (x.aq.getD 0 default) by rw [hw0]]
    exact Jf () trivial
   have hs:(A4 x e).sum+(A8 x (A4 x e).aj).al.getD e.toNat default≠0:=Ti.1 hs;have hno:¬ ((A4 x e).ah=false∧(A8 x (A4 x e).aj).ah.getD e.toNat default=false∧(A4 x e).sum+(A8 x (A4 x e).aj).al.getD e.toNat default=0):=fun p=>hs p.2.2
   refine As ?_;rw [Ol hT hg hA,Kz,Ab hno];refine Gb Tryz.prog 2 ((x.ap.getD e.toNat default).aj.toNat) [(0,7),(1,8),(2,9),(3,10),(4,11),(5,12),(6,13),(7,14)] (Af x.aq) hj rfl S7 rfl (Ct rfl) ?_;exact Jf () trivial
  have hw:(A8 x (A4 x e).aj).ah.getD e.toNat default=true:=by simpa [A4,A8] using hw
  have hno:¬ ((A4 x e).ah=false∧(A8 x (A4 x e).aj).ah.getD e.toNat default=false∧(A4 x e).sum+(A8 x (A4 x e).aj).al.getD e.toNat default=0):=fun p=>by rw [hw] at p;exact absurd p.2.1 Bq
  refine As ?_;rw [Ol hT hg hA,Kz,Ab hno];refine Gb Tryz.prog 2 ((x.ap.getD e.toNat default).aj.toNat) [(0,7),(1,8),(2,9),(3,10),(4,11),(5,12),(6,13),(7,14)] (Af x.aq) hj rfl S7 rfl (Ct rfl) ?_;exact Jf () trivial
 have hb:(A4 x e).ah=true:=by simpa [A4] using hb
 have hno:¬ ((A4 x e).ah=false∧(A8 x (A4 x e).aj).ah.getD e.toNat default=false∧(A4 x e).sum+(A8 x (A4 x e).aj).al.getD e.toNat default=0):=fun p=>by rw [hb] at p;exact absurd p.1 Bq
 refine As ?_;rw [Ol hT hg hA,Kz,Ab hno];refine Gb Tryz.prog 2 ((x.ap.getD e.toNat default).aj.toNat) [(0,7),(1,8),(2,9),(3,10),(4,11),(5,12),(6,13),(7,14)] (Af x.aq) hj rfl S7 rfl (Ct rfl) ?_;exact Jf () trivial
theorem B2j (x:A3)(h:x.w≤16000000):B2t Tryz.prog 96 [] [.agg x.c] (fun _:Unit=>True) (fun _=>rc x):=by
 refine C6c A0 false Tryz.func96 rfl Bq fun W hp=>?_;conv=>whnf
 first|(refine Aj 1 rfl [0,2,1,3,4,5,6] Am (Ah ?_))
 refine Gf (A47 x A7) ?_;refine Fp (B0l x A7) ?_;exact D2k A0 () trivial rfl rfl rfl (by repeat' (first|exact trivial|exact rfl|exact .inr ⟨rfl,rfl,_,_,rfl⟩|refine ⟨?_,?_⟩))
end Go.Proofs.YtmhcebdkjgkmlaaGreatDoor
