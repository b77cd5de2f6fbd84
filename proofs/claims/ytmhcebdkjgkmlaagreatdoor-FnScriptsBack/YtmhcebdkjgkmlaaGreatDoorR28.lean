/- Part 28 of the proof that each of the laws FnScriptsBack returns true for every input. No conditions. -/
import Derived.Test.YtmhcebdkjgkmlaaGreatDoorR27
import Derived.Test.YtmhcebdkjgkmlaaGreatDoorR12

set_option linter.unusedSimpArgs false
set_option linter.unusedVariables false
set_option maxRecDepth 100000
namespace Go.Proofs.YtmhcebdkjgkmlaaGreatDoor
open Go.Sx
theorem D1n (s:ByteArray)(hs:s.size≤1048576):Ex Tryz.prog Tab 79 [.one (vs s),.one (vs (⟨#[10]⟩:ByteArray))] [.one (En (Bh s))]:=by
 refine ⟨⟨_,Tryz.func79,by decide,rfl⟩,fun w hw vals hl hv=>?_⟩
 match vals,hl with
 | [v,v2],_=>
  have h0:v= .string s:=U1 (A:=fun _=>False) (hv 0 _ rfl);have h1:v2= .string ⟨#[10]⟩:=U1 (A:=fun _=>False) (hv 1 _ rfl);subst h0 h1;have hlen:=A41 s;obtain ⟨m,hm⟩:=hw.2.2.2.2;refine (Any.strings_Split {B2a with} B2a.i9 s ⟨#[10]⟩ m w A7 hm Bk).mono ?_
  rintro e w' ⟨rfl,rfl⟩
  rw [A7q];have hn:Lib.countB s ⟨#[10]⟩+1=(Bh s).length:=by rw [←A7q,Lib.splitB_all ⟨#[10]⟩ Bk 0 _ s rfl]
  rw [hn];refine ⟨Jc w _,[_],fun _=>[w.heap.size],rfl,rfl,fun i y hi=>?_,fun i hi=>⟨by simp,fun b hb=>by rw [Hh.1 hb];exact Bu _⟩,fun i j hi hj hne=>by simp at hi hj;omega⟩
  have hsz:(((Bh s).map Value.string).toArray).size=(Bh s).length:=by rw [Gh,Oy]
  match i,hi with
  | 0,hi=>
   simp only [H3,Em] at hi;subst hi;have heq1:∀o:Obj,(w.alloc o).heap[w.heap.size]? =some o:=fun o=>Array.getElem?_push_size
   have hr:∀ty:TypeId,Bz (w.alloc (.cells ((Bh s).map Value.string).toArray ty)) (.sl (Bh s).length 1 fun i=>[vs ((Bh s).getD i default)]) (.slice (some ⟨w.heap.size,0 * 1,none⟩) (Bh s).length (Bh s).length) (w.heap.size::(List.range ((Bh s).length * 1)).flatMap fun _=>[]):=
    fun ty=> .sl (Bh s).length 1 _ w.heap.size 0 (Bh s).length ty _ (fun _=>[]) (Bu _) (by unfold maxLen;omega) (heq1 _) (by rw [Rw,Nat.mul_one];exact Nat.le_of_eq hsz.symm) (fun i hi=>rfl) (fun i j c hi hj=>by
     match j,hj with
     | 0,hj=>
      simp only [H3,Em] at hj;subst hj
      have e:(((Bh s).map Value.string).toArray).getD ((0+i) * 1+0) undef= .string ((Bh s).getD i default):=by
       simp [List.getD,hi]
      rw [e];exact .val _ rfl
     |j+1,hj=>simp at hj)
   have hf:(List.range ((Bh s).length * 1)).flatMap (fun _=>([]:List Nat))=[]:=by simp
   simp only [hf] at hr;exact hr _
  |i+1,hi=>simp at hi
structure D0s where
 i:Nat
 b:Nat
 out:List ByteArray
def B3g (s:ByteArray) (j:D0s):Prop:=j.i≤s.size+1∧j.out.length≤j.i∧
 (j.i≤s.size→j.b≤j.i∧Nk [] s.data.toList=j.out.map (·.data.toList)++Nk (s.extract j.b j.i).data.toList (s.data.toList.drop j.i))∧(¬ j.i≤s.size→j.out=Bh s)
theorem C1p (s:ByteArray):B3g s ⟨0,0,[]⟩:=⟨Ff _,Bu _,fun _=>⟨Bu _,by
 rw [L4 s 0 0 (Ff _)];rfl⟩,fun h=>(h (Ff _)).elim⟩
theorem toList_inj:∀{a b:List ByteArray},a.map (·.data.toList)=b.map (·.data.toList)→a=b
 | [],[],_=>rfl
 | [],_::_,h=>by simp at h
 |_::_,[],h=>by simp at h
 |x::a,y::b,h=>by
  simp only [I8,Nf] at h;rw [toList_inj h.2,show x=y from Qx (Ul.1 h.1)]
variable {s : ByteArray} {j : D0s}
theorem C4p (h:B3g s j)(hi:j.i=s.size):B3g s ⟨j.i+1,j.i+1,j.out++[s.extract j.b j.i]⟩:=by
 obtain ⟨h1,h2,h3,_⟩:=h;refine ⟨by show j.i+1≤_;omega,by simp only [Dn,Jb];omega,fun h=>by have h:j.i+1≤s.size:=h;omega,fun _=>?_⟩
 obtain ⟨_,e⟩:=h3 A7;have hl:s.data.toList.length=s.size:=Nr;rw [List.drop_of_length_le A7,Nk] at e
 apply toList_inj
 rw [Uu,List.map_singleton,←e,Bh,We];exact (List.map_id' _).symm
theorem C4q (h:B3g s j)(hi:j.i<s.size)(hb:C3 s j.i=10):B3g s ⟨j.i+1,j.i+1,j.out++[s.extract j.b j.i]⟩:=by
 obtain ⟨h1,h2,h3,_⟩:=h;refine ⟨by show j.i+1≤_;omega,by simp only [Dn,Jb];omega,fun _=>⟨Bu _,?_⟩,fun h=>absurd (show j.i+1≤s.size by omega) h⟩
 obtain ⟨_,e⟩:=h3 A7;rw [Th hi,Nk,Ah hb] at e;have hz:(s.extract (j.i+1) (j.i+1)).data.toList=[]:=by rw [L4 s _ _ A7];simp
 show _=(j.out++[s.extract j.b j.i]).map (·.data.toList)++Nk (s.extract (j.i+1) (j.i+1)).data.toList _
 rw [e,hz,Uu,Ci];rfl
theorem C1o (h:B3g s j)(hi:j.i<s.size)(hb:C3 s j.i≠10):B3g s ⟨j.i+1,j.b,j.out⟩:=by
 obtain ⟨h1,h2,h3,_⟩:=h;refine ⟨by show j.i+1≤_;omega,by show j.out.length≤j.i+1;omega,fun _=>⟨?_,?_⟩,fun h=>absurd (show j.i+1≤s.size by omega) h⟩
 ·have:=(h3 A7).1;show j.b≤j.i+1;omega
 obtain ⟨hb',e⟩:=h3 A7;rw [Th hi,Nk,Ab hb,L4 s _ _ A7,←A7a hi hb',←L4 s _ _ A7] at e;exact e
theorem C95 (s:ByteArray)(hs:s.size≤1048576):Df 84 [.one (vs s)] [.one (En (Bh s))]:=by
 refine Dy Tryz.func84 fun W=>?_;refine Fi 0 (En []) rfl (Cc rfl Td) ?_;refine zlW [6] (fun j:D0s=>[(5,.c (vi j.i)),(4,.c (vi j.b))]) (fun j=>[]) (fun j=>[⟨0,En j.out⟩]) (fun j=>B3g s j) (fun j=>s.size+1-j.i) (⟨0,0,[]⟩) (C1p s) fun j hj=>?_;have hj1:=hj.1;have hj2:=hj.2.1;refine E3 (fun h=>?_) fun h=>?_
 ·have h:j.i≤s.size:=by omega
  refine B6 ?_;have hb:=(hj.2.2.1 h).1;refine Mf (fun c=>?_) fun c=>?_
  ·have c:j.i=s.size:=by omega
   refine Ar ?_;refine Ar ?_;refine A38 A0 rfl rfl rfl rfl rfl rfl rfl ⟨by omega,by omega,by omega⟩ (Ag ?_);refine Bg A0 rfl (En (j.out++[s.extract j.b j.i])) (An rfl) Ij A7 (F1 ?_);refine Co [(0,2)] (⟨j.i+1,j.i+1,j.out++[s.extract j.b j.i]⟩) (C4p hj c) (by show s.size+1-(j.i+1)<_;omega) ⟨rfl,rfl,trivial⟩ ⟨rfl,trivial⟩
  have hlt:j.i<s.size:=by omega
  refine Ar ?_;refine Mf (fun e=>?_) fun e=>?_
  ·have e:C3 s j.i=10:=UInt8.toNat_inj.1 (by show _=10;exact Int.ofNat.inj e)
   refine A38 A0 rfl rfl rfl rfl rfl rfl rfl ⟨by omega,by omega,by omega⟩ (Ag ?_);refine Bg A0 rfl (En (j.out++[s.extract j.b j.i])) (An rfl) Ij A7 (F1 ?_);refine Co [(0,2)] (⟨j.i+1,j.i+1,j.out++[s.extract j.b j.i]⟩) (C4q hj hlt e) (by show s.size+1-(j.i+1)<_;omega) ⟨rfl,rfl,trivial⟩ ⟨rfl,trivial⟩
  have e:C3 s j.i≠10:=fun c=>e (by show ((C3 s j.i).toNat:Int)=_;rw [c];rfl)
  refine B6 ?_;refine Co [] (⟨j.i+1,j.b,j.out⟩) (C1o hj hlt e) (by show s.size+1-(j.i+1)<_;omega) ⟨rfl,rfl,trivial⟩ ⟨rfl,trivial⟩
 exact Af A0 rfl rfl ⟨by exact A6 En (hj.2.2.2 A7),trivial⟩
def Uy (s:B5) (l:ByteArray) (r:B5×Bool):Prop:=r=if Ji s l=true then (Ns s l,true) else (s,false)
variable {s : B5} {l : ByteArray}
theorem C0x (c:Dw l=true)(d:s.az.ay.length<8):Uy s l (⟨⟨s.az.ay++[G3 l],s.az.aq,s.az.cap⟩,s.ap,s.an,s.aa⟩,true):=by
 have e:Ji s l=true:=by rw [Ji,Ah c];exact D7 d
 rw [Uy,Ah e,Ns,Ah c]
theorem C7y (c:Gp l=true)(cn:Dw l=false)(d:s.ap.length<20):Uy s l (⟨s.az,s.ap++[Kj l],s.an,s.aa⟩,true):=by
 have e:Ji s l=true:=by rw [Ji,Ab (by rw [cn];decide),Ah c];exact D7 d
 rw [Uy,Ah e,Ns,Ab (by rw [cn];decide),Ah c]
theorem C0y (c:Eo l=true)(cn:Dw l=false)(ci:Gp l=false)(d:s.an.length<200):Uy s l (⟨s.az,s.ap,s.an++[G4 l],s.aa⟩,true):=by
 have e:Ji s l=true:=by rw [Ji,Ab (by rw [cn];decide),Ab (by rw [ci];decide),Ah c];exact D7 d
 rw [Uy,Ah e,Ns,Ab (by rw [cn];decide),Ab (by rw [ci];decide),Ah c]
def A2j (s:B5) (l:ByteArray):Prop:=Ji s l=decide (Q3 l)∧(Q3 l→Ns s l=⟨s.az,s.ap,s.an,Pw ((A4 l).getD 1 default)⟩)
theorem B69 (c:Dw l=true)(d:¬ s.az.ay.length<8):A2j s l:=by
 have cn:=(Vr c).2.2;exact ⟨by rw [Ji,Ah c,Cx cn,Cx d],fun h=>(cn h).elim⟩
theorem C45 (c:Gp l=true)(cn:Dw l=false)(d:¬ s.ap.length<20):A2j s l:=by
 have ci:=(B17 c).2;exact ⟨by rw [Ji,Ab (by rw [cn];decide),Ah c,Cx ci,Cx d],fun h=>(ci h).elim⟩
theorem B7a (c:Eo l=true)(cn:Dw l=false)(ci:Gp l=false)(d:¬ s.an.length<200):A2j s l:=by
 have cp:=B5e c;exact ⟨by rw [Ji,Ab (by rw [cn];decide),Ab (by rw [ci];decide),Ah c,Cx cp,Cx d],fun h=>(cp h).elim⟩
theorem A48 (cn:Dw l=false)(ci:Gp l=false)(cp:Eo l=false):A2j s l:=
 ⟨by rw [Ji,Ab (by rw [cn];decide),Ab (by rw [ci];decide),Ab (by rw [cp];decide)],fun _=>by rw [Ns,Ab (by rw [cn];decide),Ab (by rw [ci];decide),Ab (by rw [cp];decide)]⟩
theorem Hd (h:A2j s l)(hf:¬ Q3 l):Uy s l (s,false):=by
 rw [Uy,h.1,Cx hf,Ab Bk]
theorem Wx (h:A2j s l)(hf:Q3 l):Uy s l (⟨s.az,s.ap,s.an,Pw ((A4 l).getD 1 default)⟩,true):=by
 rw [Uy,h.1,D7 hf,Ah rfl,h.2 hf]
set_option maxHeartbeats 2000000 in
theorem C94 (s:B5)(l:ByteArray)(hs:Zf s)(hl:l.size≤1048576)(hpt:Gk l=true):MtR HT 86 [] s.c [.one (vs l),.one (En (A4 l))] (Uy s l) (fun r=>r.1.c) (fun r=>[.one (vb r.2)]):=by
 obtain ⟨n1,n2,n3,n4⟩:=hs;refine zeP Tryz.func86 fun B b hH hp=>?_;conv=>whnf
 refine Hp (B2z l hl) ?_;refine Hp (A9f l hl) ?_;refine Hp (B20 l hl) ?_;refine C2 (fun c=>?_) fun c=>?_
 ·obtain ⟨c1,c2,_⟩:=Vr c
  refine Ar ?_;refine E3 (fun d=>?_) fun d=>?_
  ·have d:s.az.ay.length<8:=by omega
   refine Ar ?_;refine Oj rfl (I0 0 rfl (I0 1 rfl (I0 2 rfl (I0 3 rfl (I0 4 rfl (R0 5 6 ?_ ?_))))))
   focus
    refine Aq (Ms 6 ?_);refine Aq (Ms 7 ?_);refine Lg A0 rfl rfl rfl rfl (I7 ?_)
   rotate_left 1
   focus
    refine Aq (R0 5 7 ?_ ?_)
    focus
     refine Aq (Ms 7 ?_);refine Lg A0 rfl rfl rfl rfl (I7 ?_)
    rotate_left 1
    focus
     refine Lg A0 rfl rfl rfl rfl (Ag ?_);refine Aq ?_;refine Au [5] Ak ⟨?_,trivial⟩;refine go A0 false ?_
   all_goals
    conv=>whnf
    refine Aq (Ms 8 ?_);refine Bg A0 rfl (Ay (s.az.ay++[G3 l])) (An rfl) Ij A7 (Ag ?_);refine Aq (I0 9 rfl (I0 10 rfl (I0 11 rfl (Ms 12 ?_))));refine Aq (Oi Ak (Ag ?_))
   all_goals exact Ke A0 (⟨⟨s.az.ay++[G3 l],s.az.aq,s.az.cap⟩,s.ap,s.an,s.aa⟩,true) (C0x c d) rfl rfl rfl rfl I1
  have hf:=B69 c (show ¬ s.az.ay.length<8 by omega)
  refine Ar ?_;have hp0:=G9 l;have hp1:=H9 l;refine Mf (fun g=>?_) fun g=>?_
  ·have g:(A4 l).length=2:=by omega
   have hx1:=hp0 _ (Am (d:=default) (show 1<(A4 l).length by omega))
   refine Ar ?_;refine C2 (fun g2=>?_) fun g2=>?_
   ·have g2:H2 l=(⟨#[102,97,105,114]⟩:ByteArray):=Lq g2
    refine Ar ?_;refine Fh (Ha ((A4 l).getD 1 default) A7) ?_;refine C2 (fun g3=>?_) fun g3=>?_
    ·have g3:Ty ((A4 l).getD 1 default)=false:=by simpa using g3
     refine Ar ?_;exact Iy (s,false) (Hd hf (fun h=>by have:=h.2.2.2.1;rw [g3] at this;cases this))
    have g3:Ty ((A4 l).getD 1 default)=true:=by simpa using g3
    refine Ar ?_;refine E3 (fun g4=>?_) fun g4=>?_
    ·refine Ar ?_
     exact Iy (s,false) (Hd hf (fun h=>by have:=h.2.2.2.2;omega))
    refine Ar ?_;exact Iy (⟨s.az,s.ap,s.an,Pw ((A4 l).getD 1 default)⟩,true) (Wx hf ⟨hpt,g,g2,g3,by omega⟩)
   have g2:H2 l≠(⟨#[102,97,105,114]⟩:ByteArray):=fun e=>by rw [show (A4 l).getD (Int.toNat 0) default=(⟨#[102,97,105,114]⟩:ByteArray) from e,Fm] at g2;cases g2
   refine Ar ?_;exact Iy (s,false) (Hd hf (fun h=>g2 h.2.2.1))
  refine Ar ?_;exact Iy (s,false) (Hd hf (fun h=>by have:=h.2.1;omega))
 have c:Dw l=false:=by simpa using c
 refine Ar ?_;refine C2 (fun c1=>?_) fun c1=>?_
 ·refine Ar ?_
  obtain ⟨c2,_⟩:=B17 c1;refine E3 (fun d=>?_) fun d=>?_
  ·have d:s.ap.length<20:=by omega
   refine Ar ?_;refine Oj rfl (I0 0 rfl (I0 1 rfl (I0 2 rfl (I0 3 rfl (R0 4 5 ?_ ?_)))))
   focus
    refine Aq (Ms 5 ?_);refine Aq ?_;refine Au [6] Ak ⟨?_,trivial⟩
   rotate_left 1
   focus
    refine Aq (R0 4 6 ?_ ?_)
    focus
     refine Aq ?_;refine Au [6] Ak ⟨?_,trivial⟩
    rotate_left 1
    focus
     refine Aq ?_;refine Au [4] Ak ⟨?_,trivial⟩
   all_goals
    refine Ag ?_;refine Aq (Ms 7 ?_);refine Bg A0 rfl (Aa (s.ap++[Kj l])) (An rfl) Ij A7 (Ag ?_);refine Aq (I0 8 rfl (I0 9 rfl (Ms 10 ?_)));refine Aq (Oi Ak (Ag ?_))
   all_goals exact Ke A0 (⟨s.az,s.ap++[Kj l],s.an,s.aa⟩,true) (C7y c1 c d) rfl rfl rfl rfl I1
  have hf:=C45 c1 c (show ¬ s.ap.length<20 by omega)
  refine Ar ?_;have hp0:=G9 l;have hp1:=H9 l;refine Mf (fun g=>?_) fun g=>?_
  ·have g:(A4 l).length=2:=by omega
   have hx1:=hp0 _ (Am (d:=default) (show 1<(A4 l).length by omega))
   refine Ar ?_;refine C2 (fun g2=>?_) fun g2=>?_
   ·have g2:H2 l=(⟨#[102,97,105,114]⟩:ByteArray):=Lq g2
    refine Ar ?_;refine Fh (Ha ((A4 l).getD 1 default) A7) ?_;refine C2 (fun g3=>?_) fun g3=>?_
    ·have g3:Ty ((A4 l).getD 1 default)=false:=by simpa using g3
     refine Ar ?_;exact Iy (s,false) (Hd hf (fun h=>by have:=h.2.2.2.1;rw [g3] at this;cases this))
    have g3:Ty ((A4 l).getD 1 default)=true:=by simpa using g3
    refine Ar ?_;refine E3 (fun g4=>?_) fun g4=>?_
    ·refine Ar ?_
     exact Iy (s,false) (Hd hf (fun h=>by have:=h.2.2.2.2;omega))
    refine Ar ?_;exact Iy (⟨s.az,s.ap,s.an,Pw ((A4 l).getD 1 default)⟩,true) (Wx hf ⟨hpt,g,g2,g3,by omega⟩)
   have g2:H2 l≠(⟨#[102,97,105,114]⟩:ByteArray):=fun e=>by rw [show (A4 l).getD (Int.toNat 0) default=(⟨#[102,97,105,114]⟩:ByteArray) from e,Fm] at g2;cases g2
   refine Ar ?_;exact Iy (s,false) (Hd hf (fun h=>g2 h.2.2.1))
  refine Ar ?_;exact Iy (s,false) (Hd hf (fun h=>by have:=h.2.1;omega))
 have c1:Gp l=false:=by simpa using c1
 refine Ar ?_;refine C2 (fun c2=>?_) fun c2=>?_
 ·refine Ar ?_
  refine E3 (fun d=>?_) fun d=>?_
  ·have d:s.an.length<200:=by omega
   refine Ar ?_;refine Oj rfl (I0 0 rfl (I0 1 rfl (I0 2 rfl (I0 3 rfl (R0 4 5 ?_ ?_)))))
   focus
    refine Aq (Ms 5 ?_);refine Aq ?_;refine Au [6] Ak ⟨?_,trivial⟩
   rotate_left 1
   focus
    refine Aq (R0 4 6 ?_ ?_)
    focus
     refine Aq ?_;refine Au [6] Ak ⟨?_,trivial⟩
    rotate_left 1
    focus
     refine Aq ?_;refine Au [4] Ak ⟨?_,trivial⟩
   all_goals
    refine Ag ?_;refine Aq (Ms 7 ?_);refine Bg A0 rfl (Ch (s.an++[G4 l])) (An rfl) Ij A7 (Ag ?_);refine Aq (I0 8 rfl (I0 9 rfl (Ms 10 ?_)));refine Aq (Oi Ak (Ag ?_))
   all_goals exact Ke A0 (⟨s.az,s.ap,s.an++[G4 l],s.aa⟩,true) (C0y c2 c c1 d) rfl rfl rfl rfl I1
  have hf:=B7a c2 c c1 (show ¬ s.an.length<200 by omega)
  refine Ar ?_;have hp0:=G9 l;have hp1:=H9 l;refine Mf (fun g=>?_) fun g=>?_
  ·have g:(A4 l).length=2:=by omega
   have hx1:=hp0 _ (Am (d:=default) (show 1<(A4 l).length by omega))
   refine Ar ?_;refine C2 (fun g2=>?_) fun g2=>?_
   ·have g2:H2 l=(⟨#[102,97,105,114]⟩:ByteArray):=Lq g2
    refine Ar ?_;refine Fh (Ha ((A4 l).getD 1 default) A7) ?_;refine C2 (fun g3=>?_) fun g3=>?_
    ·have g3:Ty ((A4 l).getD 1 default)=false:=by simpa using g3
     refine Ar ?_;exact Iy (s,false) (Hd hf (fun h=>by have:=h.2.2.2.1;rw [g3] at this;cases this))
    have g3:Ty ((A4 l).getD 1 default)=true:=by simpa using g3
    refine Ar ?_;refine E3 (fun g4=>?_) fun g4=>?_
    ·refine Ar ?_
     exact Iy (s,false) (Hd hf (fun h=>by have:=h.2.2.2.2;omega))
    refine Ar ?_;exact Iy (⟨s.az,s.ap,s.an,Pw ((A4 l).getD 1 default)⟩,true) (Wx hf ⟨hpt,g,g2,g3,by omega⟩)
   have g2:H2 l≠(⟨#[102,97,105,114]⟩:ByteArray):=fun e=>by rw [show (A4 l).getD (Int.toNat 0) default=(⟨#[102,97,105,114]⟩:ByteArray) from e,Fm] at g2;cases g2
   refine Ar ?_;exact Iy (s,false) (Hd hf (fun h=>g2 h.2.2.1))
  refine Ar ?_;exact Iy (s,false) (Hd hf (fun h=>by have:=h.2.1;omega))
 have c2:Eo l=false:=by simpa using c2
 have hf:=A48 (s:=s) c c1 c2;refine Ar ?_;have hp0:=G9 l;have hp1:=H9 l;refine Mf (fun g=>?_) fun g=>?_
 ·have g:(A4 l).length=2:=by omega
  have hx1:=hp0 _ (Am (d:=default) (show 1<(A4 l).length by omega))
  refine Ar ?_;refine C2 (fun g2=>?_) fun g2=>?_
  ·have g2:H2 l=(⟨#[102,97,105,114]⟩:ByteArray):=Lq g2
   refine Ar ?_;refine Fh (Ha ((A4 l).getD 1 default) A7) ?_;refine C2 (fun g3=>?_) fun g3=>?_
   ·have g3:Ty ((A4 l).getD 1 default)=false:=by simpa using g3
    refine Ar ?_;exact Iy (s,false) (Hd hf (fun h=>by have:=h.2.2.2.1;rw [g3] at this;cases this))
   have g3:Ty ((A4 l).getD 1 default)=true:=by simpa using g3
   refine Ar ?_;refine E3 (fun g4=>?_) fun g4=>?_
   ·refine Ar ?_
    exact Iy (s,false) (Hd hf (fun h=>by have:=h.2.2.2.2;omega))
   refine Ar ?_;exact Iy (⟨s.az,s.ap,s.an,Pw ((A4 l).getD 1 default)⟩,true) (Wx hf ⟨hpt,g,g2,g3,by omega⟩)
  have g2:H2 l≠(⟨#[102,97,105,114]⟩:ByteArray):=fun e=>by rw [show (A4 l).getD (Int.toNat 0) default=(⟨#[102,97,105,114]⟩:ByteArray) from e,Fm] at g2;cases g2
  refine Ar ?_;exact Iy (s,false) (Hd hf (fun h=>g2 h.2.2.1))
 refine Ar ?_;exact Iy (s,false) (Hd hf (fun h=>by have:=h.2.1;omega))
end Go.Proofs.YtmhcebdkjgkmlaaGreatDoor
