/- Part 11 of the proof that each of the laws FnExactWhoIsDone, FnExactResultText, FnExactRunText returns true for every input. No conditions. -/
import Derived.Test.YtmhcebdkjgkmlaaGreatDoorP10

set_option linter.unusedSimpArgs false
set_option linter.unusedVariables false
set_option maxRecDepth 100000
namespace Go.Proofs.YtmhcebdkjgkmlaaGreatDoor
open Go.Sx
theorem D15 (s:ByteArray)(hs:s.size≤1048576):Dy Tryz.prog Vb 79 [.one (vs s),.one (vs (⟨#[10]⟩:ByteArray))] [.one (Cj (Bk s))]:=by
 refine ⟨⟨_,Tryz.func79,by decide,rfl⟩,fun w hw vals hl hv=>?_⟩
 match vals,hl with
 | [v,v2],_=>
  have h0:v= .string s:=Ub (A:=fun _=>False) (hv 0 _ rfl);have h1:v2= .string ⟨#[10]⟩:=Ub (A:=fun _=>False) (hv 1 _ rfl);subst h0 h1;have hlen:=A6u s;obtain ⟨m,hm⟩:=hw.2.2.2.2;refine (Any.strings_Split {A1k with} A1k.i9 s ⟨#[10]⟩ m w A7 hm Cw).mono ?_
  rintro e w' ⟨rfl,rfl⟩
  rw [A9f];have hn:Lib.countB s ⟨#[10]⟩+1=(Bk s).length:=by rw [←A9f,Lib.splitB_all ⟨#[10]⟩ Cw 0 _ s rfl]
  rw [hn];refine ⟨Jd w _,[_],fun _=>[w.heap.size],rfl,rfl,fun i y hi=>?_,fun i hi=>⟨by simp,fun b hb=>by rw [Ke.1 hb];exact Df _⟩,fun i j hi hj hne=>by simp at hi hj;omega⟩
  have hsz:(((Bk s).map Value.string).toArray).size=(Bk s).length:=by rw [Nh,J8]
  match i,hi with
  | 0,hi=>
   simp only [Fq,Ei] at hi;subst hi;have heq1:∀o:Obj,(w.alloc o).heap[w.heap.size]? =some o:=fun o=>Array.getElem?_push_size
   have hr:∀ty:TypeId,Bp (w.alloc (.cells ((Bk s).map Value.string).toArray ty)) (.sl (Bk s).length 1 fun i=>[vs ((Bk s).getD i default)]) (.slice (some ⟨w.heap.size,0 * 1,none⟩) (Bk s).length (Bk s).length) (w.heap.size::(List.range ((Bk s).length * 1)).flatMap fun _=>[]):=
    fun ty=> .sl (Bk s).length 1 _ w.heap.size 0 (Bk s).length ty _ (fun _=>[]) (Df _) (by unfold maxLen;omega) (heq1 _) (by rw [Td,Nat.mul_one];exact Nat.le_of_eq hsz.symm) (fun i hi=>rfl) (fun i j c hi hj=>by
     match j,hj with
     | 0,hj=>
      simp only [Fq,Ei] at hj;subst hj
      have e:(((Bk s).map Value.string).toArray).getD ((0+i) * 1+0) undef= .string ((Bk s).getD i default):=by
       simp [List.getD,hi]
      rw [e];exact .val _ rfl
     |j+1,hj=>simp at hj)
   have hf:(List.range ((Bk s).length * 1)).flatMap (fun _=>([]:List Nat))=[]:=by simp
   simp only [hf] at hr;exact hr _
  |i+1,hi=>simp at hi
structure D1g where
 i:Nat
 b:Nat
 out:List ByteArray
def B47 (s:ByteArray) (j:D1g):Prop:=j.i≤s.size+1∧j.out.length≤j.i∧
 (j.i≤s.size→j.b≤j.i∧Q5 [] s.data.toList=j.out.map (·.data.toList)++Q5 (s.extract j.b j.i).data.toList (s.data.toList.drop j.i))∧(¬ j.i≤s.size→j.out=Bk s)
theorem C3h (s:ByteArray):B47 s ⟨0,0,[]⟩:=⟨Fk _,Df _,fun _=>⟨Df _,by
 rw [Kw s 0 0 (Fk _)];rfl⟩,fun h=>(h (Fk _)).elim⟩
theorem toList_inj:∀{a b:List ByteArray},a.map (·.data.toList)=b.map (·.data.toList)→a=b
 | [],[],_=>rfl
 | [],_::_,h=>by simp at h
 |_::_,[],h=>by simp at h
 |x::a,y::b,h=>by
  simp only [Gz,Nf] at h;rw [toList_inj h.2,show x=y from V8 (A0o.1 h.1)]
variable {s : ByteArray} {j : D1g}
theorem C53 (h:B47 s j)(hi:j.i=s.size):B47 s ⟨j.i+1,j.i+1,j.out++[s.extract j.b j.i]⟩:=by
 obtain ⟨h1,h2,h3,_⟩:=h;refine ⟨by show j.i+1≤_;omega,by simp only [D7,Lu];omega,fun h=>by have h:j.i+1≤s.size:=h;omega,fun _=>?_⟩
 obtain ⟨_,e⟩:=h3 A7;have hl:s.data.toList.length=s.size:=Nq;rw [List.drop_of_length_le A7,Q5] at e
 apply toList_inj
 rw [Qs,List.map_singleton,←e,Bk,List.map_map];exact (List.map_id' _).symm
theorem C54 (h:B47 s j)(hi:j.i<s.size)(hb:C1 s j.i=10):B47 s ⟨j.i+1,j.i+1,j.out++[s.extract j.b j.i]⟩:=by
 obtain ⟨h1,h2,h3,_⟩:=h;refine ⟨by show j.i+1≤_;omega,by simp only [D7,Lu];omega,fun _=>⟨Df _,?_⟩,fun h=>absurd (show j.i+1≤s.size by omega) h⟩
 obtain ⟨_,e⟩:=h3 A7;rw [Tn hi,Q5,Ak hb] at e;have hz:(s.extract (j.i+1) (j.i+1)).data.toList=[]:=by rw [Kw s _ _ A7];simp
 show _=(j.out++[s.extract j.b j.i]).map (·.data.toList)++Q5 (s.extract (j.i+1) (j.i+1)).data.toList _
 rw [e,hz,Qs,Cv];rfl
theorem C3g (h:B47 s j)(hi:j.i<s.size)(hb:C1 s j.i≠10):B47 s ⟨j.i+1,j.b,j.out⟩:=by
 obtain ⟨h1,h2,h3,_⟩:=h;refine ⟨by show j.i+1≤_;omega,by show j.out.length≤j.i+1;omega,fun _=>⟨?_,?_⟩,fun h=>absurd (show j.i+1≤s.size by omega) h⟩
 ·have:=(h3 A7).1;show j.b≤j.i+1;omega
 obtain ⟨hb',e⟩:=h3 A7;rw [Tn hi,Q5,Ab hb,Kw s _ _ A7,←A8z hi hb',←Kw s _ _ A7] at e;exact e
theorem D0w (s:ByteArray)(hs:s.size≤1048576):Dj 84 [.one (vs s)] [.one (Cj (Bk s))]:=by
 refine E3 Tryz.func84 fun W=>?_;refine H5 0 (Cj []) rfl (Nu rfl A2j) ?_;refine zlW [6] (fun j:D1g=>[(5,.c (vi j.i)),(4,.c (vi j.b))]) (fun j=>[]) (fun j=>[⟨0,Cj j.out⟩]) (fun j=>B47 s j) (fun j=>s.size+1-j.i) (⟨0,0,[]⟩) (C3h s) fun j hj=>?_;have hj1:=hj.1;have hj2:=hj.2.1;refine Eh (fun h=>?_) fun h=>?_
 ·have h:j.i≤s.size:=by omega
  refine B8 ?_;have hb:=(hj.2.2.1 h).1;refine L8 (fun c=>?_) fun c=>?_
  ·have c:j.i=s.size:=by omega
   refine Ar ?_;refine Ar ?_;refine A50 A0 rfl rfl rfl rfl rfl rfl rfl ⟨by omega,by omega,by omega⟩ (Aj ?_);refine B9 A0 rfl (Cj (j.out++[s.extract j.b j.i])) (Ao rfl) Hy A7 (Er ?_);refine Ci [(0,2)] (⟨j.i+1,j.i+1,j.out++[s.extract j.b j.i]⟩) (C53 hj c) (by show s.size+1-(j.i+1)<_;omega) ⟨rfl,rfl,trivial⟩ ⟨rfl,trivial⟩
  have hlt:j.i<s.size:=by omega
  refine Ar ?_;refine L8 (fun e=>?_) fun e=>?_
  ·have e:C1 s j.i=10:=UInt8.toNat_inj.1 (by show _=10;exact Int.ofNat.inj e)
   refine A50 A0 rfl rfl rfl rfl rfl rfl rfl ⟨by omega,by omega,by omega⟩ (Aj ?_);refine B9 A0 rfl (Cj (j.out++[s.extract j.b j.i])) (Ao rfl) Hy A7 (Er ?_);refine Ci [(0,2)] (⟨j.i+1,j.i+1,j.out++[s.extract j.b j.i]⟩) (C54 hj hlt e) (by show s.size+1-(j.i+1)<_;omega) ⟨rfl,rfl,trivial⟩ ⟨rfl,trivial⟩
  have e:C1 s j.i≠10:=fun c=>e (by show ((C1 s j.i).toNat:Int)=_;rw [c];rfl)
  refine B8 ?_;refine Ci [] (⟨j.i+1,j.b,j.out⟩) (C3g hj hlt e) (by show s.size+1-(j.i+1)<_;omega) ⟨rfl,rfl,trivial⟩ ⟨rfl,trivial⟩
 exact An A0 rfl rfl ⟨by exact A6 Cj (hj.2.2.2 A7),trivial⟩
def Va (s:Db) (l:ByteArray) (r:Db×Bool):Prop:=r=if Mn s l=true then (Vc s l,true) else (s,false)
variable {s : Db} {l : ByteArray}
theorem C2v (c:Ev l=true)(d:s.az.ak.length<8):Va s l (⟨⟨s.az.ak++[Gd l],s.az.aq,s.az.cap⟩,s.au,s.aa,s.bq⟩,true):=by
 have e:Mn s l=true:=by rw [Mn,Ak c];exact Dg d
 rw [Va,Ak e,Vc,Ak c]
theorem C86 (c:Hz l=true)(cn:Ev l=false)(d:s.au.length<20):Va s l (⟨s.az,s.au++[L5 l],s.aa,s.bq⟩,true):=by
 have e:Mn s l=true:=by rw [Mn,Ab (by rw [cn];decide),Ak c];exact Dg d
 rw [Va,Ak e,Vc,Ab (by rw [cn];decide),Ak c]
theorem C2w (c:Fc l=true)(cn:Ev l=false)(ci:Hz l=false)(d:s.aa.length<200):Va s l (⟨s.az,s.au,s.aa++[Ge l],s.bq⟩,true):=by
 have e:Mn s l=true:=by rw [Mn,Ab (by rw [cn];decide),Ab (by rw [ci];decide),Ak c];exact Dg d
 rw [Va,Ak e,Vc,Ab (by rw [cn];decide),Ab (by rw [ci];decide),Ak c]
def A3w (s:Db) (l:ByteArray):Prop:=Mn s l=decide (Qz l)∧(Qz l→Vc s l=⟨s.az,s.au,s.aa,Sd ((A5 l).getD 1 default)⟩)
theorem B87 (c:Ev l=true)(d:¬ s.az.ak.length<8):A3w s l:=by
 have cn:=(B6z c).2.2;exact ⟨by rw [Mn,Ak c,Cb cn,Cb d],fun h=>(cn h).elim⟩
theorem C6g (c:Hz l=true)(cn:Ev l=false)(d:¬ s.au.length<20):A3w s l:=by
 have ci:=(C6w c).2;exact ⟨by rw [Mn,Ab (by rw [cn];decide),Ak c,Cb ci,Cb d],fun h=>(ci h).elim⟩
theorem B88 (c:Fc l=true)(cn:Ev l=false)(ci:Hz l=false)(d:¬ s.aa.length<200):A3w s l:=by
 have cp:=C7z c;exact ⟨by rw [Mn,Ab (by rw [cn];decide),Ab (by rw [ci];decide),Ak c,Cb cp,Cb d],fun h=>(cp h).elim⟩
theorem A63 (cn:Ev l=false)(ci:Hz l=false)(cp:Fc l=false):A3w s l:=
 ⟨by rw [Mn,Ab (by rw [cn];decide),Ab (by rw [ci];decide),Ab (by rw [cp];decide)],fun _=>by rw [Vc,Ab (by rw [cn];decide),Ab (by rw [ci];decide),Ab (by rw [cp];decide)]⟩
theorem H6 (h:A3w s l)(hf:¬ Qz l):Va s l (s,false):=by
 rw [Va,h.1,Cb hf,Ab Cw]
theorem Xd (h:A3w s l)(hf:Qz l):Va s l (⟨s.az,s.au,s.aa,Sd ((A5 l).getD 1 default)⟩,true):=by
 rw [Va,h.1,Dg hf,Ak rfl,h.2 hf]
set_option maxHeartbeats 2000000 in
theorem D0v (s:Db)(l:ByteArray)(hs:A0u s)(hl:l.size≤1048576)(hpt:Gc l=true):MtR HT 86 [] s.c [.one (vs l),.one (Cj (A5 l))] (Va s l) (fun r=>r.1.c) (fun r=>[.one (vb r.2)]):=by
 obtain ⟨n1,n2,n3,n4⟩:=hs;refine zeP Tryz.func86 fun B b hH hp=>?_;conv=>whnf
 refine Gg (B4o l hl) ?_;refine Gg (B0q l hl) ?_;refine Gg (B4p l hl) ?_;refine Cc (fun c=>?_) fun c=>?_
 ·obtain ⟨c1,c2,_⟩:=B6z c
  refine Ar ?_;refine Eh (fun d=>?_) fun d=>?_
  ·have d:s.az.ak.length<8:=by omega
   refine Ar ?_;refine Ux rfl (Jy 0 rfl (Jy 1 rfl (Jy 2 rfl (Jy 3 rfl (Jy 4 rfl (Um 5 6 ?_ ?_))))))
   focus
    refine Az (Qo 6 ?_);refine Az (Qo 7 ?_);refine Mv A0 rfl (Iv ?_)
   rotate_left 1
   focus
    refine Az (Um 5 7 ?_ ?_)
    focus
     refine Az (Qo 7 ?_);refine Mv A0 rfl (Iv ?_)
    rotate_left 1
    focus
     refine Mv A0 rfl (Aj ?_);refine Az ?_;refine Ay [5] Ah ⟨?_,trivial⟩;refine go A0 false ?_
   all_goals
    conv=>whnf
    refine Az (Qo 8 ?_);refine B9 A0 rfl (Ax (s.az.ak++[Gd l])) (Ao rfl) Hy A7 (Aj ?_);refine Az (Jy 9 rfl (Jy 10 rfl (Jy 11 rfl (Qo 12 ?_))));refine Az (Uw Ah (Aj ?_))
   all_goals exact C0b A0 (⟨⟨s.az.ak++[Gd l],s.az.aq,s.az.cap⟩,s.au,s.aa,s.bq⟩,true) (C2v c d) rfl rfl rfl rfl Mm
  have hf:=B87 c (show ¬ s.az.ak.length<8 by omega)
  refine Ar ?_;have hp0:=G3 l;have hp1:=H2 l;refine L8 (fun g=>?_) fun g=>?_
  ·have g:(A5 l).length=2:=by omega
   have hx1:=hp0 _ (Am (d:=default) (show 1<(A5 l).length by omega))
   refine Ar ?_;refine Cc (fun g2=>?_) fun g2=>?_
   ·have g2:Io l=(⟨#[102,97,105,114]⟩:ByteArray):=Kf g2
    refine Ar ?_;refine F0 (H4 ((A5 l).getD 1 default) A7) ?_;refine Cc (fun g3=>?_) fun g3=>?_
    ·have g3:U7 ((A5 l).getD 1 default)=false:=by simpa using g3
     refine Ar ?_;exact K4 (s,false) (H6 hf (fun h=>by have:=h.2.2.2.1;rw [g3] at this;cases this))
    have g3:U7 ((A5 l).getD 1 default)=true:=by simpa using g3
    refine Ar ?_;refine Eh (fun g4=>?_) fun g4=>?_
    ·refine Ar ?_
     exact K4 (s,false) (H6 hf (fun h=>by have:=h.2.2.2.2;omega))
    refine Ar ?_;exact K4 (⟨s.az,s.au,s.aa,Sd ((A5 l).getD 1 default)⟩,true) (Xd hf ⟨hpt,g,g2,g3,by omega⟩)
   have g2:Io l≠(⟨#[102,97,105,114]⟩:ByteArray):=fun e=>by rw [show (A5 l).getD (Int.toNat 0) default=(⟨#[102,97,105,114]⟩:ByteArray) from e,Ex] at g2;cases g2
   refine Ar ?_;exact K4 (s,false) (H6 hf (fun h=>g2 h.2.2.1))
  refine Ar ?_;exact K4 (s,false) (H6 hf (fun h=>by have:=h.2.1;omega))
 have c:Ev l=false:=by simpa using c
 refine Ar ?_;refine Cc (fun c1=>?_) fun c1=>?_
 ·refine Ar ?_
  obtain ⟨c2,_⟩:=C6w c1;refine Eh (fun d=>?_) fun d=>?_
  ·have d:s.au.length<20:=by omega
   refine Ar ?_;refine Ux rfl (Jy 0 rfl (Jy 1 rfl (Jy 2 rfl (Jy 3 rfl (Um 4 5 ?_ ?_)))))
   focus
    refine Az (Qo 5 ?_);refine Az ?_;refine Ay [6] Ah ⟨?_,trivial⟩
   rotate_left 1
   focus
    refine Az (Um 4 6 ?_ ?_)
    focus
     refine Az ?_;refine Ay [6] Ah ⟨?_,trivial⟩
    rotate_left 1
    focus
     refine Az ?_;refine Ay [4] Ah ⟨?_,trivial⟩
   all_goals
    refine Aj ?_;refine Az (Qo 7 ?_);refine B9 A0 rfl (A9 (s.au++[L5 l])) (Ao rfl) Hy A7 (Aj ?_);refine Az (Jy 8 rfl (Jy 9 rfl (Qo 10 ?_)));refine Az (Uw Ah (Aj ?_))
   all_goals exact C0b A0 (⟨s.az,s.au++[L5 l],s.aa,s.bq⟩,true) (C86 c1 c d) rfl rfl rfl rfl Mm
  have hf:=C6g c1 c (show ¬ s.au.length<20 by omega)
  refine Ar ?_;have hp0:=G3 l;have hp1:=H2 l;refine L8 (fun g=>?_) fun g=>?_
  ·have g:(A5 l).length=2:=by omega
   have hx1:=hp0 _ (Am (d:=default) (show 1<(A5 l).length by omega))
   refine Ar ?_;refine Cc (fun g2=>?_) fun g2=>?_
   ·have g2:Io l=(⟨#[102,97,105,114]⟩:ByteArray):=Kf g2
    refine Ar ?_;refine F0 (H4 ((A5 l).getD 1 default) A7) ?_;refine Cc (fun g3=>?_) fun g3=>?_
    ·have g3:U7 ((A5 l).getD 1 default)=false:=by simpa using g3
     refine Ar ?_;exact K4 (s,false) (H6 hf (fun h=>by have:=h.2.2.2.1;rw [g3] at this;cases this))
    have g3:U7 ((A5 l).getD 1 default)=true:=by simpa using g3
    refine Ar ?_;refine Eh (fun g4=>?_) fun g4=>?_
    ·refine Ar ?_
     exact K4 (s,false) (H6 hf (fun h=>by have:=h.2.2.2.2;omega))
    refine Ar ?_;exact K4 (⟨s.az,s.au,s.aa,Sd ((A5 l).getD 1 default)⟩,true) (Xd hf ⟨hpt,g,g2,g3,by omega⟩)
   have g2:Io l≠(⟨#[102,97,105,114]⟩:ByteArray):=fun e=>by rw [show (A5 l).getD (Int.toNat 0) default=(⟨#[102,97,105,114]⟩:ByteArray) from e,Ex] at g2;cases g2
   refine Ar ?_;exact K4 (s,false) (H6 hf (fun h=>g2 h.2.2.1))
  refine Ar ?_;exact K4 (s,false) (H6 hf (fun h=>by have:=h.2.1;omega))
 have c1:Hz l=false:=by simpa using c1
 refine Ar ?_;refine Cc (fun c2=>?_) fun c2=>?_
 ·refine Ar ?_
  refine Eh (fun d=>?_) fun d=>?_
  ·have d:s.aa.length<200:=by omega
   refine Ar ?_;refine Ux rfl (Jy 0 rfl (Jy 1 rfl (Jy 2 rfl (Jy 3 rfl (Um 4 5 ?_ ?_)))))
   focus
    refine Az (Qo 5 ?_);refine Az ?_;refine Ay [6] Ah ⟨?_,trivial⟩
   rotate_left 1
   focus
    refine Az (Um 4 6 ?_ ?_)
    focus
     refine Az ?_;refine Ay [6] Ah ⟨?_,trivial⟩
    rotate_left 1
    focus
     refine Az ?_;refine Ay [4] Ah ⟨?_,trivial⟩
   all_goals
    refine Aj ?_;refine Az (Qo 7 ?_);refine B9 A0 rfl (E9 (s.aa++[Ge l])) (Ao rfl) Hy A7 (Aj ?_);refine Az (Jy 8 rfl (Jy 9 rfl (Qo 10 ?_)));refine Az (Uw Ah (Aj ?_))
   all_goals exact C0b A0 (⟨s.az,s.au,s.aa++[Ge l],s.bq⟩,true) (C2w c2 c c1 d) rfl rfl rfl rfl Mm
  have hf:=B88 c2 c c1 (show ¬ s.aa.length<200 by omega)
  refine Ar ?_;have hp0:=G3 l;have hp1:=H2 l;refine L8 (fun g=>?_) fun g=>?_
  ·have g:(A5 l).length=2:=by omega
   have hx1:=hp0 _ (Am (d:=default) (show 1<(A5 l).length by omega))
   refine Ar ?_;refine Cc (fun g2=>?_) fun g2=>?_
   ·have g2:Io l=(⟨#[102,97,105,114]⟩:ByteArray):=Kf g2
    refine Ar ?_;refine F0 (H4 ((A5 l).getD 1 default) A7) ?_;refine Cc (fun g3=>?_) fun g3=>?_
    ·have g3:U7 ((A5 l).getD 1 default)=false:=by simpa using g3
     refine Ar ?_;exact K4 (s,false) (H6 hf (fun h=>by have:=h.2.2.2.1;rw [g3] at this;cases this))
    have g3:U7 ((A5 l).getD 1 default)=true:=by simpa using g3
    refine Ar ?_;refine Eh (fun g4=>?_) fun g4=>?_
    ·refine Ar ?_
     exact K4 (s,false) (H6 hf (fun h=>by have:=h.2.2.2.2;omega))
    refine Ar ?_;exact K4 (⟨s.az,s.au,s.aa,Sd ((A5 l).getD 1 default)⟩,true) (Xd hf ⟨hpt,g,g2,g3,by omega⟩)
   have g2:Io l≠(⟨#[102,97,105,114]⟩:ByteArray):=fun e=>by rw [show (A5 l).getD (Int.toNat 0) default=(⟨#[102,97,105,114]⟩:ByteArray) from e,Ex] at g2;cases g2
   refine Ar ?_;exact K4 (s,false) (H6 hf (fun h=>g2 h.2.2.1))
  refine Ar ?_;exact K4 (s,false) (H6 hf (fun h=>by have:=h.2.1;omega))
 have c2:Fc l=false:=by simpa using c2
 have hf:=A63 (s:=s) c c1 c2;refine Ar ?_;have hp0:=G3 l;have hp1:=H2 l;refine L8 (fun g=>?_) fun g=>?_
 ·have g:(A5 l).length=2:=by omega
  have hx1:=hp0 _ (Am (d:=default) (show 1<(A5 l).length by omega))
  refine Ar ?_;refine Cc (fun g2=>?_) fun g2=>?_
  ·have g2:Io l=(⟨#[102,97,105,114]⟩:ByteArray):=Kf g2
   refine Ar ?_;refine F0 (H4 ((A5 l).getD 1 default) A7) ?_;refine Cc (fun g3=>?_) fun g3=>?_
   ·have g3:U7 ((A5 l).getD 1 default)=false:=by simpa using g3
    refine Ar ?_;exact K4 (s,false) (H6 hf (fun h=>by have:=h.2.2.2.1;rw [g3] at this;cases this))
   have g3:U7 ((A5 l).getD 1 default)=true:=by simpa using g3
   refine Ar ?_;refine Eh (fun g4=>?_) fun g4=>?_
   ·refine Ar ?_
    exact K4 (s,false) (H6 hf (fun h=>by have:=h.2.2.2.2;omega))
   refine Ar ?_;exact K4 (⟨s.az,s.au,s.aa,Sd ((A5 l).getD 1 default)⟩,true) (Xd hf ⟨hpt,g,g2,g3,by omega⟩)
  have g2:Io l≠(⟨#[102,97,105,114]⟩:ByteArray):=fun e=>by rw [show (A5 l).getD (Int.toNat 0) default=(⟨#[102,97,105,114]⟩:ByteArray) from e,Ex] at g2;cases g2
  refine Ar ?_;exact K4 (s,false) (H6 hf (fun h=>g2 h.2.2.1))
 refine Ar ?_;exact K4 (s,false) (H6 hf (fun h=>by have:=h.2.1;omega))
theorem B3l (s:ByteArray)(hs:s.size≤1048576):Dy Tryz.prog Vb 143 [.one (vs s)] [.agg (Gd s).c,.one (vb (Ev s))]:=by
 have hl:=H2 s;refine Ga A0 false Tryz.func143 rfl Cw fun W hW=>?_;conv=>whnf
 refine Dt (Pl s 2 hs Cw) B3 hW rfl (Aj ?_)
 repeat' (first|(refine I1 ?_;conv=>whnf)|(refine I2 ?_;conv=>whnf)|(refine ⟨fun h=>?_,fun h=>?_⟩<;>conv=>whnf)|(refine Co ?_;conv=>whnf)|(refine Al 7 rfl [0,1,2,3,4,5,6,7,8,9,10,11] Ah (Aj ?_))|(refine Al 8 rfl [0,2,3,4,1,5,6,7,8,9,10,11,13,12,14,15] Ah (Aj ?_))|fail)
 ·obtain ⟨hv,hb⟩:=Jl (s:=s) (fun c=>by
   rw [Nk,Me c.1,B0l c,Dg (show 2≤(A5 s).length by have:=c.2.1;omega)] at h
   exact absurd h Cw)
  rw [hv,hb];exact An A0 rfl rfl ⟨⟨rfl,rfl,rfl,.inr ⟨rfl,rfl,_,_,rfl⟩,trivial⟩,rfl,trivial⟩
 ·rename_i g1
  have hok:Nk s 2=true:=by simpa using g1
  have hlen:(Dr s 2).length=(A5 s).length-2:=by rw [(Km hok).1,Hj]
  obtain ⟨hv,hb⟩:=Jl (s:=s) (fun c=>by have:=Bj h;have:=c.2.1;omega);rw [hv,hb];exact An A0 rfl rfl ⟨⟨rfl,rfl,rfl,.inr ⟨rfl,rfl,_,_,rfl⟩,trivial⟩,rfl,trivial⟩
 rename_i g1
 have hok:Nk s 2=true:=by simpa using g1
 have hn:=(Km hok).1;have ht:=(Km hok).2;have hpr:=T1 hok
 have hP:Gm s:=by
  have h1:=hok;rw [Nk,Ce,Ce] at h1;exact Bj h1.1.1
 have hlen:(Dr s 2).length=(A5 s).length-2:=by rw [hn,Hj]
 have h4:4≤(A5 s).length:=by have:=Cr h;omega
 have hget:∀i,i+2<(A5 s).length→(Dr s 2).getD i default=En (A5 s) (i+2):=fun i hi=>by
  rw [hn,En,Ak hi,Gh];simp only [B44,E8,Tc];rw [A0l 2 i,Cl (show i+2<(A5 s).length by omega)]
  rfl
 have e0:(Dr s 2).getD (Int.toNat 0) default=En (A5 s) 2:=hget 0 A7;have e1:(Dr s 2).getD (Int.toNat 1) default=En (A5 s) 3:=hget 1 A7;have hdrop:(Dr s 2).drop 2=Gh (A5 s) 4:=by rw [hn,Gh,Gh,←List.map_drop,List.drop_drop]
 have hsub:Xz (Dr s 2).length 1 (fun i=>[vi ((Dr s 2).getD i default)]) 2 ((Dr s 2).length:Int) (Ej (Gh (A5 s) 4)):=by
  have h:=Xr (es:=1) (e:=fun b=>[vi b]) (xs:=Dr s 2) (l:=2) (h:=((Dr s 2).length:Int)) A7 A7 A7
  rwa [show (2:Int).toNat=2 from rfl,K0 (by rw [G4];omega),hdrop] at h
 have hpl:(S8 s 2).length=(A5 s).length:=by rw [hpr]
 have hp1:(S8 s 2).getD (Int.toNat 1) default=(A5 s).getD 1 default:=by rw [hpr];rfl
 have hz:Hh s→∀j:Nat,j<0→C8 ((j:Int)+1)≠(A5 s).getD 1 default:=fun _ j hj=>absurd hj (Kt _);refine Fv [9] (fun k:Nat=>[(8,.c (vi ((k:Int)+1)))]) (fun k=>[⟨0,[.c (vi 0),.c (vi 0),.c (vi 0),.v (.slice none 0 0)]⟩]) (fun k=>[]) (fun k=>k≤8∧(Hh s→∀j:Nat,j<k→C8 ((j:Int)+1)≠(A5 s).getD 1 default)) (fun k=>8-k) fun k hk=>?_;obtain ⟨hk,he⟩:=hk;refine Cc (fun hk=>?_) fun hk=>?_
 ·have hk:k<8:=by have:=Bj hk;omega
  have ox:=B2d s ((k:Int)+1) A7;have hx:(⟨(k:Int)+1,En (A5 s) 2,En (A5 s) 3,Gh (A5 s) 4⟩:D5).w≤1048576:=by have:=Pp s 4;show (Gh (A5 s) 4).length≤1048576;omega
  repeat' (first|(refine I1 ?_;conv=>whnf)|(refine I2 ?_;conv=>whnf)|(refine ⟨fun h=>?_,fun h=>?_⟩<;>conv=>whnf)|(refine Co ?_;conv=>whnf)|(refine Al 7 rfl [0,1,2,3,4,5,6,7,8,9,10,11] Ah (Aj ?_))|(refine Al 8 rfl [0,2,3,4,1,5,6,7,8,9,10,11,13,12,14,15] Ah (Aj ?_))|fail)
  rw [e0,e1];refine P3 A0 rfl ⟨by omega,by omega,by omega⟩ (Ej (Gh (A5 s) 4)) hsub (Aj ?_)
  repeat' (first|(refine I1 ?_;conv=>whnf)|(refine I2 ?_;conv=>whnf)|(refine ⟨fun h=>?_,fun h=>?_⟩<;>conv=>whnf)|(refine As (A1e ((k:Int)+1)) rfl (Iv ?_);conv=>whnf)|(refine As (Ty _ (Ew hx Cw)) rfl (Iv ?_);conv=>whnf)|(refine Dt (B3e _ ox hx) B3 hW rfl (Aj ?_))|(refine Ll (B5l _ (Ew hx Cw)) rfl (Iv ?_);conv=>whnf)|(refine Co ?_;conv=>whnf)|(refine Al 7 rfl [0,1,2,3,4,5,6,7,8,9,10,11] Ah (Aj ?_))|(refine Al 8 rfl [0,2,3,4,1,5,6,7,8,9,10,11,13,12,14,15] Ah (Aj ?_))|fail)
  ·rename_i g2 g3
   have hkn:C8 ((k:Int)+1)=(A5 s).getD 1 default:=(Kf g2).trans hp1;have hy:=Ua hk hkn;have hN:Jc (Rj s):=by rw [hy];exact Bj g3
   have hj:Hs (Rj s)=Cx (A5 s):=by rw [hy,←ht];exact Kf h
   obtain ⟨hv,hb⟩:=A4t (s:=s) ⟨hP,h4,hN,hj⟩;rw [hv,hb,hy];exact An A0 rfl rfl ⟨⟨rfl,rfl,rfl,rfl,trivial⟩,rfl,trivial⟩
  ·have hnext:Hh s→∀j:Nat,j<k+1→C8 ((j:Int)+1)≠(A5 s).getD 1 default:=fun c=>A2u (he c) fun hkn=>by
    have hc:=c.2.2.2;rw [Ua hk hkn,←ht] at hc;rw [hc,Ex] at h;exact absurd h Cw
   refine Ci [] (k+1) ⟨by omega,hnext⟩ A7 ⟨rfl,trivial⟩ trivial
  ·have hnext:Hh s→∀j:Nat,j<k+1→C8 ((j:Int)+1)≠(A5 s).getD 1 default:=fun c=>A2u (he c) fun hkn=>by
    have hc:=c.2.2.1;rw [Ua hk hkn] at hc;exact absurd hc (Cr h)
   refine Ci [] (k+1) ⟨by omega,hnext⟩ A7 ⟨rfl,trivial⟩ trivial
  have hnext:Hh s→∀j:Nat,j<k+1→C8 ((j:Int)+1)≠(A5 s).getD 1 default:=fun c=>A2u (he c) fun hkn=>by
   rw [hkn,←hp1,Ex] at h;exact absurd h Cw
  refine Ci [] (k+1) ⟨by omega,hnext⟩ A7 ⟨rfl,trivial⟩ trivial
 have hk:k=8:=by have:=Cr hk;omega
 obtain ⟨hv,hb⟩:=Jl (s:=s) (fun c=>by
  obtain ⟨j,hj,hn⟩:=B0k c
  exact he c j A7 hn)
 rw [hv,hb];exact An A0 rfl rfl ⟨⟨rfl,rfl,rfl,.inr ⟨rfl,rfl,_,_,rfl⟩,trivial⟩,rfl,trivial⟩
def B8i (s:Db) (l:ByteArray) (r:Db×Bool):Prop:=r.2=Mn s l∧(Mn s l=true→r.1=Vc s l)
variable {s : Db} {l : ByteArray}
theorem C2t (c:Ev l=true):B8i s l (⟨⟨s.az.ak++[Gd l],s.az.aq,s.az.cap⟩,s.au,s.aa,s.bq⟩,decide (((s.az.ak++[Gd l]).length:Int)≤8)):=by
 refine ⟨?_,fun _=>by rw [Vc,Ak c]⟩
 rw [Mn,Ak c,D7,Lu];exact Uv.2 A7
theorem C85 (c:Hz l=true)(cn:Ev l=false):B8i s l (⟨s.az,s.au++[L5 l],s.aa,s.bq⟩,decide (((s.au++[L5 l]).length:Int)≤20)):=by
 refine ⟨?_,fun _=>by rw [Vc,Ab (by rw [cn];decide),Ak c]⟩;rw [Mn,Ab (by rw [cn];decide),Ak c,D7,Lu];exact Uv.2 A7
theorem C2u (c:Fc l=true)(cn:Ev l=false)(ci:Hz l=false):B8i s l (⟨s.az,s.au,s.aa++[Ge l],s.bq⟩,decide (((s.aa++[Ge l]).length:Int)≤200)):=by
 refine ⟨?_,fun _=>by rw [Vc,Ab (by rw [cn];decide),Ab (by rw [ci];decide),Ak c]⟩;rw [Mn,Ab (by rw [cn];decide),Ab (by rw [ci];decide),Ak c,D7,Lu];exact Uv.2 A7
theorem A5m (h:A3w s l)(hf:¬ Qz l):B8i s l (s,false):=by
 refine ⟨by rw [h.1,Cb hf],fun c=>?_⟩;rw [h.1,Cb hf] at c
 cases c
theorem C5d (h:A3w s l)(hf:Qz l):B8i s l (⟨s.az,s.au,s.aa,Sd ((A5 l).getD 1 default)⟩,true):=
 ⟨by rw [h.1,Dg hf],fun _=>(h.2 hf).symm⟩
theorem C7o (h:Qz l):Nk l 1=true:=by
 obtain ⟨h1,h2,_,h4,_⟩:=h;rw [Nk,h1,Dg (by omega:1≤(A5 l).length),Qf];generalize A5 l=p at h2 h4
 match p,h2 with
 | [a,b],_=>
  simp only [X2,A0s,X0,List.all_nil,A3t];exact h4
theorem D0b (h:Nk l 1=true)(hn:(Dr l 1).length=1):Gc l=true∧(A5 l).length=2∧U7 ((A5 l).getD 1 default)=true∧Dr l 1=[Sd ((A5 l).getD 1 default)]:=by
 have hi:=(Km h).1;rw [hi] at hn ⊢;rw [Nk,Ce,Ce] at h;obtain ⟨⟨h1,h2⟩,h3⟩:=h;rw [Hj] at hn;have hl:(A5 l).length=2:=by have:=Bj h2;omega
 rw [Qf] at h3;rw [Gh];refine ⟨h1,hl,?_⟩;generalize A5 l=p at hl h3
 match p,hl with
 | [a,b],_=>
  simp only [X2,A0s,X0,List.all_nil,A3t] at h3;exact ⟨h3,rfl⟩
set_option maxHeartbeats 2000000 in
theorem C1k (s:Db)(l:ByteArray)(hs:A0u s)(hl:l.size≤1048576):Vh Tryz.prog Vb 81 [] [.agg s.c] [.one (vs l)] (B8i s l) (fun r=>[.agg r.1.c,.one (vb r.2)]):=by
 obtain ⟨n1,n2,n3,n4⟩:=hs;refine B26 A0 false Tryz.func81 rfl Cw fun B hH hp=>?_;conv=>whnf
 conv=>whnf
 refine B8x (B3l l hl) hH rfl (Aj ?_);refine Cc (fun c=>?_) fun c=>?_
 ·refine Mv A0 rfl (Aj ?_)
  refine B9 A0 rfl (Ax (s.az.ak++[Gd l])) (Ao rfl) Hy A7 (Aj ?_);refine Ux rfl (Jy 1 rfl (Jy 2 rfl (Um 0 3 ?_ ?_)))
  focus
   refine Az (Um 3 6 ?_ ?_)
   focus
    refine Az (Um 4 6 ?_ ?_)
    focus
     refine Az (Jy 5 rfl (Qo 6 ?_));refine Az ?_
    rotate_left 1
    focus
     refine Az (Qo 4 ?_);refine Az (Jy 5 rfl ?_)
   rotate_left 2
   focus
    refine Az (Qo 3 ?_);refine Az (Qo 4 ?_);refine Az (Jy 5 rfl ?_)
  rotate_left 3
  focus
   refine Az (Um 0 4 ?_ ?_)
   focus
    refine Az (Um 4 6 ?_ ?_)
    focus
     refine Az (Jy 5 rfl (Qo 6 ?_));refine Az ?_
    rotate_left 1
    focus
     refine Az (Qo 4 ?_);refine Az (Jy 5 rfl ?_)
   rotate_left 2
   focus
    refine Az (Jy 5 rfl (Qo 0 ?_));refine Az (Qo 6 ?_);refine Az ?_
  all_goals
   refine Jy 7 rfl ?_;refine Uw Ah (Aj ?_)
  all_goals exact Zo A0 (⟨⟨s.az.ak++[Gd l],s.az.aq,s.az.cap⟩,s.au,s.aa,s.bq⟩,_) (C2t c) rfl rfl Mm
 have c:Ev l=false:=by simpa using c
 refine B8x (B0c l hl) hH rfl (Aj ?_);refine Cc (fun c1=>?_) fun c1=>?_
 ·refine B9 A0 rfl (A9 (s.au++[L5 l])) (Ao rfl) Hy A7 (Aj ?_)
  refine Ux rfl (Jy 1 rfl (Um 0 2 ?_ ?_))
  focus
   refine Az (Um 2 5 ?_ ?_)
   focus
    refine Az (Um 3 5 ?_ ?_)
    focus
     refine Az (Jy 4 rfl (Qo 5 ?_));refine Az ?_
    rotate_left 1
    focus
     refine Az (Qo 3 ?_);refine Az (Jy 4 rfl ?_)
   rotate_left 2
   focus
    refine Az (Qo 2 ?_);refine Az (Qo 3 ?_);refine Az (Jy 4 rfl ?_)
  rotate_left 3
  focus
   refine Az (Um 0 3 ?_ ?_)
   focus
    refine Az (Um 3 5 ?_ ?_)
    focus
     refine Az (Jy 4 rfl (Qo 5 ?_));refine Az ?_
    rotate_left 1
    focus
     refine Az (Qo 3 ?_);refine Az (Jy 4 rfl ?_)
   rotate_left 2
   focus
    refine Az (Jy 4 rfl (Qo 0 ?_));refine Az (Qo 5 ?_);refine Az ?_
  all_goals
   refine Jy 6 rfl ?_;refine Uw Ah (Aj ?_)
  all_goals exact Zo A0 (⟨s.az,s.au++[L5 l],s.aa,s.bq⟩,_) (C85 c1 c) rfl rfl Mm
 have c1:Hz l=false:=by simpa using c1
 refine B8x (B3m l hl) hH rfl (Aj ?_);refine Cc (fun c2=>?_) fun c2=>?_
 ·refine B9 A0 rfl (E9 (s.aa++[Ge l])) (Ao rfl) Hy A7 (Aj ?_)
  refine Ux rfl (Jy 1 rfl (Um 0 2 ?_ ?_))
  focus
   refine Az (Um 2 5 ?_ ?_)
   focus
    refine Az (Um 3 5 ?_ ?_)
    focus
     refine Az (Jy 4 rfl (Qo 5 ?_));refine Az ?_
    rotate_left 1
    focus
     refine Az (Qo 3 ?_);refine Az (Jy 4 rfl ?_)
   rotate_left 2
   focus
    refine Az (Qo 2 ?_);refine Az (Qo 3 ?_);refine Az (Jy 4 rfl ?_)
  rotate_left 3
  focus
   refine Az (Um 0 3 ?_ ?_)
   focus
    refine Az (Um 3 5 ?_ ?_)
    focus
     refine Az (Jy 4 rfl (Qo 5 ?_));refine Az ?_
    rotate_left 1
    focus
     refine Az (Qo 3 ?_);refine Az (Jy 4 rfl ?_)
   rotate_left 2
   focus
    refine Az (Jy 4 rfl (Qo 0 ?_));refine Az (Qo 5 ?_);refine Az ?_
  all_goals
   refine Jy 6 rfl ?_;refine Uw Ah (Aj ?_)
  all_goals exact Zo A0 (⟨s.az,s.au,s.aa++[Ge l],s.bq⟩,_) (C2u c2 c c1) rfl rfl Mm
 have c2:Fc l=false:=by simpa using c2
 have hf:=A63 (s:=s) c c1 c2;refine D1l (Pl l 1 hl Cw) hH rfl (Aj ?_);refine Cc (fun g0=>?_) fun g0=>?_
 ·have g0:Nk l 1=false:=by simpa using g0
  refine Ar ?_;exact Zo A0 (s,false) (A5m hf (fun h=>by have:=C7o h;rw [g0] at this;cases this)) rfl rfl Mm
 have g0:Nk l 1=true:=by simpa using g0
 have hpr:=T1 g0;have hnr:=(Km g0).1;refine Ar ?_;refine zne (fun g1=>?_) fun g1=>?_
 ·have g1:(Dr l 1).length≠1:=by omega
  refine Ar ?_;exact Zo A0 (s,false) (A5m hf (fun h=>g1 (by rw [hnr,Hj,h.2.1]))) rfl rfl Mm
 have g1:(Dr l 1).length=1:=by omega
 obtain ⟨p1,p2,p3,p4⟩:=D0b g0 g1;have hpl:(S8 l 1).length=2:=by rw [hpr];exact p2
 have hn0:(Dr l 1).getD 0 default=Sd ((A5 l).getD 1 default):=by rw [p4];rfl
 refine Ar ?_;refine Cc (fun g2=>?_) fun g2=>?_
 ·have g2:Io l≠(⟨#[102,97,105,114]⟩:ByteArray):=fun e=>by
   rw [hpr,show (A5 l).getD (Int.toNat 0) default=(⟨#[102,97,105,114]⟩:ByteArray) from e,Ex] at g2
   cases g2
  refine Ar ?_;exact Zo A0 (s,false) (A5m hf (fun h=>g2 h.2.2.1)) rfl rfl Mm
 have g2:Io l=(⟨#[102,97,105,114]⟩:ByteArray):=by
  have:=Kf (by simpa using g2:_=true)
  rw [hpr] at this;exact this
 refine Ar ?_;refine Eh (fun g3=>?_) fun g3=>?_
 ·have g3:¬ Qz l:=fun h=>by
   have h5:=h.2.2.2.2;rw [←hn0] at h5;exact absurd g3 (Int.not_lt.2 h5)
  refine Ar ?_;exact Zo A0 (s,false) (A5m hf g3) rfl rfl Mm
 have g3:(Dr l 1).getD 0 default≤3000:=Int.not_lt.1 g3;rw [hn0] at g3;refine Ar ?_;exact Zo A0 (⟨s.az,s.au,s.aa,(Dr l 1).getD 0 default⟩,true) (by rw [hn0];exact C5d hf ⟨p1,p2,g2,p3,g3⟩) rfl rfl Mm
structure JS where
 k:Nat
 t:St
theorem A7z {x:ByteArray}(h:¬ 12000<x.size){k:Nat}(hk:k<(Bk x).length):((Bk x).getD k default).size≤1048576:=by
 have:=C3f x _ (Am (d:=default) hk)
 omega
variable {t : St} {l : ByteArray}
theorem Kq (h:Le l):I8 t l=true∧Nm t l=t:=⟨by rw [I8,Ak h],by rw [Nm,Ak h]⟩
theorem A9g (h:¬ Le l)(hb:t.1=true):I8 t l=Mn t.2 l∧Nm t l=(true,Vc t.2 l):=⟨by rw [I8,Ab h,Ak hb],by rw [Nm,Ab h,Ak hb]⟩
theorem A3c (h:¬ Le l)(hb:t.1=false):I8 t l=decide (A55 l)∧Nm t l=(true,⟨⟨t.2.az.ak,Sd ((A5 l).getD 1 default),Sd ((A5 l).getD 2 default)⟩,t.2.au,t.2.aa,t.2.bq⟩):=
 ⟨by rw [I8,Ab h,Ab (by rw [hb];decide)],by rw [Nm,Ab h,Ab (by rw [hb];decide)]⟩
theorem C0v (h:Gc l=false):I8 t l=false:=by
 have hb:¬ Le l:=fun c=>by rw [Le,h] at c;exact absurd c.1 Cw
 rw [I8,Ab hb]
 split
 ·refine X1.2 fun c=>?_
  have:=C2z c
  rw [h] at this
  cases this
 exact Cb fun c=>by have:=c.1;rw [h] at this;cases this
variable {r : Db × Bool}
theorem B8o {s:Db}(h:Va s l r)(hr:r.2=false):Mn s l=false:=by
 refine X1.2 fun c=>?_;rw [Va,Ak c] at h;rw [h] at hr
 cases hr
theorem C2y {s:Db}(h:Va s l r)(hr:r.2=true):Mn s l=true∧r.1=Vc s l:=by
 by_cases c:Mn s l=true
 ·rw [Va,Ak c] at h
  exact ⟨c,by rw [h]⟩
 rw [Va,Ab c] at h;rw [h] at hr
 cases hr
theorem C2x (hst:I8 t l=Mn t.2 l∧Nm t l=(true,Vc t.2 l))(h:Va t.2 l r)(hr:r.2=true):I8 t l=true∧Nm t l=(true,r.1):=by
 obtain ⟨h1,h2⟩:=C2y h hr;exact ⟨hst.1.trans h1,by rw [hst.2,h2]⟩
theorem A6i (c:t.1=true)(hst:I8 t l=Mn t.2 l∧Nm t l=(true,Vc t.2 l))(h:Va t.2 l r)(hr:r.2=true):I8 t l=true∧Nm t l=(t.1,r.1):=by
 rw [c];exact C2x hst h hr
theorem A5p {a b:ByteArray}(h:(!(a==b))=false):a=b:=Kf (by simpa using h)
set_option maxHeartbeats 2000000 in
theorem A89 (x:ByteArray)(hx:x.size≤1048576):Dj 32 [.one (vs x)] [.agg (B6 x).1.c,.one (vi (B6 x).2)]:=by
 refine E3 Tryz.func32 fun W=>?_;refine Eh (fun h0=>?_) fun h0=>?_
 ·have h0:12000<x.size:=by omega
  refine An A0 rfl rfl ?_;rw [We h0];exact Mm
 have h0:¬ 12000<x.size:=by omega
 have hlen:=A6u x;refine B8 ?_;refine F0 (D0w x hx) ?_;have hH:∀w,Fa.rel ⟨W,fun _=>False⟩ w→HT w:=fun _ _=>trivial
 have hp:Py ⟨W,fun _=>False⟩ []:=fun _ h=>by cases h
 refine Xy 1 0 4 (fun i=>D5.c (([]:List D5).getD i default)) rfl rfl ?_;refine Xy 1 3 5 (fun i=>Aa.c (([]:List Aa).getD i default)) rfl rfl ?_;refine Xy 1 4 3 (fun i=>Ea.c (([]:List Ea).getD i default)) rfl rfl ?_;refine zlW [] (fun j:JS=>[(7,.c (vi j.k)),(5,.c (vb j.t.1))]) (fun j=>[⟨1,[.own 2,.c (vi j.t.2.az.aq),.c (vi j.t.2.az.cap),.own 3,.own 4,.c (vi j.t.2.bq)]⟩,⟨0,[.c (.val (.slice none 0 0)),.c (vi 0),.c (vi 0),.c (.val (.slice none 0 0)),.c (.val (.slice none 0 0)),.c (vi 0)]⟩]) (fun j=>[⟨2,Ax j.t.2.az.ak⟩,⟨3,A9 j.t.2.au⟩,⟨4,E9 j.t.2.aa⟩]) (fun j=>j.k≤(Bk x).length∧Rz (Bk x) j.k∧j.t=Ot (Bk x) j.k) (fun j=>(Bk x).length-j.k) (⟨0,st0⟩) (⟨Fk _,fun j hj=>absurd hj (Kt _),rfl⟩) fun j hj=>?_;obtain ⟨hk,hg,ht⟩:=hj;refine Eh (fun hk2=>?_) fun hk2=>?_
 ·have hk2:j.k<(Bk x).length:=by omega
  have hl:=A7z h0 hk2;have hp0:=G3 ((Bk x).getD j.k default);have hp1:=B19 ((Bk x).getD j.k default);have hsc:A0u j.t.2:=by rw [ht];exact B2l j.k hk hg
  refine B8 ?_;refine F0 (Rq ((Bk x).getD j.k default) hl) ?_;refine Cc (fun a=>?_) fun a=>?_
  ·have a2:(!Gc ((Bk x).getD j.k default))=false:=by rw [a];rfl
   refine Ar ?_;refine L8 (fun b=>?_) fun b=>?_
   ·refine Ar ?_
    have hb:Le ((Bk x).getD j.k default):=⟨a,.inl A7⟩;have hgn:=K2 hg (by rw [←ht];exact ((Kq hb)).1);refine B8 ?_;refine Ci [] (⟨j.k+1,j.t⟩) (⟨by show j.k+1≤_;omega,hgn,by show j.t=Ot _ (j.k+1);rw [J5 hk2,←ht];exact ((Kq hb)).2.symm⟩) (by show (Bk x).length-(j.k+1)<_;omega) ⟨rfl,rfl,trivial⟩ ⟨rfl,rfl,rfl,trivial⟩
   refine Ar ?_;have hx0:=hp1 _ (Am (d:=default) (show 0<(A5 ((Bk x).getD j.k default)).length by omega))
   refine B8 ?_;refine ⟨by exact ⟨A0r _,Int.natCast_pos.2 hx0⟩,?_⟩
   conv=>whnf
   refine Ar ?_;refine L8 (fun b2=>?_) fun b2=>?_
   ·refine Ar ?_
    have b2:C1 (Io ((Bk x).getD j.k default)) 0=35:=UInt8.toNat_inj.1 (Int.ofNat.inj b2);have hb:Le ((Bk x).getD j.k default):=⟨a,.inr b2⟩;have hgn:=K2 hg (by rw [←ht];exact ((Kq hb)).1);refine B8 ?_;refine Ci [] (⟨j.k+1,j.t⟩) (⟨by show j.k+1≤_;omega,hgn,by show j.t=Ot _ (j.k+1);rw [J5 hk2,←ht];exact ((Kq hb)).2.symm⟩) (by show (Bk x).length-(j.k+1)<_;omega) ⟨rfl,rfl,trivial⟩ ⟨rfl,rfl,rfl,trivial⟩
   have hb:¬ Le ((Bk x).getD j.k default):=fun c=>c.2.elim (fun c=>b A7) (fun c=>b2 (by show ((C1 (Io ((Bk x).getD j.k default)) 0).toNat:Int)=_;rw [c];rfl))
   refine Ar ?_;refine Cc (fun c=>?_) fun c=>?_
   ·have hst:=A9g hb c
    refine Ar ?_;refine zcP (D0v j.t.2 ((Bk x).getD j.k default) hsc hl a) hH hp fun r hr=>?_;refine Cc (fun d=>?_) fun d=>?_
    ·have d:r.2=false:=by simpa using d
     refine Ar ?_;refine An A0 rfl rfl ?_;rw [Do h0 hk2 hg (by rw [←ht,hst.1];exact B8o hr d)];exact Mm
    have d:r.2=true:=by simpa using d
    refine Ar ?_;have hgn:=K2 hg (by rw [←ht];exact ((A6i c hst hr d)).1);refine B8 ?_;refine Ci [(2,5),(3,6),(4,7)] (⟨j.k+1,(j.t.1,r.1)⟩) (⟨by show j.k+1≤_;omega,hgn,by show (j.t.1,r.1)=Ot _ (j.k+1);rw [J5 hk2,←ht];exact ((A6i c hst hr d)).2.symm⟩) (by show (Bk x).length-(j.k+1)<_;omega) ⟨rfl,rfl,trivial⟩ ⟨rfl,rfl,rfl,trivial⟩
   have c:j.t.1=false:=by simpa using c
   have hst:=A3c hb c;refine Ar ?_;refine zne (fun d=>?_) fun d=>?_
   ·refine Ar ?_
    refine An A0 rfl rfl ?_;rw [Do h0 hk2 hg (by rw [←ht,hst.1];exact Cb fun h=>d (by rw [h.2.1];rfl))];exact Mm
   have d:(A5 ((Bk x).getD j.k default)).length=3:=by omega
   have hx1:=hp0 _ (Am (d:=default) (show 1<(A5 ((Bk x).getD j.k default)).length by omega))
   have hx2:=hp0 _ (Am (d:=default) (show 2<(A5 ((Bk x).getD j.k default)).length by omega))
   refine Ar ?_;refine Cc (fun g=>?_) fun g=>?_
   ·have g:Io ((Bk x).getD j.k default)≠(⟨#[103,114,97,112,104]⟩:ByteArray):=fun e=>by
     rw [show (A5 ((Bk x).getD j.k default)).getD (Int.toNat 0) default=(⟨#[103,114,97,112,104]⟩:ByteArray) from e,Ex] at g
     cases g
    refine Ar ?_;refine An A0 rfl rfl ?_;rw [Do h0 hk2 hg (by rw [←ht,hst.1];exact Cb fun h=>g h.2.2.1)];exact Mm
   have g:Io ((Bk x).getD j.k default)=(⟨#[103,114,97,112,104]⟩:ByteArray):=A5p g;refine Ar ?_;refine As (H4 ((A5 ((Bk x).getD j.k default)).getD 1 default) A7) rfl (Er ?_);refine F0 (H4 ((A5 ((Bk x).getD j.k default)).getD 2 default) A7) ?_;refine Cc (fun e1=>?_) fun e1=>?_
   ·have e1:U7 ((A5 ((Bk x).getD j.k default)).getD 1 default)=false:=by simpa using e1
    refine Ar ?_;refine An A0 rfl rfl ?_;rw [Do h0 hk2 hg (by rw [←ht,hst.1];exact Cb fun h=>by have:=h.2.2.2.1;rw [e1] at this;cases this)];exact Mm
   have e1:U7 ((A5 ((Bk x).getD j.k default)).getD 1 default)=true:=by simpa using e1
   refine Ar ?_;refine Cc (fun e2=>?_) fun e2=>?_
   ·have e2:U7 ((A5 ((Bk x).getD j.k default)).getD 2 default)=false:=by simpa using e2
    refine Ar ?_;refine An A0 rfl rfl ?_;rw [Do h0 hk2 hg (by rw [←ht,hst.1];exact Cb fun h=>by have:=h.2.2.2.2;rw [e2] at this;cases this)];exact Mm
   have e2:U7 ((A5 ((Bk x).getD j.k default)).getD 2 default)=true:=by simpa using e2
   refine Ar ?_;have hgn:=K2 hg (by rw [←ht];exact ((show _∧_ from ⟨hst.1.trans (Dg ⟨a,d,g,e1,e2⟩),hst.2⟩)).1)
   refine B8 ?_;refine Ci [] (⟨j.k+1,(true,⟨⟨j.t.2.az.ak,Sd ((A5 ((Bk x).getD j.k default)).getD 1 default),Sd ((A5 ((Bk x).getD j.k default)).getD 2 default)⟩,j.t.2.au,j.t.2.aa,j.t.2.bq⟩)⟩) (⟨by show j.k+1≤_;omega,hgn,by show (true,⟨⟨j.t.2.az.ak,Sd ((A5 ((Bk x).getD j.k default)).getD 1 default),Sd ((A5 ((Bk x).getD j.k default)).getD 2 default)⟩,j.t.2.au,j.t.2.aa,j.t.2.bq⟩)=Ot _ (j.k+1);rw [J5 hk2,←ht];exact ((show _∧_ from ⟨hst.1.trans (Dg ⟨a,d,g,e1,e2⟩),hst.2⟩)).2.symm⟩) (by show (Bk x).length-(j.k+1)<_;omega) ⟨rfl,rfl,trivial⟩ ⟨rfl,rfl,rfl,trivial⟩
  have a:Gc ((Bk x).getD j.k default)=false:=by simpa using a
  have a2:(!Gc ((Bk x).getD j.k default))=true:=by rw [a];rfl
  refine Ar ?_;refine An A0 rfl rfl ?_;rw [Do h0 hk2 hg (C0v a)];exact Mm
 have e:j.k=(Bk x).length:=by omega
 refine Cc (fun a=>?_) fun a=>?_
 ·have a:j.t.1=false:=by simpa using a
  refine Ar ?_;refine An A0 rfl rfl ?_;rw [Oa h0 e hg (fun c=>by have:=c.1;rw [←ht,a] at this;cases this)];exact Mm
 have a:j.t.1=true:=by simpa using a
 have hgw:=(show A0u j.t.2 by rw [ht];exact B2l j.k hk hg).w.1
 refine Ar ?_;refine As (Oq j.t.2.az A7) rfl (Hd ?_);refine Cc (fun b=>?_) fun b=>?_
 ·have b:F5 j.t.2.az=false:=by simpa using b
  refine Ar ?_;refine An A0 rfl rfl ?_;rw [Oa h0 e hg (fun c=>by have:=c.2;rw [←ht,b] at this;cases this)];exact Mm
 have b:F5 j.t.2.az=true:=by simpa using b
 refine Ar ?_;have hr:=Wf h0 e hg (by rw [←ht];exact ⟨a,b⟩);rw [←ht] at hr;refine An A0 rfl rfl ?_;rw [hr];exact Mm
end Go.Proofs.YtmhcebdkjgkmlaaGreatDoor
