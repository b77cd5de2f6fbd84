/- Part 11 of the proof that each of the laws FnTold returns true for every input. No conditions. -/
import Derived.Test.YtdendlkeiaccpaaGreatDoorP5
import Derived.Test.YtdendlkeiaccpaaGreatDoorP7

set_option linter.unusedSimpArgs false
set_option linter.unusedVariables false
set_option maxRecDepth 100000
namespace Go.Proofs.YtdendlkeiaccpaaGreatDoor
open Go.Sx
def Z6 {α:Type} (l:List α) (k:Nat) (x:α):List α:=l.take k++x::l.drop k
theorem Jz (l:List Ag)(n:Nat):E4 n fun i=>Ag.c (l.getD i default):=by
 intro i hi c hc
 simp only [Ag.c,List.mem_cons,List.not_mem_nil,or_false] at hc
 rcases hc with rfl|rfl|rfl|rfl<;>exact ⟨_,rfl⟩
theorem A2c {α:Type} [Inhabited α] (e:α→List Ac)(l:List α){k:Nat}(hk:k≤l.length):F2 k (fun i=>e (l.getD i default))=Ik e (l.take k):=by
 rw [←Ns,List.length_take,Nat.min_eq_left hk]
 unfold F2
 simp only [List.flatMap_def]
 congr 1
 apply List.map_congr_left
 intro i hi
 have hi:=List.mem_range.1 hi
 rw [show (l.take k).getD i default=l.getD i default by simp [List.getD,List.getElem?_take,hi]]
theorem B5y {α:Type} [Inhabited α] (e:α→List Ac)(l:List α){k:Nat}(hk:k≤l.length)(pre Ct:List AV):pre++Ik e l++Ct=pre++F2 k (fun i=>e (l.getD i default))++(Ik e (l.drop k)++Ct):=by
 rw [A2c e l hk,List.append_assoc,List.append_assoc,←List.append_assoc (Ik e (l.take k)),←Jp,List.take_append_drop]
def Kr (l:List Ag) (k:Nat):List Ag:=l.take k++List.replicate (l.length+1-k) default
theorem Fl {l:List Ag}{k:Nat}(hk:k≤l.length):(Kr l k).length=l.length+1:=by
 rw [Kr,List.length_append,List.length_take,List.length_replicate]
 omega
theorem A94 {l:List Ag}{k i:Nat}(hk:k≤l.length)(hi:i<k):(Kr l k).getD i default=l.getD i default:=by
 unfold Kr
 simp only [List.getD]
 rw [List.getElem?_append_left (by rw [List.length_take];omega),List.getElem?_take,if_pos hi]
theorem A93 {l:List Ag}{k i:Nat}(hk:k≤l.length)(hi:k≤i):(Kr l k).getD i default=default:=by
 unfold Kr
 simp only [List.getD]
 rw [List.getElem?_append_right (by rw [List.length_take];omega),List.getElem?_replicate]
 split<;>rfl
theorem A1c {l:List Ag}{k:Nat}(hk:k<l.length)(pre Ct:List AV):pre++Ik Ag.c (Kr l k)++Ct=(pre++Ik Ag.c (l.take k))++Ik Ag.c [(default:Ag)]++(Ik Ag.c (List.replicate (l.length-k) (default:Ag))++Ct):=by
 rw [Kr,show l.length+1-k=(l.length-k)+1 by omega,List.replicate_succ,show (default:Ag)::List.replicate (l.length-k) default=[default]++List.replicate (l.length-k) default from rfl,Jp,Jp]
 simp only [List.append_assoc]
theorem Lb {l:List Ag}{k:Nat}{x:Ag}(hk:k≤l.length):(Z6 l k x).length=l.length+1:=by
 rw [Z6,List.length_append,List.length_cons,List.length_take,List.length_drop]
 omega
theorem S3 (l:List Ag):(Ik Ag.c l).length=l.length * 4:=B4j (es:=4) (fun _=>rfl) l
theorem A1k (l:List Ag)(k:Nat)(x:Ag)(pre Ct:List AV):pre++Ik Ag.c (Z6 l k x)++Ct=(pre++Ik Ag.c (l.take k)++Ik Ag.c [x])++Ik Ag.c (l.drop k)++Ct:=by
 rw [Z6,show x::l.drop k=[x]++l.drop k from rfl,Jp,Jp]
 simp only [List.append_assoc]
set_option maxHeartbeats 4000000 in
theorem Uh (l:List Ag)(k:Nat)(x:Ag)(hk:k≤l.length)(hl:l.length≤16777216):Jb Tryz.prog (fun _=>True) 176 [] [.one (Ak l),.one (vi k),.one (Ak [x])] [] (fun _:Unit=>True) (fun _=>[.one (Ak (Z6 l k x))]):=by
 refine N5 A0 false Tryz.func176 rfl Aw fun B hH hp=>?_
 conv=>whnf
 refine B1p A0 rfl rfl rfl rfl rfl rfl rfl (l:=(k:Int)) rfl ⟨by omega,by show (k:Int)≤(l.length:Int);omega⟩ (A8 ?_)
 repeat refine Bj ?_
 refine ⟨fun he=>?_,fun he=>?_⟩<;>conv=>whnf
 ·have he:(k:Int)=l.length:=eq_of_beq he
  obtain rfl:k=l.length:=by omega
  rw [show Z6 l l.length x=l++[x] by unfold Z6;rw [List.take_length,List.drop_length]]
  refine B1 A0 rfl rfl rfl rfl rfl rfl rfl rfl rfl rfl rfl (Ak (l++[x])) (Aa rfl) Bg (by show l.length+1≤_;omega) (A8 ?_)
  exact Vc A0 () trivial rfl rfl Ay
 have he:(k:Int)≠l.length:=beq_eq_false_iff_ne.1 he
 have hkl:k<l.length:=by omega
 refine ⟨by (have:(([x].length:Nat):Int)=1:=rfl;rw [this];show _∧_;omega),?_⟩
 conv=>whnf
 refine A6b 0 4 Ag.c l rfl Ab (Jz l _) (fun b off cap pre Ct p1 p2 p3 p4=>?_)
 refine Qo 0 0 rfl rfl ?_
 refine Qo 29 0 rfl rfl ?_
 refine B7h A0 rfl rfl rfl rfl rfl (Ug A0 false ?_)
 conv=>whnf
 refine ⟨fun hc=>?_,fun hc=>?_⟩<;>conv=>whnf
 ·have hc:cap<l.length+1:=by
   have:=of_decide_eq_true hc
   have e1:(([x].length:Nat):Int)=1:=rfl
   omega
  have hcl:cap=l.length:=by omega
  refine M9 A0 rfl rfl rfl rfl rfl rfl (l:=0) (h:=(k:Int)) rfl rfl ⟨by omega,by omega,by omega,fun h=>by (try cases h),by omega⟩ (off * 4) k cap Bw Bw Bw (Ug A0 false ?_)
  conv=>whnf
  refine ⟨by (have e1:(([x].length:Nat):Int)=1:=rfl;rw [e1];show _∧_;omega),?_⟩
  conv=>whnf
  refine ⟨by (have e1:(([x].length:Nat):Int)=1:=rfl;rw [e1];show _∧_;omega),?_⟩
  conv=>whnf
  rw [show ((l.length:Int)+(([x].length:Nat):Int))-(k:Int)=((l.length+1-k:Nat):Int) by have e1:(([x].length:Nat):Int)=1:=rfl;omega]
  refine B7f (kb:=2) (k:=l.length+1-k) (row:=fun i=>Ag.c (l.getD i default)) A0 rfl rfl rfl rfl rfl rfl rfl rfl rfl rfl rfl rfl pre (Ik Ag.c (l.drop k)++Ct) (by exact B5y Ag.c l hk pre Ct) (by exact p1) rfl Aw (by exact fun _ _=>rfl) (by exact Jz l _) Ab Ab Ab rfl (fun i=>Ag.c ((Kr l k).getD i default)) (fun i hi=>by rw [A94 hk hi]) (fun i hi _=>by rw [A93 hk hi];rfl) (Ug A0 false ?_)
  conv=>whnf
  rw [show (Ac.sl (k+(l.length+1-k)) 4 fun i=>Ag.c ((Kr l k).getD i default))=Is 4 Ag.c (Kr l k) by unfold Is;rw [Fl hk];congr 1;omega]
  refine A6b 3 4 Ag.c (Kr l k) rfl (by rw [Fl hk];omega) (Jz _ _) (fun b2 off2 cap2 pre2 post2 q1 q2 q3 q4=>?_)
  rw [Fl hk] at q2 q4
  refine Qo 9 3 rfl rfl ?_
  refine Qo 41 3 rfl rfl ?_
  refine M9 A0 rfl rfl rfl rfl rfl rfl (l:=(k:Int)) (h:=((Kr l k).length:Int)) rfl rfl ⟨by omega,by rw [Fl hk];omega,by rw [Fl hk];omega,fun _=>by rw [Fl hk];omega,by omega⟩ (off2 * 4+k * 4) (l.length+1-k) (cap2-k) Bw (by rw [Fl hk];simp) Bw (Ug A0 false ?_)
  conv=>whnf
  refine A89 (kb:=4) A0 rfl rfl rfl rfl rfl rfl rfl rfl rfl rfl (by exact Jz [x] _) (by exact Nat.one_pos) rfl (by show 1≤_;omega) (pre2++Ik Ag.c (l.take k)) (Ik Ag.c [(default:Ag)]) (Ik Ag.c (List.replicate (l.length-k) (default:Ag))++post2) (by exact A1c hkl pre2 post2) (by rw [List.length_append,S3,List.length_take,q1];omega) (by rfl) (Ug A0 false ?_)
  conv=>whnf
  have t1:(l.take k).length=k:=by rw [List.length_take];omega
  have t2:(l.drop k).length=l.length-k:=List.length_drop
  have e1:(([x].length:Nat):Int)=1:=rfl
  rw [show F2 [x].length (fun i=>Ag.c ([x].getD i default))=Ik Ag.c [x] from Ns Ag.c [x]]
  refine J8 rfl ?_
  refine Bu A0 false 0 rfl rfl A7 rfl (A4 B2) ?_
  refine Bu A0 false 1 rfl rfl A7 rfl (A4 B2) ?_
  refine Bu A0 false 2 rfl rfl A7 rfl (A4 B2) ?_
  refine Bu A0 false 3 rfl rfl A7 rfl (A4 B2) ?_
  refine Bu A0 false 5 rfl rfl A7 rfl (A4 B2) ?_
  refine Bu A0 false 6 rfl rfl A7 rfl (A4 B2) ?_
  refine Ej (s':=?_) 4 rfl A7 ?_ ?_
  rotate_left
  refine Ug A0 false ?_
  conv=>whnf
  refine M9 A0 rfl rfl rfl rfl rfl rfl (l:=(k:Int)+(([x].length:Nat):Int)) (h:=((Kr l k).length:Int)) rfl rfl ⟨by omega,by rw [Fl hk];omega,by rw [Fl hk];omega,fun _=>by rw [Fl hk];omega,by omega⟩ (off2 * 4+(k+1) * 4) (l.length-k) (cap2-(k+1)) (by rw [e1];rfl) (by rw [Fl hk,e1];omega) (by rw [e1];rfl) (Ug A0 false ?_)
  conv=>whnf
  exact Bf
  refine Ej (s':=?_) 7 rfl A7 ?_ ?_
  rotate_left
  refine Ug A0 false ?_
  conv=>whnf
  refine M9 A0 rfl rfl rfl rfl rfl rfl (l:=(k:Int)) (h:=(l.length:Int)) rfl rfl ⟨by omega,by omega,by omega,fun _=>by omega,by omega⟩ (off * 4+k * 4) (l.length-k) (cap-k) Bw Bw Bw (Ug A0 false ?_)
  conv=>whnf
  exact Bf
  refine Lf [8] [] A7 ?_
  refine Bm (s':=?_) A0 rfl A7 E5 ?_ ?_
  rotate_left
  refine Ug A0 false ?_
  conv=>whnf
  refine A9a (kb:=4) (kb2:=2) A0 rfl rfl rfl rfl rfl rfl rfl rfl rfl rfl rfl (pre2++Ik Ag.c (l.take k)++Ik Ag.c [x]) (Ik Ag.c (List.replicate (l.length-k) (default:Ag))) post2 (pre++Ik Ag.c (l.take k)) (Ik Ag.c (l.drop k)) Ct (by simp only [List.append_assoc]) (by rw [List.length_append,List.length_append,S3,S3,t1,q1];simp;omega) (by rw [S3,S3,t2,List.length_replicate]) (by rw [←List.take_append_drop k l,Jp,List.take_append_drop];simp only [List.append_assoc]) (by rw [List.length_append,S3,t1,p1]) (by rw [S3,t2,show Nat.min (l.length-k) (l.length-k)=_ from Nat.min_self _]) (by exact B44 Ag.c _) (Ug A0 false ?_)
  conv=>whnf
  exact Bf
  refine K3 A0 A7 E5 (GW.out (Ug A0 false ?_))
  conv=>whnf
  refine B42 Tryz.prog 6 4 off2 4 Ag.c (Z6 l k x) pre2 post2 rfl (by exact (A1k l k x pre2 post2).symm) (by exact q1) (fun _=>rfl) (Jz _ _) (by exact q3) (by exact ⟨by rw [Lb hk];exact q2,by rw [Lb hk];exact q4⟩) rfl rfl rfl (by rw [Fl hk,Lb hk]) ?_
  exact Vc A0 () trivial rfl rfl Ay
 have hc:l.length+1≤cap:=by
  have:=of_decide_eq_false hc
  have e1:(([x].length:Nat):Int)=1:=rfl
  omega
 have t1:(l.take k).length=k:=by rw [List.length_take];omega
 have t2:(l.drop k).length=l.length-k:=List.length_drop
 have e1:(([x].length:Nat):Int)=1:=rfl
 have hp4:4≤Ct.length:=by have q:=Nat.mul_le_mul_right 4 (show 1≤cap-l.length from by omega);omega
 refine ⟨by (rw [e1];show _∧_;omega),?_⟩
 conv=>whnf
 refine M9 A0 rfl rfl rfl rfl rfl rfl (l:=0) (h:=(l.length:Int)+(([x].length:Nat):Int)) rfl rfl (by refine ⟨by omega,by omega,by omega,?_,by omega⟩;intro h;exact absurd h Bw) (off * 4) (l.length+1) cap Bw (by rw [e1];rfl) Bw (Ug A0 false ?_)
 conv=>whnf
 refine ⟨by (rw [e1];show _∧_;omega),?_⟩
 conv=>whnf
 refine M9 A0 rfl rfl rfl rfl rfl rfl (l:=(k:Int)+(([x].length:Nat):Int)) (h:=((l.length+1:Nat):Int)) rfl rfl ⟨by omega,by omega,by omega,fun _=>by omega,by omega⟩ (off * 4+(k+1) * 4) (l.length-k) (cap-(k+1)) (by rw [e1];rfl) (by rw [e1];omega) (by rw [e1];rfl) (B7l 0 A0 false ?_)
 conv=>whnf
 refine A7w (kb:=2) A0 rfl rfl rfl rfl rfl rfl rfl rfl rfl rfl rfl rfl (by exact Nat.one_pos) rfl rfl rfl (by rw [List.length_append,List.length_append];omega) (Ug A0 false ?_)
 conv=>whnf
 repeat refine Bj ?_
 have k1:l.take (k+1)=l.take k++[l.getD k default]:=by
  rw [List.take_succ_eq_append_getElem hkl]
  simp [List.getD,hkl]
 have c1:pre++Ik Ag.c l++Ct=(pre++Ik Ag.c (l.take (k+1)))++(Ik Ag.c (l.drop (k+1))++Ct.take 4)++Ct.drop 4:=by
  conv=>lhs;rw [←List.take_append_drop (k+1) l,Jp,←List.take_append_drop 4 Ct]
  simp only [List.append_assoc]
 have c2:pre++Ik Ag.c l++Ct=(pre++Ik Ag.c (l.take k))++Ik Ag.c (l.drop k)++Ct:=by
  conv=>lhs;rw [←List.take_append_drop k l,Jp]
  simp only [List.append_assoc]
 have c3:(pre++Ik Ag.c (l.take (k+1)))++Ik Ag.c (l.drop k)++Ct.drop 4=(pre++Ik Ag.c (l.take k))++Ik Ag.c [l.getD k default]++(Ik Ag.c (l.drop k)++Ct.drop 4):=by
  rw [k1,Jp]
  simp only [List.append_assoc]
 have t3:(l.take (k+1)).length=k+1:=by rw [List.length_take];omega
 have t4:(l.drop (k+1)).length=l.length-(k+1):=List.length_drop
 have t5:(Ct.take 4).length=4:=by rw [List.length_take];omega
 refine J8 rfl ?_
 refine Bu A0 false 0 rfl rfl A7 rfl (A4 B2) ?_
 refine Bu A0 false 1 rfl rfl A7 rfl (A4 B2) ?_
 refine Bu A0 false 2 rfl rfl A7 rfl (A4 B2) ?_
 refine Bu A0 false 3 rfl rfl A7 rfl (A4 B2) ?_
 refine Bu A0 false 5 rfl rfl A7 rfl (A4 B2) ?_
 refine Bu A0 false 6 rfl rfl A7 rfl (A4 B2) ?_
 refine Ej (s':=?_) 4 rfl A7 ?_ ?_
 rotate_left
 refine Ug A0 false ?_
 conv=>whnf
 refine M9 A0 rfl rfl rfl rfl rfl rfl (l:=(k:Int)+(([x].length:Nat):Int)) (h:=((l.length+1:Nat):Int)) rfl rfl ⟨by omega,by omega,by omega,fun _=>by omega,by omega⟩ (off * 4+(k+1) * 4) (l.length-k) (cap-(k+1)) (by rw [e1];rfl) (by rw [e1];omega) (by rw [e1];rfl) (Ug A0 false ?_)
 conv=>whnf
 exact Bf
 refine Ej (s':=?_) 7 rfl A7 ?_ ?_
 rotate_left
 refine Ug A0 false ?_
 conv=>whnf
 refine M9 A0 rfl rfl rfl rfl rfl rfl (l:=(k:Int)) (h:=((l.length+1:Nat):Int)) rfl rfl ⟨by omega,by omega,by omega,fun _=>by omega,by omega⟩ (off * 4+k * 4) (l.length+1-k) (cap-k) Bw Bw Bw (Ug A0 false ?_)
 conv=>whnf
 exact Bf
 refine Lf [8] [] A7 ?_
 refine Bm (s':=?_) A0 rfl A7 E5 ?_ ?_
 rotate_left
 refine Ug A0 false ?_
 conv=>whnf
 refine A9a (kb:=2) (kb2:=2) A0 rfl rfl rfl rfl rfl rfl rfl rfl rfl rfl rfl (pre++Ik Ag.c (l.take (k+1))) (Ik Ag.c (l.drop (k+1))++Ct.take 4) (Ct.drop 4) (pre++Ik Ag.c (l.take k)) (Ik Ag.c (l.drop k)) Ct (by exact c1) (by rw [List.length_append,S3,t3,p1]) (by rw [List.length_append,S3,S3,t2,t4,t5];omega) (by exact c2) (by rw [List.length_append,S3,t1,p1]) (by rw [S3,t2,show Nat.min (l.length+1-k) (l.length-k)=l.length-k from Nat.min_eq_right Ab]) (by exact B44 Ag.c _) (Ug A0 false ?_)
 conv=>whnf
 exact Bf
 refine K3 A0 A7 E5 (GW.out (Ug A0 false ?_))
 conv=>whnf
 rw [c3]
 refine M9 A0 rfl rfl rfl rfl rfl rfl (l:=(k:Int)) (h:=((l.length+1:Nat):Int)) rfl rfl ⟨by omega,by omega,by omega,fun _=>by omega,by omega⟩ (off * 4+k * 4) (l.length+1-k) (cap-k) Bw Bw Bw (Ug A0 false ?_)
 conv=>whnf
 refine A89 (kb:=2) A0 rfl rfl rfl rfl rfl rfl rfl rfl rfl rfl (by exact Jz [x] _) (by exact Nat.one_pos) rfl (by show 1≤_;omega) (pre++Ik Ag.c (l.take k)) (Ik Ag.c [l.getD k default]) (Ik Ag.c (l.drop k)++Ct.drop 4) rfl (by rw [List.length_append,S3,t1,p1]) (by rfl) (Ug A0 false ?_)
 conv=>whnf
 rw [show F2 [x].length (fun i=>Ag.c ([x].getD i default))=Ik Ag.c [x] from Ns Ag.c [x]]
 refine B42 Tryz.prog 6 2 off 4 Ag.c (Z6 l k x) pre (Ct.drop 4) rfl (by rw [A1k];simp only [List.append_assoc]) (by exact p1) (fun _=>rfl) (Jz _ _) (by exact p3) (by exact ⟨by rw [Lb hk];exact hc,by rw [Lb hk,List.length_drop];omega⟩) rfl rfl rfl (by rw [Lb hk]) ?_
 exact Vc A0 () trivial rfl rfl Ay
def Ix (l:List Ag) (x:Ag):Bool:=l.any fun y=>decide (y=x)
def Ie (l:List Ag) (x:Ag):Nat:=Ga (fun y=>!decide (Iv y x<0)) l
def Cs (l:List Ag) (x:Ag):List Ag:=if Ix l x=true then l else l.take (Ie l x)++x::l.drop (Ie l x)
def Zb (op e k:Int) (s:Int×Bool) (x:Ag):Int×Bool:=if (x.op=op∧x.epoch=e∧x.key=k)∧(s.2=false∨x.val<s.1) then (x.val,true) else s
def Jk (l:List Ag) (op e k:Int):Int×Bool:=l.foldl (Zb op e k) (0,false)
def Bt (a b:Ag):Bool:=decide (a.op=b.op∧a.epoch=b.epoch∧a.key=b.key)
def Ut (l:List Ag) (x:Ag):Prop:=(Jk l x.op x.epoch x.key).2=true∧(Jk l x.op x.epoch x.key).1≤x.val
instance (l:List Ag) (x:Ag):Decidable (Ut l x):=by unfold Ut;infer_instance
def Jd (l:List Ag) (x:Ag):List Ag×Bool:=if Ut l x then (l,false) else (Cs (l.filter fun y=>!Bt x y) x,true)
def Dv (k:Int) (l:List Ag) (x:Ag):List Ag×Bool:=
 if k=5∨k=8 then Jd l x else if k=6 then (if Ix l x=true then (l,false) else (Cs l x,true)) else (l,true)
end Go.Proofs.YtdendlkeiaccpaaGreatDoor
