/- Part 18 of the proof that each of the laws FnExactRunScriptOf, FnExactSpreadResult returns true for every input. No conditions. -/
import Derived.Test.YtlbmkgkmbjadcaaGreatP5
import Derived.Test.YtlbmkgkmbjadcaaGreatP8

set_option linter.unusedSimpArgs false
set_option linter.unusedVariables false
set_option maxRecDepth 100000
namespace Go.Proofs.YtlbmkgkmbjadcaaGreat
open Go.Sx
def A05 {α:Type} (l:List α) (k:Nat) (x:α):List α:=l.take k++x::l.drop k
theorem J8 (l:List Aa)(n:Nat):El n fun i=>Aa.c (l.getD i default):=by
 intro i hi c hc
 simp only [Aa.c,List.mem_cons,List.not_mem_nil,or_false] at hc
 rcases hc with rfl|rfl|rfl|rfl<;>exact ⟨_,rfl⟩
theorem A34 {α:Type} [Inhabited α] (e:α→List Ab)(l:List α){k:Nat}(hk:k≤l.length):Fq k (fun i=>e (l.getD i default))=Gf e (l.take k):=by
 rw [←Pp,List.length_take,Nat.min_eq_left hk]
 unfold Fq
 simp only [List.flatMap_def]
 congr 1
 apply List.map_congr_left
 intro i hi
 have hi:=List.mem_range.1 hi
 rw [show (l.take k).getD i default=l.getD i default by simp [List.getD,List.getElem?_take,hi]]
theorem B6f {α:Type} [Inhabited α] (e:α→List Ab)(l:List α){k:Nat}(hk:k≤l.length)(pre Ck:List AV):pre++Gf e l++Ck=pre++Fq k (fun i=>e (l.getD i default))++(Gf e (l.drop k)++Ck):=by
 rw [A34 e l hk,List.append_assoc,List.append_assoc,←List.append_assoc (Gf e (l.take k)),←H4,List.take_append_drop]
def Mb (l:List Aa) (k:Nat):List Aa:=l.take k++List.replicate (l.length+1-k) default
theorem G4 {l:List Aa}{k:Nat}(hk:k≤l.length):(Mb l k).length=l.length+1:=by
 rw [Mb,List.length_append,List.length_take,List.length_replicate]
 omega
theorem B15 {l:List Aa}{k i:Nat}(hk:k≤l.length)(hi:i<k):(Mb l k).getD i default=l.getD i default:=by
 unfold Mb
 simp only [List.getD]
 rw [List.getElem?_append_left (by rw [List.length_take];omega),List.getElem?_take,if_pos hi]
theorem B14 {l:List Aa}{k i:Nat}(hk:k≤l.length)(hi:k≤i):(Mb l k).getD i default=default:=by
 unfold Mb
 simp only [List.getD]
 rw [List.getElem?_append_right (by rw [List.length_take];omega),List.getElem?_replicate]
 split<;>rfl
theorem A2y {l:List Aa}{k:Nat}(hk:k<l.length)(pre Ck:List AV):pre++Gf Aa.c (Mb l k)++Ck=(pre++Gf Aa.c (l.take k))++Gf Aa.c [(default:Aa)]++(Gf Aa.c (List.replicate (l.length-k) (default:Aa))++Ck):=by
 rw [Mb,show l.length+1-k=(l.length-k)+1 by omega,List.replicate_succ,show (default:Aa)::List.replicate (l.length-k) default=[default]++List.replicate (l.length-k) default from rfl,H4,H4]
 simp only [List.append_assoc]
theorem N0 {l:List Aa}{k:Nat}{x:Aa}(hk:k≤l.length):(A05 l k x).length=l.length+1:=by
 rw [A05,List.length_append,List.length_cons,List.length_take,List.length_drop]
 omega
theorem Tr (l:List Aa):(Gf Aa.c l).length=l.length * 4:=A13 (es:=4) (fun _=>rfl) l
theorem A3e (l:List Aa)(k:Nat)(x:Aa)(pre Ck:List AV):pre++Gf Aa.c (A05 l k x)++Ck=(pre++Gf Aa.c (l.take k)++Gf Aa.c [x])++Gf Aa.c (l.drop k)++Ck:=by
 rw [A05,show x::l.drop k=[x]++l.drop k from rfl,H4,H4]
 simp only [List.append_assoc]
set_option maxHeartbeats 4000000 in
theorem Wh (l:List Aa)(k:Nat)(x:Aa)(hk:k≤l.length)(hl:l.length≤16777216):Qv Tryz.prog (fun _=>True) 241 [] [.one (Ao l),.one (vi k),.one (Ao [x])] [] (fun _:Unit=>True) (fun _=>[.one (Ao (A05 l k x))]):=by
 refine A49 A0 false Tryz.func241 rfl Bs fun B hH hp=>?_
 conv=>whnf
 refine B3d A0 rfl rfl rfl rfl rfl rfl rfl (l:=(k:Int)) rfl ⟨by omega,by show (k:Int)≤(l.length:Int);omega⟩ (Ae ?_)
 repeat refine B9 ?_
 refine ⟨fun he=>?_,fun he=>?_⟩<;>conv=>whnf
 ·have he:(k:Int)=l.length:=eq_of_beq he
  obtain rfl:k=l.length:=by omega
  rw [show A05 l l.length x=l++[x] by unfold A05;rw [List.take_length,List.drop_length]]
  refine Bm A0 rfl rfl rfl rfl rfl rfl rfl rfl rfl rfl rfl (Ao (l++[x])) (Bh rfl) Ef (by show l.length+1≤_;omega) (Ae ?_)
  exact A6a A0 () trivial rfl rfl C1
 ·have he:(k:Int)≠l.length:=beq_eq_false_iff_ne.1 he
  have hkl:k<l.length:=by omega
  refine ⟨by (have:(([x].length:Nat):Int)=1:=rfl;rw [this];show _∧_;omega),?_⟩
  conv=>whnf
  refine V5 0 4 Aa.c l rfl Ad (J8 l _) (fun b off cap pre Ck p1 p2 p3 p4=>?_)
  refine Ln 0 0 rfl rfl ?_
  refine Ln 29 0 rfl rfl ?_
  refine B7k A0 rfl rfl rfl rfl rfl (Lj A0 false ?_)
  conv=>whnf
  refine ⟨fun hc=>?_,fun hc=>?_⟩<;>conv=>whnf
  ·have hc:cap<l.length+1:=by
    have:=of_decide_eq_true hc
    have e1:(([x].length:Nat):Int)=1:=rfl
    omega
   have hcl:cap=l.length:=by omega
   refine I6 A0 rfl rfl rfl rfl rfl rfl (l:=0) (h:=(k:Int)) rfl rfl ⟨by omega,by omega,by omega,fun h=>by (try cases h),by omega⟩ (off * 4) k cap C7 C7 C7 (Lj A0 false ?_)
   conv=>whnf
   refine ⟨by (have e1:(([x].length:Nat):Int)=1:=rfl;rw [e1];show _∧_;omega),?_⟩
   conv=>whnf
   refine ⟨by (have e1:(([x].length:Nat):Int)=1:=rfl;rw [e1];show _∧_;omega),?_⟩
   conv=>whnf
   rw [show ((l.length:Int)+(([x].length:Nat):Int))-(k:Int)=((l.length+1-k:Nat):Int) by have e1:(([x].length:Nat):Int)=1:=rfl;omega]
   refine B7j (kb:=2) (k:=l.length+1-k) (row:=fun i=>Aa.c (l.getD i default)) A0 rfl rfl rfl rfl rfl rfl rfl rfl rfl rfl rfl rfl pre (Gf Aa.c (l.drop k)++Ck) (by exact B6f Aa.c l hk pre Ck) (by exact p1) rfl Bs (by exact fun _ _=>rfl) (by exact J8 l _) Ad Ad Ad rfl (fun i=>Aa.c ((Mb l k).getD i default)) (fun i hi=>by rw [B15 hk hi]) (fun i hi _=>by rw [B14 hk hi];rfl) (Lj A0 false ?_)
   conv=>whnf
   rw [show (Ab.sl (k+(l.length+1-k)) 4 fun i=>Aa.c ((Mb l k).getD i default))=Cb 4 Aa.c (Mb l k) by unfold Cb;rw [G4 hk];congr 1;omega]
   refine V5 3 4 Aa.c (Mb l k) rfl (by rw [G4 hk];omega) (J8 _ _) (fun b2 off2 cap2 pre2 post2 q1 q2 q3 q4=>?_)
   rw [G4 hk] at q2 q4
   refine Ln 9 3 rfl rfl ?_
   refine Ln 41 3 rfl rfl ?_
   refine I6 A0 rfl rfl rfl rfl rfl rfl (l:=(k:Int)) (h:=((Mb l k).length:Int)) rfl rfl ⟨by omega,by rw [G4 hk];omega,by rw [G4 hk];omega,fun _=>by rw [G4 hk];omega,by omega⟩ (off2 * 4+k * 4) (l.length+1-k) (cap2-k) C7 (by rw [G4 hk];simp) C7 (Lj A0 false ?_)
   conv=>whnf
   refine B1f (kb:=4) A0 rfl rfl rfl rfl rfl rfl rfl rfl rfl rfl (by exact J8 [x] _) (by exact Nat.one_pos) rfl (by show 1≤_;omega) (pre2++Gf Aa.c (l.take k)) (Gf Aa.c [(default:Aa)]) (Gf Aa.c (List.replicate (l.length-k) (default:Aa))++post2) (by exact A2y hkl pre2 post2) (by rw [List.length_append,Tr,List.length_take,q1];omega) (by rfl) (Lj A0 false ?_)
   conv=>whnf
   have t1:(l.take k).length=k:=by rw [List.length_take];omega
   have t2:(l.drop k).length=l.length-k:=List.length_drop
   have e1:(([x].length:Nat):Int)=1:=rfl
   rw [show Fq [x].length (fun i=>Aa.c ([x].getD i default))=Gf Aa.c [x] from Pp Aa.c [x]]
   refine Gl rfl ?_
   refine Bk A0 false 0 rfl rfl A5 rfl (Af D7) ?_
   refine Bk A0 false 1 rfl rfl A5 rfl (Af D7) ?_
   refine Bk A0 false 2 rfl rfl A5 rfl (Af D7) ?_
   refine Bk A0 false 3 rfl rfl A5 rfl (Af D7) ?_
   refine Bk A0 false 5 rfl rfl A5 rfl (Af D7) ?_
   refine Bk A0 false 6 rfl rfl A5 rfl (Af D7) ?_
   refine Cj (s':=?_) 4 rfl A5 ?_ ?_
   rotate_left
   refine Lj A0 false ?_
   conv=>whnf
   refine I6 A0 rfl rfl rfl rfl rfl rfl (l:=(k:Int)+(([x].length:Nat):Int)) (h:=((Mb l k).length:Int)) rfl rfl ⟨by omega,by rw [G4 hk];omega,by rw [G4 hk];omega,fun _=>by rw [G4 hk];omega,by omega⟩ (off2 * 4+(k+1) * 4) (l.length-k) (cap2-(k+1)) (by rw [e1];rfl) (by rw [G4 hk,e1];omega) (by rw [e1];rfl) (Lj A0 false ?_)
   conv=>whnf
   exact Ax
   refine Cj (s':=?_) 7 rfl A5 ?_ ?_
   rotate_left
   refine Lj A0 false ?_
   conv=>whnf
   refine I6 A0 rfl rfl rfl rfl rfl rfl (l:=(k:Int)) (h:=(l.length:Int)) rfl rfl ⟨by omega,by omega,by omega,fun _=>by omega,by omega⟩ (off * 4+k * 4) (l.length-k) (cap-k) C7 C7 C7 (Lj A0 false ?_)
   conv=>whnf
   exact Ax
   refine Jo [8] [] A5 ?_
   refine Bf (s':=?_) A0 rfl A5 F1 ?_ ?_
   rotate_left
   refine Lj A0 false ?_
   conv=>whnf
   refine B1g (kb:=4) (kb2:=2) A0 rfl rfl rfl rfl rfl rfl rfl rfl rfl rfl rfl (pre2++Gf Aa.c (l.take k)++Gf Aa.c [x]) (Gf Aa.c (List.replicate (l.length-k) (default:Aa))) post2 (pre++Gf Aa.c (l.take k)) (Gf Aa.c (l.drop k)) Ck (by simp only [List.append_assoc]) (by rw [List.length_append,List.length_append,Tr,Tr,t1,q1];simp;omega) (by rw [Tr,Tr,t2,List.length_replicate]) (by rw [←List.take_append_drop k l,H4,List.take_append_drop];simp only [List.append_assoc]) (by rw [List.length_append,Tr,t1,p1]) (by rw [Tr,t2,show Nat.min (l.length-k) (l.length-k)=_ from Nat.min_self _]) (by exact B3q Aa.c _) (Lj A0 false ?_)
   conv=>whnf
   exact Ax
   refine I7 A0 A5 F1 (GW.out (Lj A0 false ?_))
   conv=>whnf
   refine A3t Tryz.prog 6 4 off2 4 Aa.c (A05 l k x) pre2 post2 rfl (by exact (A3e l k x pre2 post2).symm) (by exact q1) (fun _=>rfl) (J8 _ _) (by exact q3) (by exact ⟨by rw [N0 hk];exact q2,by rw [N0 hk];exact q4⟩) rfl rfl rfl (by rw [G4 hk,N0 hk]) ?_
   exact A6a A0 () trivial rfl rfl C1
  ·have hc:l.length+1≤cap:=by
    have:=of_decide_eq_false hc
    have e1:(([x].length:Nat):Int)=1:=rfl
    omega
   have t1:(l.take k).length=k:=by rw [List.length_take];omega
   have t2:(l.drop k).length=l.length-k:=List.length_drop
   have e1:(([x].length:Nat):Int)=1:=rfl
   have hp4:4≤Ck.length:=by have q:=Nat.mul_le_mul_right 4 (show 1≤cap-l.length from by omega);omega
   refine ⟨by (rw [e1];show _∧_;omega),?_⟩
   conv=>whnf
   refine I6 A0 rfl rfl rfl rfl rfl rfl (l:=0) (h:=(l.length:Int)+(([x].length:Nat):Int)) rfl rfl (by refine ⟨by omega,by omega,by omega,?_,by omega⟩;intro h;exact absurd h C7) (off * 4) (l.length+1) cap C7 (by rw [e1];rfl) C7 (Lj A0 false ?_)
   conv=>whnf
   refine ⟨by (rw [e1];show _∧_;omega),?_⟩
   conv=>whnf
   refine I6 A0 rfl rfl rfl rfl rfl rfl (l:=(k:Int)+(([x].length:Nat):Int)) (h:=((l.length+1:Nat):Int)) rfl rfl ⟨by omega,by omega,by omega,fun _=>by omega,by omega⟩ (off * 4+(k+1) * 4) (l.length-k) (cap-(k+1)) (by rw [e1];rfl) (by rw [e1];omega) (by rw [e1];rfl) (B7m 0 A0 false ?_)
   conv=>whnf
   refine A9x (kb:=2) A0 rfl rfl rfl rfl rfl rfl rfl rfl rfl rfl rfl rfl (by exact Nat.one_pos) rfl rfl rfl (by rw [List.length_append,List.length_append];omega) (Lj A0 false ?_)
   conv=>whnf
   repeat refine B9 ?_
   have k1:l.take (k+1)=l.take k++[l.getD k default]:=by
    rw [List.take_succ_eq_append_getElem hkl]
    simp [List.getD,hkl]
   have c1:pre++Gf Aa.c l++Ck=(pre++Gf Aa.c (l.take (k+1)))++(Gf Aa.c (l.drop (k+1))++Ck.take 4)++Ck.drop 4:=by
    conv=>lhs;rw [←List.take_append_drop (k+1) l,H4,←List.take_append_drop 4 Ck]
    simp only [List.append_assoc]
   have c2:pre++Gf Aa.c l++Ck=(pre++Gf Aa.c (l.take k))++Gf Aa.c (l.drop k)++Ck:=by
    conv=>lhs;rw [←List.take_append_drop k l,H4]
    simp only [List.append_assoc]
   have c3:(pre++Gf Aa.c (l.take (k+1)))++Gf Aa.c (l.drop k)++Ck.drop 4=(pre++Gf Aa.c (l.take k))++Gf Aa.c [l.getD k default]++(Gf Aa.c (l.drop k)++Ck.drop 4):=by
    rw [k1,H4]
    simp only [List.append_assoc]
   have t3:(l.take (k+1)).length=k+1:=by rw [List.length_take];omega
   have t4:(l.drop (k+1)).length=l.length-(k+1):=List.length_drop
   have t5:(Ck.take 4).length=4:=by rw [List.length_take];omega
   refine Gl rfl ?_
   refine Bk A0 false 0 rfl rfl A5 rfl (Af D7) ?_
   refine Bk A0 false 1 rfl rfl A5 rfl (Af D7) ?_
   refine Bk A0 false 2 rfl rfl A5 rfl (Af D7) ?_
   refine Bk A0 false 3 rfl rfl A5 rfl (Af D7) ?_
   refine Bk A0 false 5 rfl rfl A5 rfl (Af D7) ?_
   refine Bk A0 false 6 rfl rfl A5 rfl (Af D7) ?_
   refine Cj (s':=?_) 4 rfl A5 ?_ ?_
   rotate_left
   refine Lj A0 false ?_
   conv=>whnf
   refine I6 A0 rfl rfl rfl rfl rfl rfl (l:=(k:Int)+(([x].length:Nat):Int)) (h:=((l.length+1:Nat):Int)) rfl rfl ⟨by omega,by omega,by omega,fun _=>by omega,by omega⟩ (off * 4+(k+1) * 4) (l.length-k) (cap-(k+1)) (by rw [e1];rfl) (by rw [e1];omega) (by rw [e1];rfl) (Lj A0 false ?_)
   conv=>whnf
   exact Ax
   refine Cj (s':=?_) 7 rfl A5 ?_ ?_
   rotate_left
   refine Lj A0 false ?_
   conv=>whnf
   refine I6 A0 rfl rfl rfl rfl rfl rfl (l:=(k:Int)) (h:=((l.length+1:Nat):Int)) rfl rfl ⟨by omega,by omega,by omega,fun _=>by omega,by omega⟩ (off * 4+k * 4) (l.length+1-k) (cap-k) C7 C7 C7 (Lj A0 false ?_)
   conv=>whnf
   exact Ax
   refine Jo [8] [] A5 ?_
   refine Bf (s':=?_) A0 rfl A5 F1 ?_ ?_
   rotate_left
   refine Lj A0 false ?_
   conv=>whnf
   refine B1g (kb:=2) (kb2:=2) A0 rfl rfl rfl rfl rfl rfl rfl rfl rfl rfl rfl (pre++Gf Aa.c (l.take (k+1))) (Gf Aa.c (l.drop (k+1))++Ck.take 4) (Ck.drop 4) (pre++Gf Aa.c (l.take k)) (Gf Aa.c (l.drop k)) Ck (by exact c1) (by rw [List.length_append,Tr,t3,p1]) (by rw [List.length_append,Tr,Tr,t2,t4,t5];omega) (by exact c2) (by rw [List.length_append,Tr,t1,p1]) (by rw [Tr,t2,show Nat.min (l.length+1-k) (l.length-k)=l.length-k from Nat.min_eq_right Ad]) (by exact B3q Aa.c _) (Lj A0 false ?_)
   conv=>whnf
   exact Ax
   refine I7 A0 A5 F1 (GW.out (Lj A0 false ?_))
   conv=>whnf
   rw [c3]
   refine I6 A0 rfl rfl rfl rfl rfl rfl (l:=(k:Int)) (h:=((l.length+1:Nat):Int)) rfl rfl ⟨by omega,by omega,by omega,fun _=>by omega,by omega⟩ (off * 4+k * 4) (l.length+1-k) (cap-k) C7 C7 C7 (Lj A0 false ?_)
   conv=>whnf
   refine B1f (kb:=2) A0 rfl rfl rfl rfl rfl rfl rfl rfl rfl rfl (by exact J8 [x] _) (by exact Nat.one_pos) rfl (by show 1≤_;omega) (pre++Gf Aa.c (l.take k)) (Gf Aa.c [l.getD k default]) (Gf Aa.c (l.drop k)++Ck.drop 4) rfl (by rw [List.length_append,Tr,t1,p1]) (by rfl) (Lj A0 false ?_)
   conv=>whnf
   rw [show Fq [x].length (fun i=>Aa.c ([x].getD i default))=Gf Aa.c [x] from Pp Aa.c [x]]
   refine A3t Tryz.prog 6 2 off 4 Aa.c (A05 l k x) pre (Ck.drop 4) rfl (by rw [A3e];simp only [List.append_assoc]) (by exact p1) (fun _=>rfl) (J8 _ _) (by exact p3) (by exact ⟨by rw [N0 hk];exact hc,by rw [N0 hk,List.length_drop];omega⟩) rfl rfl rfl (by rw [N0 hk]) ?_
   exact A6a A0 () trivial rfl rfl C1
def K0 (l:List Aa) (x:Aa):Bool:=l.any fun y=>decide (y=x)
def Kf (l:List Aa) (x:Aa):Nat:=Fm (fun y=>!decide (J6 y x<0)) l
def Du (l:List Aa) (x:Aa):List Aa:=if K0 l x=true then l else l.take (Kf l x)++x::l.drop (Kf l x)
def T6 (op e k:Int) (s:Int×Bool) (x:Aa):Int×Bool:=if (x.op=op∧x.epoch=e∧x.key=k)∧(s.2=false∨x.val<s.1) then (x.val,true) else s
def Hu (l:List Aa) (op e k:Int):Int×Bool:=l.foldl (T6 op e k) (0,false)
def Bn (a b:Aa):Bool:=decide (a.op=b.op∧a.epoch=b.epoch∧a.key=b.key)
def Wx (l:List Aa) (x:Aa):Prop:=(Hu l x.op x.epoch x.key).2=true∧(Hu l x.op x.epoch x.key).1≤x.val
instance (l:List Aa) (x:Aa):Decidable (Wx l x):=by unfold Wx;infer_instance
def Ih (l:List Aa) (x:Aa):List Aa×Bool:=if Wx l x then (l,false) else (Du (l.filter fun y=>!Bn x y) x,true)
def Db (k:Int) (l:List Aa) (x:Aa):List Aa×Bool:=
 if k=5∨k=8 then Ih l x else if k=6 then (if K0 l x=true then (l,false) else (Du l x,true)) else (l,true)
end Go.Proofs.YtlbmkgkmbjadcaaGreat
