/- Part 12 of the proof that each of the laws FnOneWorker returns true for every input. No conditions. -/
import Derived.Test.YtonodkjaoalfjaaGreatP5
import Derived.Test.YtonodkjaoalfjaaGreatP6
import Derived.Test.YtonodkjaoalfjaaGreatP7

set_option linter.unusedSimpArgs false
set_option linter.unusedVariables false
set_option maxRecDepth 100000
namespace Go.Proofs.YtonodkjaoalfjaaGreat
open Go.Sx
def A1b {α:Type} (l:List α) (k:Nat) (x:α):List α:=l.take k++x::l.drop k
theorem Iz (l:List A7)(n:Nat):Ec n fun i=>A7.c (l.getD i default):=by
 intro i hi c hc
 simp only [A7.c,List.mem_cons,List.not_mem_nil,or_false] at hc
 rcases hc with rfl|rfl|rfl|rfl<;>exact ⟨_,rfl⟩
theorem A4y {α:Type} [Inhabited α] (e:α→List A8)(l:List α){k:Nat}(hk:k≤l.length):Fj k (fun i=>e (l.getD i default))=G9 e (l.take k):=by
 rw [←Pi,List.length_take,Nat.min_eq_left hk]
 unfold Fj
 simp only [List.flatMap_def]
 congr 1
 apply List.map_congr_left
 intro i hi
 have hi:=List.mem_range.1 hi
 rw [show (l.take k).getD i default=l.getD i default by simp [List.getD,List.getElem?_take,hi]]
theorem B8t {α:Type} [Inhabited α] (e:α→List A8)(l:List α){k:Nat}(hk:k≤l.length)(pre C7:List AV):pre++G9 e l++C7=pre++Fj k (fun i=>e (l.getD i default))++(G9 e (l.drop k)++C7):=by
 rw [A4y e l hk,List.append_assoc,List.append_assoc,←List.append_assoc (G9 e (l.take k)),←Gw,List.take_append_drop]
def Lv (l:List A7) (k:Nat):List A7:=l.take k++List.replicate (l.length+1-k) default
theorem Fz {l:List A7}{k:Nat}(hk:k≤l.length):(Lv l k).length=l.length+1:=by
 rw [Lv,List.length_append,List.length_take,List.length_replicate]
 omega
theorem B3i {l:List A7}{k i:Nat}(hk:k≤l.length)(hi:i<k):(Lv l k).getD i default=l.getD i default:=by
 unfold Lv
 simp only [List.getD]
 rw [List.getElem?_append_left (by rw [List.length_take];omega),List.getElem?_take,if_pos hi]
theorem B3h {l:List A7}{k i:Nat}(hk:k≤l.length)(hi:k≤i):(Lv l k).getD i default=default:=by
 unfold Lv
 simp only [List.getD]
 rw [List.getElem?_append_right (by rw [List.length_take];omega),List.getElem?_replicate]
 split<;>rfl
theorem A3i {l:List A7}{k:Nat}(hk:k<l.length)(pre C7:List AV):pre++G9 A7.c (Lv l k)++C7=(pre++G9 A7.c (l.take k))++G9 A7.c [(default:A7)]++(G9 A7.c (List.replicate (l.length-k) (default:A7))++C7):=by
 rw [Lv,show l.length+1-k=(l.length-k)+1 by omega,List.replicate_succ,show (default:A7)::List.replicate (l.length-k) default=[default]++List.replicate (l.length-k) default from rfl,Gw,Gw]
 simp only [List.append_assoc]
theorem Mk {l:List A7}{k:Nat}{x:A7}(hk:k≤l.length):(A1b l k x).length=l.length+1:=by
 rw [A1b,List.length_append,List.length_cons,List.length_take,List.length_drop]
 omega
theorem Ti (l:List A7):(G9 A7.c l).length=l.length * 4:=A2d (es:=4) (fun _=>rfl) l
theorem A3t (l:List A7)(k:Nat)(x:A7)(pre C7:List AV):pre++G9 A7.c (A1b l k x)++C7=(pre++G9 A7.c (l.take k)++G9 A7.c [x])++G9 A7.c (l.drop k)++C7:=by
 rw [A1b,show x::l.drop k=[x]++l.drop k from rfl,Gw,Gw]
 simp only [List.append_assoc]
set_option maxHeartbeats 4000000 in
theorem W9 (l:List A7)(k:Nat)(x:A7)(hk:k≤l.length)(hl:l.length≤16777216):M0 Tryz.prog (fun _=>True) 260 [] [.one (Ai l),.one (vi k),.one (Ai [x])] [] (fun _:Unit=>True) (fun _=>[.one (Ai (A1b l k x))]):=by
 refine A0v A0 false Tryz.func260 rfl Bu fun B hH hp=>?_
 conv=>whnf
 refine B5d A0 rfl rfl rfl rfl rfl rfl rfl (l:=(k:Int)) rfl ⟨by omega,by show (k:Int)≤(l.length:Int);omega⟩ (Al ?_)
 repeat refine Bi ?_
 refine ⟨fun he=>?_,fun he=>?_⟩<;>conv=>whnf
 ·have he:(k:Int)=l.length:=eq_of_beq he
  obtain rfl:k=l.length:=by omega
  rw [show A1b l l.length x=l++[x] by unfold A1b;rw [List.take_length,List.drop_length]]
  refine Dp A0 rfl rfl rfl rfl rfl rfl rfl rfl rfl rfl rfl (Ai (l++[x])) (Bf rfl) Kc (by show l.length+1≤_;omega) (Al ?_)
  exact A4w A0 () trivial rfl rfl Ca
 ·have he:(k:Int)≠l.length:=beq_eq_false_iff_ne.1 he
  have hkl:k<l.length:=by omega
  refine ⟨by (have:(([x].length:Nat):Int)=1:=rfl;rw [this];show _∧_;omega),?_⟩
  conv=>whnf
  refine Uq 0 4 A7.c l rfl Ac (Iz l _) (fun b off cap pre C7 p1 p2 p3 p4=>?_)
  refine Lb 0 0 rfl rfl ?_
  refine Lb 29 0 rfl rfl ?_
  refine C0g A0 rfl rfl rfl rfl rfl (L6 A0 false ?_)
  conv=>whnf
  refine ⟨fun hc=>?_,fun hc=>?_⟩<;>conv=>whnf
  ·have hc:cap<l.length+1:=by
    have:=of_decide_eq_true hc
    have e1:(([x].length:Nat):Int)=1:=rfl
    omega
   have hcl:cap=l.length:=by omega
   refine Hr A0 rfl rfl rfl rfl rfl rfl (l:=0) (h:=(k:Int)) rfl rfl ⟨by omega,by omega,by omega,fun h=>by (try cases h),by omega⟩ (off * 4) k cap Bj Bj Bj (L6 A0 false ?_)
   conv=>whnf
   refine ⟨by (have e1:(([x].length:Nat):Int)=1:=rfl;rw [e1];show _∧_;omega),?_⟩
   conv=>whnf
   refine ⟨by (have e1:(([x].length:Nat):Int)=1:=rfl;rw [e1];show _∧_;omega),?_⟩
   conv=>whnf
   rw [show ((l.length:Int)+(([x].length:Nat):Int))-(k:Int)=((l.length+1-k:Nat):Int) by have e1:(([x].length:Nat):Int)=1:=rfl;omega]
   refine C0e (kb:=2) (k:=l.length+1-k) (row:=fun i=>A7.c (l.getD i default)) A0 rfl rfl rfl rfl rfl rfl rfl rfl rfl rfl rfl rfl pre (G9 A7.c (l.drop k)++C7) (by exact B8t A7.c l hk pre C7) (by exact p1) rfl Bu (by exact fun _ _=>rfl) (by exact Iz l _) Ac Ac Ac rfl (fun i=>A7.c ((Lv l k).getD i default)) (fun i hi=>by rw [B3i hk hi]) (fun i hi _=>by rw [B3h hk hi];rfl) (L6 A0 false ?_)
   conv=>whnf
   rw [show (A8.sl (k+(l.length+1-k)) 4 fun i=>A7.c ((Lv l k).getD i default))=Du 4 A7.c (Lv l k) by unfold Du;rw [Fz hk];congr 1;omega]
   refine Uq 3 4 A7.c (Lv l k) rfl (by rw [Fz hk];omega) (Iz _ _) (fun b2 off2 cap2 pre2 post2 q1 q2 q3 q4=>?_)
   rw [Fz hk] at q2 q4
   refine Lb 9 3 rfl rfl ?_
   refine Lb 41 3 rfl rfl ?_
   refine Hr A0 rfl rfl rfl rfl rfl rfl (l:=(k:Int)) (h:=((Lv l k).length:Int)) rfl rfl ⟨by omega,by rw [Fz hk];omega,by rw [Fz hk];omega,fun _=>by rw [Fz hk];omega,by omega⟩ (off2 * 4+k * 4) (l.length+1-k) (cap2-k) Bj (by rw [Fz hk];simp) Bj (L6 A0 false ?_)
   conv=>whnf
   refine B2s (kb:=4) A0 rfl rfl rfl rfl rfl rfl rfl rfl rfl rfl (by exact Iz [x] _) (by exact Nat.one_pos) rfl (by show 1≤_;omega) (pre2++G9 A7.c (l.take k)) (G9 A7.c [(default:A7)]) (G9 A7.c (List.replicate (l.length-k) (default:A7))++post2) (by exact A3i hkl pre2 post2) (by rw [List.length_append,Ti,List.length_take,q1];omega) (by rfl) (L6 A0 false ?_)
   conv=>whnf
   have t1:(l.take k).length=k:=by rw [List.length_take];omega
   have t2:(l.drop k).length=l.length-k:=List.length_drop
   have e1:(([x].length:Nat):Int)=1:=rfl
   rw [show Fj [x].length (fun i=>A7.c ([x].getD i default))=G9 A7.c [x] from Pi A7.c [x]]
   refine Jc rfl ?_
   refine Ct A0 false 0 rfl rfl Aa rfl (Af F3) ?_
   refine Ct A0 false 1 rfl rfl Aa rfl (Af F3) ?_
   refine Ct A0 false 2 rfl rfl Aa rfl (Af F3) ?_
   refine Ct A0 false 3 rfl rfl Aa rfl (Af F3) ?_
   refine Ct A0 false 5 rfl rfl Aa rfl (Af F3) ?_
   refine Ct A0 false 6 rfl rfl Aa rfl (Af F3) ?_
   refine Do (s':=?_) 4 rfl Aa ?_ ?_
   rotate_left
   refine L6 A0 false ?_
   conv=>whnf
   refine Hr A0 rfl rfl rfl rfl rfl rfl (l:=(k:Int)+(([x].length:Nat):Int)) (h:=((Lv l k).length:Int)) rfl rfl ⟨by omega,by rw [Fz hk];omega,by rw [Fz hk];omega,fun _=>by rw [Fz hk];omega,by omega⟩ (off2 * 4+(k+1) * 4) (l.length-k) (cap2-(k+1)) (by rw [e1];rfl) (by rw [Fz hk,e1];omega) (by rw [e1];rfl) (L6 A0 false ?_)
   conv=>whnf
   exact Bd
   refine Do (s':=?_) 7 rfl Aa ?_ ?_
   rotate_left
   refine L6 A0 false ?_
   conv=>whnf
   refine Hr A0 rfl rfl rfl rfl rfl rfl (l:=(k:Int)) (h:=(l.length:Int)) rfl rfl ⟨by omega,by omega,by omega,fun _=>by omega,by omega⟩ (off * 4+k * 4) (l.length-k) (cap-k) Bj Bj Bj (L6 A0 false ?_)
   conv=>whnf
   exact Bd
   refine S7 [8] [] Aa ?_
   refine D5 (s':=?_) A0 rfl Aa Gp ?_ ?_
   rotate_left
   refine L6 A0 false ?_
   conv=>whnf
   refine B2t (kb:=4) (kb2:=2) A0 rfl rfl rfl rfl rfl rfl rfl rfl rfl rfl rfl (pre2++G9 A7.c (l.take k)++G9 A7.c [x]) (G9 A7.c (List.replicate (l.length-k) (default:A7))) post2 (pre++G9 A7.c (l.take k)) (G9 A7.c (l.drop k)) C7 (by simp only [List.append_assoc]) (by rw [List.length_append,List.length_append,Ti,Ti,t1,q1];simp;omega) (by rw [Ti,Ti,t2,List.length_replicate]) (by rw [←List.take_append_drop k l,Gw,List.take_append_drop];simp only [List.append_assoc]) (by rw [List.length_append,Ti,t1,p1]) (by rw [Ti,t2,show Nat.min (l.length-k) (l.length-k)=_ from Nat.min_self _]) (by exact B5m A7.c _) (L6 A0 false ?_)
   conv=>whnf
   exact Bd
   refine P5 A0 Aa Gp (GW.out (L6 A0 false ?_))
   conv=>whnf
   refine A4d Tryz.prog 6 4 off2 4 A7.c (A1b l k x) pre2 post2 rfl (by exact (A3t l k x pre2 post2).symm) (by exact q1) (fun _=>rfl) (Iz _ _) (by exact q3) (by exact ⟨by rw [Mk hk];exact q2,by rw [Mk hk];exact q4⟩) rfl rfl rfl (by rw [Fz hk,Mk hk]) ?_
   exact A4w A0 () trivial rfl rfl Ca
  ·have hc:l.length+1≤cap:=by
    have:=of_decide_eq_false hc
    have e1:(([x].length:Nat):Int)=1:=rfl
    omega
   have t1:(l.take k).length=k:=by rw [List.length_take];omega
   have t2:(l.drop k).length=l.length-k:=List.length_drop
   have e1:(([x].length:Nat):Int)=1:=rfl
   have hp4:4≤C7.length:=by have q:=Nat.mul_le_mul_right 4 (show 1≤cap-l.length from by omega);omega
   refine ⟨by (rw [e1];show _∧_;omega),?_⟩
   conv=>whnf
   refine Hr A0 rfl rfl rfl rfl rfl rfl (l:=0) (h:=(l.length:Int)+(([x].length:Nat):Int)) rfl rfl (by refine ⟨by omega,by omega,by omega,?_,by omega⟩;intro h;exact absurd h Bj) (off * 4) (l.length+1) cap Bj (by rw [e1];rfl) Bj (L6 A0 false ?_)
   conv=>whnf
   refine ⟨by (rw [e1];show _∧_;omega),?_⟩
   conv=>whnf
   refine Hr A0 rfl rfl rfl rfl rfl rfl (l:=(k:Int)+(([x].length:Nat):Int)) (h:=((l.length+1:Nat):Int)) rfl rfl ⟨by omega,by omega,by omega,fun _=>by omega,by omega⟩ (off * 4+(k+1) * 4) (l.length-k) (cap-(k+1)) (by rw [e1];rfl) (by rw [e1];omega) (by rw [e1];rfl) (C0j 0 A0 false ?_)
   conv=>whnf
   refine B0z (kb:=2) A0 rfl rfl rfl rfl rfl rfl rfl rfl rfl rfl rfl rfl (by exact Nat.one_pos) rfl rfl rfl (by rw [List.length_append,List.length_append];omega) (L6 A0 false ?_)
   conv=>whnf
   repeat refine Bi ?_
   have k1:l.take (k+1)=l.take k++[l.getD k default]:=by
    rw [List.take_succ_eq_append_getElem hkl]
    simp [List.getD,hkl]
   have c1:pre++G9 A7.c l++C7=(pre++G9 A7.c (l.take (k+1)))++(G9 A7.c (l.drop (k+1))++C7.take 4)++C7.drop 4:=by
    conv=>lhs;rw [←List.take_append_drop (k+1) l,Gw,←List.take_append_drop 4 C7]
    simp only [List.append_assoc]
   have c2:pre++G9 A7.c l++C7=(pre++G9 A7.c (l.take k))++G9 A7.c (l.drop k)++C7:=by
    conv=>lhs;rw [←List.take_append_drop k l,Gw]
    simp only [List.append_assoc]
   have c3:(pre++G9 A7.c (l.take (k+1)))++G9 A7.c (l.drop k)++C7.drop 4=(pre++G9 A7.c (l.take k))++G9 A7.c [l.getD k default]++(G9 A7.c (l.drop k)++C7.drop 4):=by
    rw [k1,Gw]
    simp only [List.append_assoc]
   have t3:(l.take (k+1)).length=k+1:=by rw [List.length_take];omega
   have t4:(l.drop (k+1)).length=l.length-(k+1):=List.length_drop
   have t5:(C7.take 4).length=4:=by rw [List.length_take];omega
   refine Jc rfl ?_
   refine Ct A0 false 0 rfl rfl Aa rfl (Af F3) ?_
   refine Ct A0 false 1 rfl rfl Aa rfl (Af F3) ?_
   refine Ct A0 false 2 rfl rfl Aa rfl (Af F3) ?_
   refine Ct A0 false 3 rfl rfl Aa rfl (Af F3) ?_
   refine Ct A0 false 5 rfl rfl Aa rfl (Af F3) ?_
   refine Ct A0 false 6 rfl rfl Aa rfl (Af F3) ?_
   refine Do (s':=?_) 4 rfl Aa ?_ ?_
   rotate_left
   refine L6 A0 false ?_
   conv=>whnf
   refine Hr A0 rfl rfl rfl rfl rfl rfl (l:=(k:Int)+(([x].length:Nat):Int)) (h:=((l.length+1:Nat):Int)) rfl rfl ⟨by omega,by omega,by omega,fun _=>by omega,by omega⟩ (off * 4+(k+1) * 4) (l.length-k) (cap-(k+1)) (by rw [e1];rfl) (by rw [e1];omega) (by rw [e1];rfl) (L6 A0 false ?_)
   conv=>whnf
   exact Bd
   refine Do (s':=?_) 7 rfl Aa ?_ ?_
   rotate_left
   refine L6 A0 false ?_
   conv=>whnf
   refine Hr A0 rfl rfl rfl rfl rfl rfl (l:=(k:Int)) (h:=((l.length+1:Nat):Int)) rfl rfl ⟨by omega,by omega,by omega,fun _=>by omega,by omega⟩ (off * 4+k * 4) (l.length+1-k) (cap-k) Bj Bj Bj (L6 A0 false ?_)
   conv=>whnf
   exact Bd
   refine S7 [8] [] Aa ?_
   refine D5 (s':=?_) A0 rfl Aa Gp ?_ ?_
   rotate_left
   refine L6 A0 false ?_
   conv=>whnf
   refine B2t (kb:=2) (kb2:=2) A0 rfl rfl rfl rfl rfl rfl rfl rfl rfl rfl rfl (pre++G9 A7.c (l.take (k+1))) (G9 A7.c (l.drop (k+1))++C7.take 4) (C7.drop 4) (pre++G9 A7.c (l.take k)) (G9 A7.c (l.drop k)) C7 (by exact c1) (by rw [List.length_append,Ti,t3,p1]) (by rw [List.length_append,Ti,Ti,t2,t4,t5];omega) (by exact c2) (by rw [List.length_append,Ti,t1,p1]) (by rw [Ti,t2,show Nat.min (l.length+1-k) (l.length-k)=l.length-k from Nat.min_eq_right Ac]) (by exact B5m A7.c _) (L6 A0 false ?_)
   conv=>whnf
   exact Bd
   refine P5 A0 Aa Gp (GW.out (L6 A0 false ?_))
   conv=>whnf
   rw [c3]
   refine Hr A0 rfl rfl rfl rfl rfl rfl (l:=(k:Int)) (h:=((l.length+1:Nat):Int)) rfl rfl ⟨by omega,by omega,by omega,fun _=>by omega,by omega⟩ (off * 4+k * 4) (l.length+1-k) (cap-k) Bj Bj Bj (L6 A0 false ?_)
   conv=>whnf
   refine B2s (kb:=2) A0 rfl rfl rfl rfl rfl rfl rfl rfl rfl rfl (by exact Iz [x] _) (by exact Nat.one_pos) rfl (by show 1≤_;omega) (pre++G9 A7.c (l.take k)) (G9 A7.c [l.getD k default]) (G9 A7.c (l.drop k)++C7.drop 4) rfl (by rw [List.length_append,Ti,t1,p1]) (by rfl) (L6 A0 false ?_)
   conv=>whnf
   rw [show Fj [x].length (fun i=>A7.c ([x].getD i default))=G9 A7.c [x] from Pi A7.c [x]]
   refine A4d Tryz.prog 6 2 off 4 A7.c (A1b l k x) pre (C7.drop 4) rfl (by rw [A3t];simp only [List.append_assoc]) (by exact p1) (fun _=>rfl) (Iz _ _) (by exact p3) (by exact ⟨by rw [Mk hk];exact hc,by rw [Mk hk,List.length_drop];omega⟩) rfl rfl rfl (by rw [Mk hk]) ?_
   exact A4w A0 () trivial rfl rfl Ca
def I2 (l:List A7) (x:A7):Bool:=l.any fun y=>decide (y=x)
def J2 (l:List A7) (x:A7):Nat:=Ek (fun y=>!decide (Jr y x<0)) l
def Cy (l:List A7) (x:A7):List A7:=if I2 l x=true then l else l.take (J2 l x)++x::l.drop (J2 l x)
def L7 (op e k:Int) (s:Int×Bool) (x:A7):Int×Bool:=if (x.op=op∧x.epoch=e∧x.key=k)∧(s.2=false∨x.val<s.1) then (x.val,true) else s
def H8 (l:List A7) (op e k:Int):Int×Bool:=l.foldl (L7 op e k) (0,false)
def B2 (a b:A7):Bool:=decide (a.op=b.op∧a.epoch=b.epoch∧a.key=b.key)
def G7 (l:List A7) (x:A7):Prop:=(H8 l x.op x.epoch x.key).2=true∧(H8 l x.op x.epoch x.key).1≤x.val
instance (l:List A7) (x:A7):Decidable (G7 l x):=by unfold G7;infer_instance
def Dq (l:List A7) (x:A7):List A7×Bool:=if G7 l x then (l,false) else (Cy (l.filter fun y=>!B2 x y) x,true)
def Bb (k:Int) (l:List A7) (x:A7):List A7×Bool:=
 if k=5∨k=8 then Dq l x else if k=6 then (if I2 l x=true then (l,false) else (Cy l x,true)) else (l,true)
end Go.Proofs.YtonodkjaoalfjaaGreat
