/- Part 37 of the proof that each of the laws FnOneWorker returns true for every input. No conditions. -/
import Derived.Test.YtonodkjaoalfjaaGreatP34
import Derived.Test.YtonodkjaoalfjaaGreatP36
import Derived.Test.YtonodkjaoalfjaaGreatP8
import Derived.Test.YtonodkjaoalfjaaGreatP11
import Derived.Test.YtonodkjaoalfjaaGreatP5

set_option linter.unusedSimpArgs false
set_option linter.unusedVariables false
set_option maxRecDepth 100000
namespace Go.Proofs.YtonodkjaoalfjaaGreat
open Go.Sx
theorem B3p (xs:List Cn)(hx:xs.length≤16777216)(f:Nat)(cs:List A8)(p:Cn→Bool)(hf:∀x∈xs,B0 Tryz.prog f [.agg x.c,.ptr cs] [.one (vb (p x))]):
  B0 Tryz.prog 206 [.one (Ef xs),.fn f [.ptr cs]] [.one (vi (Kd p xs))]:=by
 refine Ay A0 false Tryz.func206 rfl Bu fun W=>?_
 conv=>whnf
 refine Bw A0 false [] (fun k:Nat=>[(8,.c (vi k))]) (fun k=>[]) (fun k=>[])
  (fun k=>k≤xs.length∧(xs.take k).any p=false) (fun k=>xs.length-k) 0 ⟨Nat.zero_le _,by first|rfl|assumption|simp⟩ ⟨by first|rfl|simp [Dl,ren2,ren1,ren0],trivial⟩ trivial trivial D0 Aa (fun k hk=>?_)
 obtain ⟨hk,he⟩:=hk
 conv=>whnf
 refine G5 (fun h=>?_) fun h=>?_<;>conv=>whnf
 ·have h:k<xs.length:=by omega
  (repeat refine Ar ?_)
  refine Aw (hf (xs.getD k default) (Aq h)) rfl (Al ?_)
  refine ⟨fun hc=>?_,fun hc=>?_⟩<;>conv=>whnf
  ·exact Ao A0 rfl rfl ⟨congrArg vi (Mj p xs k he h hc),trivial⟩
  ·(repeat refine Ar ?_)
   refine B5 [] (k+1) ⟨by omega,Gd he h hc⟩ Ac ⟨rfl,trivial⟩ trivial trivial Aa D0 Aa
 ·exact Ao A0 rfl rfl ⟨congrArg vi (I4 p xs (by rw [Fi xs k Ac] at he;exact he)),trivial⟩
theorem B9i (w:Int)(y:Cn):B0 Tryz.prog 207 [.agg y.c,.ptr [vi w]] [.one (vb (Is w y))]:=by
 refine Ay A0 false Tryz.func207 rfl Bu fun W=>?_
 conv=>whnf
 exact Ao A0 rfl rfl ⟨rfl,trivial⟩
theorem A8j {c:A3}{w:Int}(h:¬ (Ap c∧c.news.any (Is w)=true)):D4 c w=(c,false):=if_neg h
theorem B3l {c:A3}{w:Int}(h:Ap c∧c.news.any (Is w)=true)(h1:B1 (A6 c w) (Dd c w).epoch=true):D4 c w=(Ih c w,true):=by
 unfold D4
 rw [if_pos h,if_pos h1]
theorem B3k {c:A3}{w:Int}(h:Ap c∧c.news.any (Is w)=true)(h1:B1 (A6 c w) (Dd c w).epoch=false):D4 c w=(Av (Ih c w) w (Cx (A6 c w) ⟨(Dd c w).epoch,(Dd c w).capped⟩),true):=by
 unfold D4
 rw [if_pos h,if_neg (by rw [h1];decide)]
theorem B0q {c:A3}{w:Int}(h:c.news.any (Is w)=true):Ej c w<c.news.length∧Kd (Is w) c.news=(Ej c w:Int)∧Is w (Dd c w)=true:=by
 have e:Kd (Is w) c.news=(Ek (Is w) c.news:Int):=by rw [Kd,if_pos h]
 have hx:∀(l:List Cn),l.any (Is w)=true→Ek (Is w) l<l.length∧Is w (l.getD (Ek (Is w) l) default)=true:=by
  intro l
  induction l with
  |nil=>intro h;simp at h
  |cons y r ih=>
   intro h
   by_cases hy:Is w y=true
   ·simp [Ek,hy]
   ·have hy:Is w y=false:=by simpa using hy
    rw [List.any_cons,hy,Bool.false_or] at h
    obtain ⟨a,b⟩:=ih h
    simp only [Ek,hy]
    exact ⟨by simpa using a,by simpa using b⟩
 exact ⟨(hx _ h).1,e,(hx _ h).2⟩
set_option maxHeartbeats 8000000 in
theorem A02 (x:A3)(w:Int)(h:x.w≤16000000)(hgo:J9 x):B0 Tryz.prog 172 [.agg x.c,.one (vi w)] [.agg (D4 x w).1.c,.one (vb (D4 x w).2)]:=by
 have hnl:=A3.news_le h
 refine Ay A0 false Tryz.func172 rfl Bu fun W=>?_
 conv=>whnf
 refine B4 (Dz x Ac) rfl (Al ?_)
 refine Aw (B3p x.news Ac _ [vi w] (Is w) (fun y _=>B9i w y)) rfl (Al ?_)
 cases hA:x.news.any (Is w)
 ·rw [I4 _ _ hA]
  repeat refine Bi ?_
  rw [A8j (fun p=>by rw [p.2] at hA;cases hA)]
  refine Ao A0 rfl rfl ?_
  exact Ca
 obtain ⟨n1,n2,n3⟩:=B0q hA
 rw [n2]
 refine ⟨fun hz=>?_,fun hz=>?_⟩<;>conv=>whnf
 ·have:=of_decide_eq_true hz
  omega
 repeat refine Bi ?_
 refine Aw (Js x Ac hgo) rfl (Al ?_)
 repeat refine Bi ?_
 refine ⟨fun h1=>?_,fun h1=>?_⟩<;>conv=>whnf
 ·have h1:¬ Ap x:=of_decide_eq_false (by simpa [Fp] using h1)
  repeat refine Bi ?_
  rw [A8j (fun p=>h1 p.1)]
  refine Ao A0 rfl rfl ?_
  exact Ca
 have hC:Ap x:=of_decide_eq_true (show Fp x=true by simpa using h1)
 have hH:Ap x∧x.news.any (Is w)=true:=⟨hC,hA⟩
 have hwn:=hC.2.2.2.2 _ (Aq (d:=default) n1)
 have hto:(Dd x w).to_=w:=by simpa [Is] using n3
 have hwl:=hC.1.2.1
 have hwb:0≤w∧w<x.workers.length:=by
  have:=hwn.1
  have e:(x.news.getD (Ej x w) default).to_=w:=hto
  omega
 have hj:w.toNat<x.workers.length:=by omega
 have hww:=A3.worker_le h hj
 have hdl:(x.workers.getD w.toNat default).dones.length≤(x.workers.getD w.toNat default).w:=by simp only [Ab.w];omega
 repeat refine Bi ?_
 (repeat refine Ar ?_)
 refine A2y [.own 7] (A6o x.news (Ej x w) n1 Ac) (fun _ _=>trivial) (fun _ h=>by cases h) Ca rfl rfl (fun i _=>go A0 false ?_)
 conv=>whnf
 have hE0:(x.news.getD (Ej x w) default).epoch=(Dd x w).epoch:=rfl
 first|(refine B9 7 rfl [0,1,2,3,4,5,6,7,8] Aa (Al ?_))|(refine B9 8 rfl [0,1,2,3,4,5,6,7,8,9,10,11,12,13,14,15,16,17,18] Aa (Al ?_))
 (repeat refine Ar ?_)
 refine Aw (Wa (A6 x w) (Dd x w).epoch (by show (x.workers.getD w.toNat default).w≤_;omega)) rfl (Al ?_)
 refine ⟨fun hd=>?_,fun hd=>?_⟩<;>conv=>whnf
 ·have hd:B1 (A6 x w) (Dd x w).epoch=false:=by simpa using hd
  repeat refine Bi ?_
  refine B8m 8 3 4 rfl rfl (fun v2=>?_)
  refine B9u 8 3 rfl rfl (fun ho_v2=>?_)
  refine Jc rfl ?_
  refine Ct A0 false 0 rfl rfl Aa rfl (Af F3) ?_
  refine Ct A0 false 3 rfl rfl Aa rfl (Af F3) ?_
  refine Ct A0 false 9 rfl rfl Aa rfl (Af F3) ?_
  refine Ct A0 false 11 rfl rfl Aa rfl (Af F3) ?_
  refine Do (s':=?_) 4 rfl Aa ?_ ?_
  rotate_left
  refine go A0 false ?_
  conv=>whnf
  refine Je 48 4 rfl rfl (Al ?_)
  (repeat refine Ar ?_)
  exact Bd
  refine Do (s':=?_) 5 rfl Aa ?_ ?_
  rotate_left
  refine go A0 false ?_
  conv=>whnf
  (repeat refine Ar ?_)
  exact Bd
  refine Do (s':=?_) 6 rfl Aa ?_ ?_
  rotate_left
  refine go A0 false ?_
  conv=>whnf
  (repeat refine Ar ?_)
  exact Bd
  refine Ct A0 false 7 rfl rfl Aa rfl (Af F3) ?_
  refine B8p (α:=Value) (s':=?_) 8 rfl Aa ?_ ?_
  rotate_left
  refine go A0 false ?_
  conv=>whnf
  refine B8f A0 rfl rfl rfl rfl rfl rfl (jn:=w.toNat) rfl rfl rfl (fun v=>go A0 false ?_)
  conv=>whnf
  exact B9f v
  intro v
  refine Do (s':=?_) 10 rfl Aa ?_ ?_
  rotate_left
  refine go A0 false ?_
  conv=>whnf
  (repeat refine Ar ?_)
  exact Bd
  refine Do (s':=?_) 12 rfl Aa ?_ ?_
  rotate_left
  refine go A0 false ?_
  conv=>whnf
  (repeat refine Ar ?_)
  exact Bd
  refine Do (s':=?_) 13 rfl Aa ?_ ?_
  rotate_left
  refine go A0 false ?_
  conv=>whnf
  (repeat refine Ar ?_)
  exact Bd
  refine S7 [14,15,16,17,18] [⟨1,45,.rd v2⟩,⟨2,46,.rd (Value.int .i64 w)⟩] Aa ?_
  refine D5 (s':=?_) A0 rfl Aa Gp ?_ ?_
  rotate_left
  refine go A0 false ?_
  conv=>whnf
  (repeat refine Ar ?_)
  exact Bd
  refine D5 (s':=?_) A0 rfl Aa Gp ?_ ?_
  rotate_left
  refine go A0 false ?_
  conv=>whnf
  refine Dp A0 rfl rfl rfl rfl rfl rfl rfl rfl rfl rfl rfl (Jn ((x.workers.getD w.toNat default).dones++[⟨(Dd x w).epoch,(Dd x w).capped⟩])) (Bf rfl) Kc Ac (Al ?_)
  exact Bd
  refine D5 (s':=?_) A0 rfl Aa Gp ?_ ?_
  rotate_left
  refine go A0 false ?_
  conv=>whnf
  refine Je 45 4 rfl rfl (Al ?_)
  (repeat refine Ar ?_)
  exact Bd
  refine D5 (s':=?_) A0 rfl Aa Gp ?_ ?_
  rotate_left
  refine go A0 false ?_
  conv=>whnf
  (repeat refine Ar ?_)
  exact Bd
  refine D5 (s':=?_) A0 rfl Aa Gp ?_ ?_
  rotate_left
  refine go A0 false ?_
  conv=>whnf
  refine D7 (j:=w) A0 rfl rfl rfl rfl rfl rfl rfl rfl (Be (x.workers.set w.toNat (Cx (A6 x w) ⟨(Dd x w).epoch,(Dd x w).capped⟩))) (B1i hj rfl) (Al ?_)
  exact Bd
  refine P5 A0 Aa Gp (GW.out (Tt ?_))
  conv=>whnf
  refine B8r Tryz.prog (fun _ g=>B8j 2 3 4 rfl rfl rfl g) ?_
  rw [B3k hH hd]
  refine Ao A0 rfl rfl ?_
  exact Ca
 ·have hd:B1 (A6 x w) (Dd x w).epoch=true:=by simpa using hd
  repeat refine Bi ?_
  rw [B3l hH hd]
  refine Ao A0 rfl rfl ?_
  exact Ca
theorem Zd (e:Int)(b:Bool)(k:Nat):(H1 e b k).length=k:=by rw [H1,List.length_map,List.length_range]
theorem Wp (e:Int)(b:Bool)(k:Nat):H1 e b (k+1)=H1 e b k++[⟨(k:Int)+1,e,b⟩]:=by
 rw [H1,List.range_succ,List.map_append]
 rfl
end Go.Proofs.YtonodkjaoalfjaaGreat
