/- Part 33 of the proof that each of the laws FnExactRunScriptOf, FnExactSpreadResult returns true for every input. No conditions. -/
import Derived.Test.YtlbmkgkmbjadcaaGreatP5
import Derived.Test.YtlbmkgkmbjadcaaGreatP8
import Derived.Test.YtlbmkgkmbjadcaaGreatP27
import Derived.Test.YtlbmkgkmbjadcaaGreatP10
import Derived.Test.YtlbmkgkmbjadcaaGreatP16

set_option linter.unusedSimpArgs false
set_option linter.unusedVariables false
set_option maxRecDepth 100000
namespace Go.Proofs.YtlbmkgkmbjadcaaGreat
open Go.Sx
theorem W3 (l:List B7)(n:Nat):El n fun i=>B7.c (l.getD i default):=by
 intro i hi c hc
 simp only [B7.c,List.mem_cons,List.not_mem_nil,or_false] at hc
 rcases hc with rfl|rfl|rfl<;>exact ⟨_,rfl⟩
theorem Xx (l:List B7):(Gf B7.c l).length=l.length * 3:=A13 (es:=3) (fun _=>rfl) l
theorem Vw (l:List B7)(k:Nat):l.eraseIdx k=l.take k++l.drop (k+1):=List.eraseIdx_eq_take_drop_succ l k
set_option maxHeartbeats 4000000 in
theorem A5l (l:List B7)(k:Nat)(hk:k<l.length)(hl:l.length≤16777216):Qv Tryz.prog (fun _=>True) 214 [] [.one (C3 l)] [.one (vi k),.one (vi ((k:Int)+1))] (fun _:Unit=>True) (fun _=>[.one (C3 (l.eraseIdx k))]):=by
 refine A49 A0 false Tryz.func214 rfl Bs fun B hH hp=>?_
 conv=>whnf
 refine A99 A0 rfl rfl rfl rfl rfl rfl rfl (l:=(k:Int)) (h:=(k:Int)+1) (m:=(l.length:Int)) rfl rfl rfl ⟨by omega,by omega,by omega,by omega⟩ (Ae ?_)
 refine ⟨fun hz=>have hz:=eq_of_beq hz;?_,fun hz=>have hz:=beq_eq_false_iff_ne.1 hz;?_⟩<;>conv=>whnf
 ·omega
 refine V5 0 3 B7.c l rfl Ad (W3 _ _) (fun b off cap pre Ck p1 p2 p3 p4=>?_)
 refine Ln 0 0 rfl rfl ?_
 have hlast:l.drop k=(l.drop k).take (l.length-(k+1))++l.drop (l.length-1):=by
  have e:=List.take_append_drop (l.length-(k+1)) (l.drop k)
  rw [List.drop_drop,show k+(l.length-(k+1))=l.length-1 by omega] at e
  exact e.symm
 have hcut:l=l.take k++l.drop k:=(List.take_append_drop k l).symm
 have hcut2:l=l.take (k+1)++l.drop (k+1):=(List.take_append_drop (k+1) l).symm
 have t1:(l.take k).length=k:=by rw [List.length_take];omega
 have t2:((l.drop k).take (l.length-(k+1))).length=l.length-(k+1):=by rw [List.length_take,List.length_drop];omega
 have t3:(l.drop (k+1)).length=l.length-(k+1):=List.length_drop
 have t4:(l.take (k+1)).length=k+1:=by rw [List.length_take];omega
 have t5:(l.drop (l.length-1)).length=1:=by rw [List.length_drop];omega
 have te:(l.take k++l.drop (k+1)).length=l.length-1:=by rw [List.length_append,t1,t3];omega
 have c1:pre++Gf B7.c l++Ck=(pre++Gf B7.c (l.take k))++Gf B7.c ((l.drop k).take (l.length-(k+1)))++(Gf B7.c (l.drop (l.length-1))++Ck):=by
  conv=>lhs;rw [hcut,hlast,H4,H4]
  simp only [List.append_assoc]
 have c2:pre++Gf B7.c l++Ck=(pre++Gf B7.c (l.take (k+1)))++Gf B7.c (l.drop (k+1))++Ck:=by
  conv=>lhs;rw [hcut2,H4]
  simp only [List.append_assoc]
 refine Lj A0 false ?_
 conv=>whnf
 rcases Nat.lt_or_ge (k+1) cap with hlc|hlc
 ·refine Gl rfl ?_
  refine Bk A0 false 0 rfl rfl A5 rfl (Af D7) ?_
  refine Bk A0 false 1 rfl rfl A5 rfl (Af D7) ?_
  refine Bk A0 false 3 rfl rfl A5 rfl (Af D7) ?_
  refine Bk A0 false 4 rfl rfl A5 rfl (Af D7) ?_
  refine Cj (s':=?_) 2 rfl A5 ?_ ?_
  rotate_left
  refine Lj A0 false ?_
  conv=>whnf
  refine I6 A0 rfl rfl rfl rfl rfl rfl (l:=0) (h:=(k:Int)) rfl rfl ⟨by omega,by omega,by omega,(fun h=>by cases h),by omega⟩ (off * 3) k cap C7 C7 C7 (Lj A0 false ?_)
  conv=>whnf
  exact Ax
  refine Cj (s':=?_) 5 rfl A5 ?_ ?_
  rotate_left
  refine Lj A0 false ?_
  conv=>whnf
  refine I6 A0 rfl rfl rfl rfl rfl rfl (l:=(k:Int)+1) (h:=(l.length:Int)) rfl rfl ⟨by omega,by omega,by omega,fun _=>by omega,by omega⟩ (off * 3+(k+1) * 3) (l.length-(k+1)) (cap-(k+1)) C7 Ad Ad (Lj A0 false ?_)
  conv=>whnf
  exact Ax
  refine Jo [6,7] [] A5 ?_
  refine Bf (s':=?_) A0 rfl A5 F1 ?_ ?_
  rotate_left
  refine Lj A0 false ?_
  conv=>whnf
  refine B5o (kb:=1) (kb2:=1) A0 rfl rfl rfl rfl rfl rfl rfl rfl rfl rfl rfl rfl rfl Ad (pre++Gf B7.c (l.take k)) (Gf B7.c ((l.drop k).take (l.length-(k+1)))) (Gf B7.c (l.drop (l.length-1))++Ck) (pre++Gf B7.c (l.take (k+1))) (Gf B7.c (l.drop (k+1))) Ck (by exact c1) (by rw [List.length_append,Xx,t1,p1]) (by rw [Xx,Xx,t2,t3]) (by exact c2) (by rw [List.length_append,Xx,t4,p1]) (by rw [Xx,t3]) (by exact B3q B7.c _) (Lj A0 false ?_)
  conv=>whnf
  exact Ax
  refine Bf (s':=?_) A0 rfl A5 F1 ?_ ?_
  rotate_left
  refine Lj A0 false ?_
  conv=>whnf
  (repeat refine An ?_)
  exact Ax
  refine I7 A0 A5 F1 (GW.out (Lj A0 false ?_))
  conv=>whnf
  refine I6 A0 rfl rfl rfl rfl rfl rfl (l:=((k+(l.length-(k+1)):Nat):Int)) (h:=(l.length:Int)) rfl rfl ⟨by omega,by omega,by omega,(fun h=>by cases h),by omega⟩ (off * 3+(l.length-1) * 3) 1 (cap-(l.length-1)) (by rw [show k+(l.length-(k+1))=l.length-1 by omega];simp) Ad Ad (Lj A0 false ?_)
  conv=>whnf
  refine A47 (kb:=1) A0 rfl rfl rfl rfl rfl rfl rfl rfl Ad (pre++Gf B7.c (l.take k)++Gf B7.c (l.drop (k+1))) (Gf B7.c (l.drop (l.length-1))) Ck (by simp only [List.append_assoc]) (by rw [List.length_append,List.length_append,Xx,Xx,p1,t1,t3];omega) (by rw [Xx,t5]) (Lj A0 false ?_)
  conv=>whnf
  refine A3t Tryz.prog 6 1 off 3 B7.c (l.take k++l.drop (k+1)) pre (List.replicate (1 * 3) .any++Ck) rfl (by rw [H4];simp only [List.append_assoc]) (by exact p1) (fun _=>rfl) (W3 _ _) (by exact p3) (by exact ⟨by rw [te];omega,by rw [te,List.length_append,List.length_replicate];omega⟩) rfl rfl rfl (by rw [te];omega) ?_
  rw [←Vw]
  exact A6a A0 () trivial rfl rfl C1
 ·have e1:l.length=cap:=by omega
  have e2:k+1=l.length:=by omega
  have d1:l.drop (k+1)=[]:=List.drop_eq_nil_of_le Ad
  have d2:(l.drop k).length=1:=by rw [List.length_drop];omega
  have c3:pre++Gf B7.c l++Ck=(pre++Gf B7.c (l.take k))++[]++(Gf B7.c (l.drop k)++Ck):=by
   conv=>lhs;rw [hcut,H4]
   simp only [List.append_assoc,List.nil_append,List.append_nil]
  refine Gl rfl ?_
  refine Bk A0 false 0 rfl rfl A5 rfl (Af D7) ?_
  refine Bk A0 false 1 rfl rfl A5 rfl (Af D7) ?_
  refine Bk A0 false 3 rfl rfl A5 rfl (Af D7) ?_
  refine Bk A0 false 4 rfl rfl A5 rfl (Af D7) ?_
  refine Cj (s':=?_) 2 rfl A5 ?_ ?_
  rotate_left
  refine Lj A0 false ?_
  conv=>whnf
  refine I6 A0 rfl rfl rfl rfl rfl rfl (l:=0) (h:=(k:Int)) rfl rfl ⟨by omega,by omega,by omega,(fun h=>by cases h),by omega⟩ (off * 3) k cap C7 C7 C7 (Lj A0 false ?_)
  conv=>whnf
  exact Ax
  refine Cj (s':=?_) 5 rfl A5 ?_ ?_
  rotate_left
  refine Lj A0 false ?_
  conv=>whnf
  refine B6e A0 rfl rfl rfl rfl rfl rfl (l:=(k:Int)+1) rfl ⟨by omega,by omega,by omega⟩ (Lj A0 false ?_)
  conv=>whnf
  exact Ax
  refine Jo [6,7] [] A5 ?_
  refine Bf (s':=?_) A0 rfl A5 F1 ?_ ?_
  rotate_left
  refine Lj A0 false ?_
  conv=>whnf
  refine B5o (kb:=1) (kb2:=1) A0 rfl rfl rfl rfl rfl rfl rfl rfl rfl rfl rfl rfl rfl Ad (pre++Gf B7.c (l.take k)) [] (Gf B7.c (l.drop k)++Ck) pre [] (Gf B7.c l++Ck) (by exact c3) (by rw [List.length_append,Xx,t1,p1]) rfl (by simp only [List.append_nil,List.append_assoc]) (by exact p1) C7 (fun _ h=>by cases h) (Lj A0 false ?_)
  conv=>whnf
  exact Ax
  refine Bf (s':=?_) A0 rfl A5 F1 ?_ ?_
  rotate_left
  refine Lj A0 false ?_
  conv=>whnf
  (repeat refine An ?_)
  exact Ax
  refine I7 A0 A5 F1 (GW.out (Lj A0 false ?_))
  conv=>whnf
  refine I6 A0 rfl rfl rfl rfl rfl rfl (l:=((k+0:Nat):Int)) (h:=(l.length:Int)) rfl rfl ⟨by omega,by omega,by omega,(fun h=>by cases h),by omega⟩ (off * 3+k * 3) 1 (cap-k) C7 Ad Ad (Lj A0 false ?_)
  conv=>whnf
  refine A47 (kb:=1) A0 rfl rfl rfl rfl rfl rfl rfl rfl Ad (pre++Gf B7.c (l.take k)) (Gf B7.c (l.drop k)) Ck (by simp only [List.append_assoc,List.nil_append,List.append_nil]) (by rw [List.length_append,Xx,p1,t1]) (by rw [Xx,d2]) (Lj A0 false ?_)
  conv=>whnf
  refine A3t Tryz.prog 6 1 off 3 B7.c (l.take k) pre (List.replicate (1 * 3) .any++Ck) rfl (by simp only [List.append_assoc]) (by exact p1) (fun _=>rfl) (W3 _ _) (by exact p3) (by exact ⟨by rw [t1];omega,by rw [t1,List.length_append,List.length_replicate];omega⟩) rfl rfl rfl (by rw [t1];rfl) ?_
  rw [show l.eraseIdx k=l.take k by rw [Vw,d1,List.append_nil]]
  exact A6a A0 () trivial rfl rfl C1
theorem B19 (xs:List B7)(hx:xs.length≤16777216)(f:Nat)(cs:List Ab)(p:B7→Bool)(hf:∀x∈xs,Aq Tryz.prog f [.agg x.c,.ptr cs] [.one (vb (p x))]):
  Aq Tryz.prog 212 [.one (C3 xs),.fn f [.ptr cs]] [.one (vi (Kt p xs))]:=by
 refine Aj A0 false Tryz.func212 rfl Bs fun W=>?_
 conv=>whnf
 refine B6 A0 false [] (fun k:Nat=>[(8,.c (vi k))]) (fun k=>[]) (fun k=>[])
  (fun k=>k≤xs.length∧(xs.take k).any p=false) (fun k=>xs.length-k) 0 ⟨Nat.zero_le _,by first|rfl|assumption|simp⟩ ⟨by first|rfl|simp [Cr,ren2,ren1,ren0],trivial⟩ trivial trivial Cc A5 (fun k hk=>?_)
 obtain ⟨hk,he⟩:=hk
 conv=>whnf
 refine F2 (fun h=>?_) fun h=>?_<;>conv=>whnf
 ·have h:k<xs.length:=by omega
  (repeat refine An ?_)
  refine Ai (hf (xs.getD k default) (B2 h)) rfl (Ae ?_)
  refine ⟨fun hc=>?_,fun hc=>?_⟩<;>conv=>whnf
  ·exact Ah A0 rfl rfl ⟨congrArg vi (Mw p xs k he h hc),trivial⟩
  ·(repeat refine An ?_)
   refine At [] (k+1) ⟨by omega,Fc he h hc⟩ Ad ⟨rfl,trivial⟩ trivial trivial A5 Cc A5
 ·exact Ah A0 rfl rfl ⟨congrArg vi (Ii p xs (by rw [Ee xs k Ad] at he;exact he)),trivial⟩
theorem B6z (w:Int)(y:B7):Aq Tryz.prog 213 [.agg y.c,.ptr [vi w]] [.one (vb (Hd w y))]:=by
 refine Aj A0 false Tryz.func213 rfl Bs fun W=>?_
 conv=>whnf
 exact Ah A0 rfl rfl ⟨rfl,trivial⟩
theorem Uy {c:A4}{w:Int}(h:¬ (Bg c∧c.news.any (Hd w)=true)):Eo c w=(c,false):=if_neg h
theorem A21 {c:A4}{w:Int}(h:Bg c∧c.news.any (Hd w)=true)(h1:Gp (Ag c w) (F5 c w).epoch=true):Eo c w=(P0 c w,true):=by
 unfold Eo
 rw [if_pos h,if_pos h1]
theorem A20 {c:A4}{w:Int}(h:Bg c∧c.news.any (Hd w)=true)(h1:Gp (Ag c w) (F5 c w).epoch=false):Eo c w=(C0 (P0 c w) w (H8 (Ag c w) ⟨(F5 c w).epoch,(F5 c w).capped⟩),true):=by
 unfold Eo
 rw [if_pos h,if_neg (by rw [h1];decide)]
theorem A9q {c:A4}{w:Int}(h:c.news.any (Hd w)=true):Kn c w<c.news.length∧Kt (Hd w) c.news=(Kn c w:Int)∧Hd w (F5 c w)=true:=by
 have e:Kt (Hd w) c.news=(Fm (Hd w) c.news:Int):=by rw [Kt,if_pos h]
 have hx:∀(l:List B7),l.any (Hd w)=true→Fm (Hd w) l<l.length∧Hd w (l.getD (Fm (Hd w) l) default)=true:=by
  intro l
  induction l with
  |nil=>intro h;simp at h
  |cons y r ih=>
   intro h
   by_cases hy:Hd w y=true
   ·simp [Fm,hy]
   ·have hy:Hd w y=false:=by simpa using hy
    rw [List.any_cons,hy,Bool.false_or] at h
    obtain ⟨a,b⟩:=ih h
    simp only [Fm,hy]
    exact ⟨by simpa using a,by simpa using b⟩
 exact ⟨(hx _ h).1,e,(hx _ h).2⟩
set_option maxHeartbeats 8000000 in
theorem A0t (x:A4)(w:Int)(h:x.w≤16000000)(hgo:Jl x):Aq Tryz.prog 162 [.agg x.c,.one (vi w)] [.agg (Eo x w).1.c,.one (vb (Eo x w).2)]:=by
 have hnl:=A4.news_le h
 refine Aj A0 false Tryz.func162 rfl Bs fun W=>?_
 conv=>whnf
 refine Av (Ea x Ad) rfl (Ae ?_)
 refine Ai (B19 x.news Ad _ [vi w] (Hd w) (fun y _=>B6z w y)) rfl (Ae ?_)
 cases hA:x.news.any (Hd w)
 ·rw [Ii _ _ hA]
  repeat refine B9 ?_
  rw [Uy (fun p=>by rw [p.2] at hA;cases hA)]
  refine Ah A0 rfl rfl ?_
  exact C1
 obtain ⟨n1,n2,n3⟩:=A9q hA
 rw [n2]
 refine ⟨fun hz=>?_,fun hz=>?_⟩<;>conv=>whnf
 ·have:=of_decide_eq_true hz
  omega
 repeat refine B9 ?_
 refine Ai (K1 x Ad hgo) rfl (Ae ?_)
 repeat refine B9 ?_
 refine ⟨fun h1=>?_,fun h1=>?_⟩<;>conv=>whnf
 ·have h1:¬ Bg x:=of_decide_eq_false (by simpa [B8] using h1)
  repeat refine B9 ?_
  rw [Uy (fun p=>h1 p.1)]
  refine Ah A0 rfl rfl ?_
  exact C1
 have hC:Bg x:=of_decide_eq_true (show B8 x=true by simpa using h1)
 have hH:Bg x∧x.news.any (Hd w)=true:=⟨hC,hA⟩
 have hwn:=hC.2.2.2.2 _ (B2 (d:=default) n1)
 have hto:(F5 x w).to_=w:=by simpa [Hd] using n3
 have hwl:=hC.1.2.1
 have hwb:0≤w∧w<x.workers.length:=by
  have:=hwn.1
  have e:(x.news.getD (Kn x w) default).to_=w:=hto
  omega
 have hj:w.toNat<x.workers.length:=by omega
 have hww:=A4.worker_le h hj
 have hdl:(x.workers.getD w.toNat default).dones.length≤(x.workers.getD w.toNat default).w:=by simp only [A6.w];omega
 repeat refine B9 ?_
 (repeat refine An ?_)
 refine B06 [.own 7] (A5l x.news (Kn x w) n1 Ad) (fun _ _=>trivial) (fun _ h=>by cases h) C1 rfl rfl (fun i _=>go A0 false ?_)
 conv=>whnf
 have hE0:(x.news.getD (Kn x w) default).epoch=(F5 x w).epoch:=rfl
 first|(refine Ak 7 rfl [0,1,2,3,4,5,6,7,8] A5 (Ae ?_))|(refine Ak 8 rfl [0,1,2,3,4,5,6,7,8,9,10,11,12,13,14,15,16,17,18] A5 (Ae ?_))
 (repeat refine An ?_)
 refine Ai (Wi (Ag x w) (F5 x w).epoch (by show (x.workers.getD w.toNat default).w≤_;omega)) rfl (Ae ?_)
 refine ⟨fun hd=>?_,fun hd=>?_⟩<;>conv=>whnf
 ·have hd:Gp (Ag x w) (F5 x w).epoch=false:=by simpa using hd
  repeat refine B9 ?_
  refine R5 8 3 4 rfl rfl (fun v2=>?_)
  refine Wy 8 3 rfl rfl (fun ho_v2=>?_)
  refine Gl rfl ?_
  refine Bk A0 false 0 rfl rfl A5 rfl (Af D7) ?_
  refine Bk A0 false 3 rfl rfl A5 rfl (Af D7) ?_
  refine Bk A0 false 9 rfl rfl A5 rfl (Af D7) ?_
  refine Bk A0 false 11 rfl rfl A5 rfl (Af D7) ?_
  refine Cj (s':=?_) 4 rfl A5 ?_ ?_
  rotate_left
  refine go A0 false ?_
  conv=>whnf
  refine A8p 48 4 rfl rfl (Ae ?_)
  (repeat refine An ?_)
  exact Ax
  refine Cj (s':=?_) 5 rfl A5 ?_ ?_
  rotate_left
  refine go A0 false ?_
  conv=>whnf
  (repeat refine An ?_)
  exact Ax
  refine Cj (s':=?_) 6 rfl A5 ?_ ?_
  rotate_left
  refine go A0 false ?_
  conv=>whnf
  (repeat refine An ?_)
  exact Ax
  refine Bk A0 false 7 rfl rfl A5 rfl (Af D7) ?_
  refine Pe (α:=Value) (s':=?_) 8 rfl A5 ?_ ?_
  rotate_left
  refine go A0 false ?_
  conv=>whnf
  refine Ij A0 rfl rfl rfl rfl rfl rfl (jn:=w.toNat) rfl rfl rfl (fun v=>go A0 false ?_)
  conv=>whnf
  exact Tx v
  intro v
  refine Cj (s':=?_) 10 rfl A5 ?_ ?_
  rotate_left
  refine go A0 false ?_
  conv=>whnf
  (repeat refine An ?_)
  exact Ax
  refine Cj (s':=?_) 12 rfl A5 ?_ ?_
  rotate_left
  refine go A0 false ?_
  conv=>whnf
  (repeat refine An ?_)
  exact Ax
  refine Cj (s':=?_) 13 rfl A5 ?_ ?_
  rotate_left
  refine go A0 false ?_
  conv=>whnf
  (repeat refine An ?_)
  exact Ax
  refine Jo [14,15,16,17,18] [⟨1,45,.rd v2⟩,⟨2,46,.rd (Value.int .i64 w)⟩] A5 ?_
  refine Bf (s':=?_) A0 rfl A5 Jk ?_ ?_
  rotate_left
  refine go A0 false ?_
  conv=>whnf
  (repeat refine An ?_)
  exact Ax
  refine Bf (s':=?_) A0 rfl A5 Jk ?_ ?_
  rotate_left
  refine go A0 false ?_
  conv=>whnf
  refine Bm A0 rfl rfl rfl rfl rfl rfl rfl rfl rfl rfl rfl (Er ((x.workers.getD w.toNat default).dones++[⟨(F5 x w).epoch,(F5 x w).capped⟩])) (Bh rfl) Ef Ad (Ae ?_)
  exact Ax
  refine Bf (s':=?_) A0 rfl A5 Jk ?_ ?_
  rotate_left
  refine go A0 false ?_
  conv=>whnf
  refine A8p 45 4 rfl rfl (Ae ?_)
  (repeat refine An ?_)
  exact Ax
  refine Bf (s':=?_) A0 rfl A5 Jk ?_ ?_
  rotate_left
  refine go A0 false ?_
  conv=>whnf
  (repeat refine An ?_)
  exact Ax
  refine Bf (s':=?_) A0 rfl A5 Jk ?_ ?_
  rotate_left
  refine go A0 false ?_
  conv=>whnf
  refine Bj (j:=w) A0 rfl rfl rfl rfl rfl rfl rfl rfl (Ap (x.workers.set w.toNat (H8 (Ag x w) ⟨(F5 x w).epoch,(F5 x w).capped⟩))) (Fj hj rfl) (Ae ?_)
  exact Ax
  refine I7 A0 A5 Jk (GW.out (Iy ?_))
  conv=>whnf
  refine A96 Tryz.prog (fun _ g=>R4 2 3 4 rfl rfl rfl g) ?_
  rw [A20 hH hd]
  refine Ah A0 rfl rfl ?_
  exact C1
 ·have hd:Gp (Ag x w) (F5 x w).epoch=true:=by simpa using hd
  repeat refine B9 ?_
  rw [A21 hH hd]
  refine Ah A0 rfl rfl ?_
  exact C1
end Go.Proofs.YtlbmkgkmbjadcaaGreat
