/- Part 9 of the proof that each of the laws FnSpread returns true for every input. No conditions. -/
import Derived.Test.YtdendlkeiaccpaaGreatQ5
import Derived.Test.YtdendlkeiaccpaaGreatQ8
import Derived.Test.YtdendlkeiaccpaaGreatQ6
import Derived.Test.YtdendlkeiaccpaaGreatQ7

set_option linter.unusedSimpArgs false
set_option linter.unusedVariables false
set_option maxRecDepth 100000
namespace Go.Proofs.YtdendlkeiaccpaaGreat
open Go.Sx
def A9 (c:A3) (e:Int):Fs:=c.tokens.getD e.toNat default
def A8 (c:A3) (j:Int):Ab:=c.workers.getD j.toNat default
def De (c:A3) (e:Int) (t:Fs):A3:=⟨c.graph,c.workers,c.links,c.tokens.set e.toNat t,c.news⟩
def Av (c:A3) (j:Int) (w:Ab):A3:=⟨c.graph,c.workers.set j.toNat w,c.links,c.tokens,c.news⟩
def G2 (w:Ab) (e:Int):Ab:=⟨w.queue,w.staged,w.inputs,w.cells,w.sums,w.black.set e.toNat false,w.caps,w.dones⟩
def Ef (w:Ab) (d:F6):Ab:=⟨w.queue,w.staged,w.inputs,w.cells,w.sums,w.black,w.caps,w.dones++[d]⟩
def Ip (e:Int) (b:Bool) (k:Nat):List Di:=(List.range k).map fun (i:Nat)=>(⟨(i:Int)+1,e,b⟩:Di)
def Jl (c:A3) (l:List Di):A3:=⟨c.graph,c.workers,c.links,c.tokens,c.news++l⟩
def Gw (c:A3) (e:Int) (t:Fs) (w:Ab):A3:=
 if t.black=false∧w.black.getD e.toNat default=false∧t.sum+w.sums.getD e.toNat default=0 then
  Jl (Av c 0 (Ef w ⟨e,t.capped||w.caps.getD e.toNat default⟩)) (Ip e (t.capped||w.caps.getD e.toNat default) (c.workers.length-1))
 else c
def Nk (c:A3) (e:Int):Prop:=B7 c∧(0≤e∧e≤3)∧Cv (A8 c 0) e=false∧Dx (A8 c (A9 c e).at_) e=true
instance (c:A3) (e:Int):Decidable (Nk c e):=by unfold Nk;infer_instance
def Ci (c:A3) (e:Int):A3×Bool:=
 if Nk c e then
  let t:=A9 c e
  let w:=A8 c t.at_
  if t.going=false then (Av (De c e ⟨true,(c.workers.length:Int)-1,0,false,w.caps.getD e.toNat default⟩) t.at_ (G2 w e),true)
  else if t.at_>0 then
   if Hf (t.sum+w.sums.getD e.toNat default) then
    (Av (De c e ⟨t.going,t.at_-1,t.sum+w.sums.getD e.toNat default,t.black||w.black.getD e.toNat default,t.capped||w.caps.getD e.toNat default⟩) t.at_ (G2 w e),true)
   else (c,false)
  else (Gw (De c e ⟨false,t.at_,t.sum,t.black,t.capped⟩) e t w,true)
 else (c,false)
theorem A4t {c:A3}{e:Int}(h:Nk c e)(hg:(A9 c e).going=false):Ci c e=(Av (De c e ⟨true,(c.workers.length:Int)-1,0,false,(A8 c (A9 c e).at_).caps.getD e.toNat default⟩) (A9 c e).at_ (G2 (A8 c (A9 c e).at_) e),true):=by
 rw [Ci,if_pos h];simp only [hg,if_true]
theorem B36 {c:A3}{e:Int}(h:Nk c e)(hg:(A9 c e).going=true)(ha:(A9 c e).at_>0)(hs:¬ Hf ((A9 c e).sum+(A8 c (A9 c e).at_).sums.getD e.toNat default)):Ci c e=(c,false):=by
 rw [Ci,if_pos h];simp only [hg,Bool.true_eq_false,if_false,if_pos ha,if_neg hs]
theorem M4 {c:A3}{e:Int}(h:Nk c e)(hg:(A9 c e).going=true)(ha:(A9 c e).at_>0)(hs:Hf ((A9 c e).sum+(A8 c (A9 c e).at_).sums.getD e.toNat default)):
  Ci c e=(Av (De c e ⟨true,(A9 c e).at_-1,(A9 c e).sum+(A8 c (A9 c e).at_).sums.getD e.toNat default,(A9 c e).black||(A8 c (A9 c e).at_).black.getD e.toNat default,(A9 c e).capped||(A8 c (A9 c e).at_).caps.getD e.toNat default⟩) (A9 c e).at_ (G2 (A8 c (A9 c e).at_) e),true):=by
 rw [Ci,if_pos h];simp only [hg,Bool.true_eq_false,if_false,if_pos ha,if_pos hs]
theorem Qg {c:A3}{e:Int}(h:¬ Nk c e):Ci c e=(c,false):=by rw [Ci,if_neg h]
theorem D8 {α:Type} [Inhabited α] {es:Nat}{e:α→List Ai}{l:List α}{j:Nat}{r:List Ai}(h:r=e (l.getD j default)):Ii (.sl l.length es (Ga (fun i=>e (l.getD i default)) j r)) (Kv es e l):=by
 refine ⟨rfl,rfl,fun i _=>?_⟩;unfold Ga
 split
 ·rename_i e;subst e;rw [h];exact Gb.rfl' _
 exact Gb.rfl' _
theorem Gq {α:Type} [Inhabited α] {es:Nat}{e:α→List Ai}{l:List α}{j:Nat}{r:List Ai}{x:α}(hj:j<l.length)(h:r=e x):Ii (.sl l.length es (Ga (fun i=>e (l.getD i default)) j r)) (Kv es e (l.set j x)):=by
 refine ⟨by rw [List.length_set],rfl,fun i _=>?_⟩;unfold Ga
 split
 ·rename_i q
  subst q
  show Gb r (e ((l.set i x).getD i default))
  rw [h,Sx.getD_set_self _ _ _ _ hj];exact Gb.rfl' _
 rename_i q
 show Gb (e (l.getD i default)) (e ((l.set j x).getD i default))
 rw [Sx.getD_set_ne _ _ _ _ _ q];exact Gb.rfl' _
abbrev X6 (x:A3) (b:Bool):List Ai:=[Bg x.graph.nodes,vi x.graph.workers,vi x.graph.cap,Ar x.workers,C4 x.links,Bm x.tokens,Cc x.news,vb b]
abbrev rc (x:A3):List Ai:=X6 x (Bf x)
theorem Ln {c:A3}{e:Int}(h:Nk c e)(hg:(A9 c e).going=true)(ha:¬ (A9 c e).at_>0):Ci c e=(Gw (De c e ⟨false,(A9 c e).at_,(A9 c e).sum,(A9 c e).black,(A9 c e).capped⟩) e (A9 c e) (A8 c (A9 c e).at_),true):=by
 rw [Ci,if_pos h];simp only [hg,Bool.true_eq_false,if_false,if_neg ha]
def A54 {α:Type} (l:List α) (k:Nat) (x:α):List α:=l.take k++x::l.drop k
theorem Ki (l:List Ae)(n:Nat):F5 n fun i=>Ae.c (l.getD i default):=by
 intro i hi c hc;simp only [Ae.c,List.mem_cons,List.not_mem_nil,or_false] at hc
 rcases hc with rfl|rfl|rfl|rfl<;>exact ⟨_,rfl⟩
theorem A9h {α:Type} [Inhabited α] (e:α→List Ai)(l:List α){k:Nat}(hk:k≤l.length):Gg k (fun i=>e (l.getD i default))=He e (l.take k):=by
 rw [←S0,List.length_take,Nat.min_eq_left hk];unfold Gg;simp only [List.flatMap_def]
 congr 1
 apply List.map_congr_left
 intro i hi;have hi:=List.mem_range.1 hi;rw [show (l.take k).getD i default=l.getD i default by simp [List.getD,List.getElem?_take,hi]]
theorem C4d {α:Type} [Inhabited α] (e:α→List Ai)(l:List α){k:Nat}(hk:k≤l.length)(pre D5:List AV):pre++He e l++D5=pre++Gg k (fun i=>e (l.getD i default))++(He e (l.drop k)++D5):=by
 rw [A9h e l hk,List.append_assoc,List.append_assoc,←List.append_assoc (He e (l.take k)),←I4,List.take_append_drop]
def Nv (l:List Ae) (k:Nat):List Ae:=l.take k++List.replicate (l.length+1-k) default
theorem H6 {l:List Ae}{k:Nat}(hk:k≤l.length):(Nv l k).length=l.length+1:=by
 rw [Nv,List.length_append,List.length_take,List.length_replicate];omega
theorem B8f {l:List Ae}{k i:Nat}(hk:k≤l.length)(hi:i<k):(Nv l k).getD i default=l.getD i default:=by
 unfold Nv;simp only [List.getD];rw [List.getElem?_append_left (by rw [List.length_take];omega),List.getElem?_take,if_pos hi]
theorem B8e {l:List Ae}{k i:Nat}(hk:k≤l.length)(hi:k≤i):(Nv l k).getD i default=default:=by
 unfold Nv;simp only [List.getD];rw [List.getElem?_append_right (by rw [List.length_take];omega),List.getElem?_replicate]
 split<;>rfl
theorem A77 {l:List Ae}{k:Nat}(hk:k<l.length)(pre D5:List AV):pre++He Ae.c (Nv l k)++D5=(pre++He Ae.c (l.take k))++He Ae.c [(default:Ae)]++(He Ae.c (List.replicate (l.length-k) (default:Ae))++D5):=by
 rw [Nv,show l.length+1-k=(l.length-k)+1 by omega,List.replicate_succ,show (default:Ae)::List.replicate (l.length-k) default=[default]++List.replicate (l.length-k) default from rfl,I4,I4]
 simp only [List.append_assoc]
theorem Ov {l:List Ae}{k:Nat}{x:Ae}(hk:k≤l.length):(A54 l k x).length=l.length+1:=by
 rw [A54,List.length_append,List.length_cons,List.length_take,List.length_drop];omega
theorem Xj (l:List Ae):(He Ae.c l).length=l.length * 4:=A60 (es:=4) (fun _=>rfl) l
theorem A8l (l:List Ae)(k:Nat)(x:Ae)(pre D5:List AV):pre++He Ae.c (A54 l k x)++D5=(pre++He Ae.c (l.take k)++He Ae.c [x])++He Ae.c (l.drop k)++D5:=by
 rw [A54,show x::l.drop k=[x]++l.drop k from rfl,I4,I4]
 simp only [List.append_assoc]
set_option maxHeartbeats 4000000 in
theorem A02 (l:List Ae)(k:Nat)(x:Ae)(hk:k≤l.length)(hl:l.length≤16777216):J6 Tryz.prog (fun _=>True) 177 [] [.one (Ak l),.one (vi k),.one (Ak [x])] [] (fun _:Unit=>True) (fun _=>[.one (Ak (A54 l k x))]):=by
 refine O6 A0 false Tryz.func177 rfl B5 fun B hH hp=>?_;conv=>whnf
 refine B95 A0 rfl rfl rfl rfl rfl rfl rfl (l:=(k:Int)) rfl ⟨by omega,by show (k:Int)≤(l.length:Int);omega⟩ (A7 ?_)
 repeat refine B2 ?_
 refine ⟨fun he=>?_,fun he=>?_⟩<;>conv=>whnf
 ·have he:(k:Int)=l.length:=eq_of_beq he
  obtain rfl:k=l.length:=by omega
  rw [show A54 l l.length x=l++[x] by unfold A54;rw [List.take_length,List.drop_length]]
  refine Bj A0 rfl rfl rfl rfl rfl rfl rfl rfl rfl rfl rfl (Ak (l++[x])) (An rfl) C6 (by show l.length+1≤_;omega) (A7 ?_)
  exact Vq A0 () trivial rfl rfl B0
 have he:(k:Int)≠l.length:=beq_eq_false_iff_ne.1 he;have hkl:k<l.length:=by omega
 refine ⟨by (have:(([x].length:Nat):Int)=1:=rfl;rw [this];show _∧_;omega),?_⟩
 conv=>whnf
 refine Z1 0 4 Ae.c l rfl Ad (Ki l _) (fun b off cap pre D5 p1 p2 p3 p4=>?_);refine N6 0 0 rfl rfl ?_;refine N6 29 0 rfl rfl ?_;refine C55 A0 rfl rfl rfl rfl rfl (N2 A0 false ?_);conv=>whnf
 refine ⟨fun hc=>?_,fun hc=>?_⟩<;>conv=>whnf
 ·have hc:cap<l.length+1:=by
   have:=of_decide_eq_true hc
   have e1:(([x].length:Nat):Int)=1:=rfl;omega
  have hcl:cap=l.length:=by omega
  refine J9 A0 rfl rfl rfl rfl rfl rfl (l:=0) (h:=(k:Int)) rfl rfl ⟨by omega,by omega,by omega,fun h=>by (try cases h),by omega⟩ (off * 4) k cap C8 C8 C8 (N2 A0 false ?_);conv=>whnf
  refine ⟨by (have e1:(([x].length:Nat):Int)=1:=rfl;rw [e1];show _∧_;omega),?_⟩
  conv=>whnf
  refine ⟨by (have e1:(([x].length:Nat):Int)=1:=rfl;rw [e1];show _∧_;omega),?_⟩
  conv=>whnf
  rw [show ((l.length:Int)+(([x].length:Nat):Int))-(k:Int)=((l.length+1-k:Nat):Int) by have e1:(([x].length:Nat):Int)=1:=rfl;omega]
  refine C53 (kb:=2) (k:=l.length+1-k) (row:=fun i=>Ae.c (l.getD i default)) A0 rfl rfl rfl rfl rfl rfl rfl rfl rfl rfl rfl rfl pre (He Ae.c (l.drop k)++D5) (by exact C4d Ae.c l hk pre D5) (by exact p1) rfl B5 (by exact fun _ _=>rfl) (by exact Ki l _) Ad Ad Ad rfl (fun i=>Ae.c ((Nv l k).getD i default)) (fun i hi=>by rw [B8f hk hi]) (fun i hi _=>by rw [B8e hk hi];rfl) (N2 A0 false ?_);conv=>whnf
  rw [show (Ai.sl (k+(l.length+1-k)) 4 fun i=>Ae.c ((Nv l k).getD i default))=Kv 4 Ae.c (Nv l k) by unfold Kv;rw [H6 hk];congr 1;omega]
  refine Z1 3 4 Ae.c (Nv l k) rfl (by rw [H6 hk];omega) (Ki _ _) (fun b2 off2 cap2 pre2 post2 q1 q2 q3 q4=>?_);rw [H6 hk] at q2 q4;refine N6 9 3 rfl rfl ?_;refine N6 41 3 rfl rfl ?_;refine J9 A0 rfl rfl rfl rfl rfl rfl (l:=(k:Int)) (h:=((Nv l k).length:Int)) rfl rfl ⟨by omega,by rw [H6 hk];omega,by rw [H6 hk];omega,fun _=>by rw [H6 hk];omega,by omega⟩ (off2 * 4+k * 4) (l.length+1-k) (cap2-k) C8 (by rw [H6 hk];simp) C8 (N2 A0 false ?_);conv=>whnf
  refine B7k (kb:=4) A0 rfl rfl rfl rfl rfl rfl rfl rfl rfl rfl (by exact Ki [x] _) (by exact Nat.one_pos) rfl (by show 1≤_;omega) (pre2++He Ae.c (l.take k)) (He Ae.c [(default:Ae)]) (He Ae.c (List.replicate (l.length-k) (default:Ae))++post2) (by exact A77 hkl pre2 post2) (by rw [List.length_append,Xj,List.length_take,q1];omega) (by rfl) (N2 A0 false ?_)
  conv=>whnf
  have t1:(l.take k).length=k:=by rw [List.length_take];omega
  have t2:(l.drop k).length=l.length-k:=List.length_drop;have e1:(([x].length:Nat):Int)=1:=rfl;rw [show Gg [x].length (fun i=>Ae.c ([x].getD i default))=He Ae.c [x] from S0 Ae.c [x]]
  refine H0 rfl ?_;refine Bp A0 false 0 rfl rfl A6 rfl (A4 Br) ?_;refine Bp A0 false 1 rfl rfl A6 rfl (A4 Br) ?_;refine Bp A0 false 2 rfl rfl A6 rfl (A4 Br) ?_;refine Bp A0 false 3 rfl rfl A6 rfl (A4 Br) ?_;refine Bp A0 false 5 rfl rfl A6 rfl (A4 Br) ?_;refine Bp A0 false 6 rfl rfl A6 rfl (A4 Br) ?_;refine Cl (s':=?_) 4 rfl A6 ?_ ?_;rotate_left;refine N2 A0 false ?_;conv=>whnf
  refine J9 A0 rfl rfl rfl rfl rfl rfl (l:=(k:Int)+(([x].length:Nat):Int)) (h:=((Nv l k).length:Int)) rfl rfl ⟨by omega,by rw [H6 hk];omega,by rw [H6 hk];omega,fun _=>by rw [H6 hk];omega,by omega⟩ (off2 * 4+(k+1) * 4) (l.length-k) (cap2-(k+1)) (by rw [e1];rfl) (by rw [H6 hk,e1];omega) (by rw [e1];rfl) (N2 A0 false ?_);conv=>whnf
  exact B6
  refine Cl (s':=?_) 7 rfl A6 ?_ ?_;rotate_left;refine N2 A0 false ?_;conv=>whnf
  refine J9 A0 rfl rfl rfl rfl rfl rfl (l:=(k:Int)) (h:=(l.length:Int)) rfl rfl ⟨by omega,by omega,by omega,fun _=>by omega,by omega⟩ (off * 4+k * 4) (l.length-k) (cap-k) C8 C8 C8 (N2 A0 false ?_);conv=>whnf
  exact B6
  refine Kz [8] [] A6 ?_;refine Bl (s':=?_) A0 rfl A6 E8 ?_ ?_;rotate_left;refine N2 A0 false ?_;conv=>whnf
  refine B7l (kb:=4) (kb2:=2) A0 rfl rfl rfl rfl rfl rfl rfl rfl rfl rfl rfl (pre2++He Ae.c (l.take k)++He Ae.c [x]) (He Ae.c (List.replicate (l.length-k) (default:Ae))) post2 (pre++He Ae.c (l.take k)) (He Ae.c (l.drop k)) D5 (by simp only [List.append_assoc]) (by rw [List.length_append,List.length_append,Xj,Xj,t1,q1];simp;omega) (by rw [Xj,Xj,t2,List.length_replicate]) (by rw [←List.take_append_drop k l,I4,List.take_append_drop];simp only [List.append_assoc]) (by rw [List.length_append,Xj,t1,p1]) (by rw [Xj,t2,show Nat.min (l.length-k) (l.length-k)=_ from Nat.min_self _]) (by exact C0h Ae.c _) (N2 A0 false ?_)
  conv=>whnf
  exact B6
  refine Jf A0 A6 E8 (GW.out (N2 A0 false ?_));conv=>whnf
  refine A84 Tryz.prog 6 4 off2 4 Ae.c (A54 l k x) pre2 post2 rfl (by exact (A8l l k x pre2 post2).symm) (by exact q1) (fun _=>rfl) (Ki _ _) (by exact q3) (by exact ⟨by rw [Ov hk];exact q2,by rw [Ov hk];exact q4⟩) rfl rfl rfl (by rw [H6 hk,Ov hk]) ?_;exact Vq A0 () trivial rfl rfl B0
 have hc:l.length+1≤cap:=by
  have:=of_decide_eq_false hc
  have e1:(([x].length:Nat):Int)=1:=rfl;omega
 have t1:(l.take k).length=k:=by rw [List.length_take];omega
 have t2:(l.drop k).length=l.length-k:=List.length_drop;have e1:(([x].length:Nat):Int)=1:=rfl;have hp4:4≤D5.length:=by have q:=Nat.mul_le_mul_right 4 (show 1≤cap-l.length from by omega);omega
 refine ⟨by (rw [e1];show _∧_;omega),?_⟩
 conv=>whnf
 refine J9 A0 rfl rfl rfl rfl rfl rfl (l:=0) (h:=(l.length:Int)+(([x].length:Nat):Int)) rfl rfl (by refine ⟨by omega,by omega,by omega,?_,by omega⟩;intro h;exact absurd h C8) (off * 4) (l.length+1) cap C8 (by rw [e1];rfl) C8 (N2 A0 false ?_);conv=>whnf
 refine ⟨by (rw [e1];show _∧_;omega),?_⟩
 conv=>whnf
 refine J9 A0 rfl rfl rfl rfl rfl rfl (l:=(k:Int)+(([x].length:Nat):Int)) (h:=((l.length+1:Nat):Int)) rfl rfl ⟨by omega,by omega,by omega,fun _=>by omega,by omega⟩ (off * 4+(k+1) * 4) (l.length-k) (cap-(k+1)) (by rw [e1];rfl) (by rw [e1];omega) (by rw [e1];rfl) (C58 0 A0 false ?_);conv=>whnf
 refine B5r (kb:=2) A0 rfl rfl rfl rfl rfl rfl rfl rfl rfl rfl rfl rfl (by exact Nat.one_pos) rfl rfl rfl (by rw [List.length_append,List.length_append];omega) (N2 A0 false ?_);conv=>whnf
 repeat refine B2 ?_
 have k1:l.take (k+1)=l.take k++[l.getD k default]:=by
  rw [List.take_succ_eq_append_getElem hkl]
  simp [List.getD,hkl]
 have c1:pre++He Ae.c l++D5=(pre++He Ae.c (l.take (k+1)))++(He Ae.c (l.drop (k+1))++D5.take 4)++D5.drop 4:=by
  conv=>lhs;rw [←List.take_append_drop (k+1) l,I4,←List.take_append_drop 4 D5]
  simp only [List.append_assoc]
 have c2:pre++He Ae.c l++D5=(pre++He Ae.c (l.take k))++He Ae.c (l.drop k)++D5:=by
  conv=>lhs;rw [←List.take_append_drop k l,I4]
  simp only [List.append_assoc]
 have c3:(pre++He Ae.c (l.take (k+1)))++He Ae.c (l.drop k)++D5.drop 4=(pre++He Ae.c (l.take k))++He Ae.c [l.getD k default]++(He Ae.c (l.drop k)++D5.drop 4):=by
  rw [k1,I4];simp only [List.append_assoc]
 have t3:(l.take (k+1)).length=k+1:=by rw [List.length_take];omega
 have t4:(l.drop (k+1)).length=l.length-(k+1):=List.length_drop;have t5:(D5.take 4).length=4:=by rw [List.length_take];omega
 refine H0 rfl ?_;refine Bp A0 false 0 rfl rfl A6 rfl (A4 Br) ?_;refine Bp A0 false 1 rfl rfl A6 rfl (A4 Br) ?_;refine Bp A0 false 2 rfl rfl A6 rfl (A4 Br) ?_;refine Bp A0 false 3 rfl rfl A6 rfl (A4 Br) ?_;refine Bp A0 false 5 rfl rfl A6 rfl (A4 Br) ?_;refine Bp A0 false 6 rfl rfl A6 rfl (A4 Br) ?_;refine Cl (s':=?_) 4 rfl A6 ?_ ?_;rotate_left;refine N2 A0 false ?_;conv=>whnf
 refine J9 A0 rfl rfl rfl rfl rfl rfl (l:=(k:Int)+(([x].length:Nat):Int)) (h:=((l.length+1:Nat):Int)) rfl rfl ⟨by omega,by omega,by omega,fun _=>by omega,by omega⟩ (off * 4+(k+1) * 4) (l.length-k) (cap-(k+1)) (by rw [e1];rfl) (by rw [e1];omega) (by rw [e1];rfl) (N2 A0 false ?_);conv=>whnf
 exact B6
 refine Cl (s':=?_) 7 rfl A6 ?_ ?_;rotate_left;refine N2 A0 false ?_;conv=>whnf
 refine J9 A0 rfl rfl rfl rfl rfl rfl (l:=(k:Int)) (h:=((l.length+1:Nat):Int)) rfl rfl ⟨by omega,by omega,by omega,fun _=>by omega,by omega⟩ (off * 4+k * 4) (l.length+1-k) (cap-k) C8 C8 C8 (N2 A0 false ?_);conv=>whnf
 exact B6
 refine Kz [8] [] A6 ?_;refine Bl (s':=?_) A0 rfl A6 E8 ?_ ?_;rotate_left;refine N2 A0 false ?_;conv=>whnf
 refine B7l (kb:=2) (kb2:=2) A0 rfl rfl rfl rfl rfl rfl rfl rfl rfl rfl rfl (pre++He Ae.c (l.take (k+1))) (He Ae.c (l.drop (k+1))++D5.take 4) (D5.drop 4) (pre++He Ae.c (l.take k)) (He Ae.c (l.drop k)) D5 (by exact c1) (by rw [List.length_append,Xj,t3,p1]) (by rw [List.length_append,Xj,Xj,t2,t4,t5];omega) (by exact c2) (by rw [List.length_append,Xj,t1,p1]) (by rw [Xj,t2,show Nat.min (l.length+1-k) (l.length-k)=l.length-k from Nat.min_eq_right Ad]) (by exact C0h Ae.c _) (N2 A0 false ?_)
 conv=>whnf
 exact B6
 refine Jf A0 A6 E8 (GW.out (N2 A0 false ?_));conv=>whnf
 rw [c3];refine J9 A0 rfl rfl rfl rfl rfl rfl (l:=(k:Int)) (h:=((l.length+1:Nat):Int)) rfl rfl ⟨by omega,by omega,by omega,fun _=>by omega,by omega⟩ (off * 4+k * 4) (l.length+1-k) (cap-k) C8 C8 C8 (N2 A0 false ?_);conv=>whnf
 refine B7k (kb:=2) A0 rfl rfl rfl rfl rfl rfl rfl rfl rfl rfl (by exact Ki [x] _) (by exact Nat.one_pos) rfl (by show 1≤_;omega) (pre++He Ae.c (l.take k)) (He Ae.c [l.getD k default]) (He Ae.c (l.drop k)++D5.drop 4) rfl (by rw [List.length_append,Xj,t1,p1]) (by rfl) (N2 A0 false ?_)
 conv=>whnf
 rw [show Gg [x].length (fun i=>Ae.c ([x].getD i default))=He Ae.c [x] from S0 Ae.c [x]]
 refine A84 Tryz.prog 6 2 off 4 Ae.c (A54 l k x) pre (D5.drop 4) rfl (by rw [A8l];simp only [List.append_assoc]) (by exact p1) (fun _=>rfl) (Ki _ _) (by exact p3) (by exact ⟨by rw [Ov hk];exact hc,by rw [Ov hk,List.length_drop];omega⟩) rfl rfl rfl (by rw [Ov hk]) ?_;exact Vq A0 () trivial rfl rfl B0
def Jn (l:List Ae) (x:Ae):Bool:=l.any fun y=>decide (y=x)
def Km (l:List Ae) (x:Ae):Nat:=Fa (fun y=>!decide (Kh y x<0)) l
def Do (l:List Ae) (x:Ae):List Ae:=if Jn l x=true then l else l.take (Km l x)++x::l.drop (Km l x)
def N3 (op e k:Int) (s:Int×Bool) (x:Ae):Int×Bool:=if (x.op=op∧x.epoch=e∧x.key=k)∧(s.2=false∨x.val<s.1) then (x.val,true) else s
def Io (l:List Ae) (op e k:Int):Int×Bool:=l.foldl (N3 op e k) (0,false)
def Bq (a b:Ae):Bool:=decide (a.op=b.op∧a.epoch=b.epoch∧a.key=b.key)
def Hb (l:List Ae) (x:Ae):Prop:=(Io l x.op x.epoch x.key).2=true∧(Io l x.op x.epoch x.key).1≤x.val
instance (l:List Ae) (x:Ae):Decidable (Hb l x):=by unfold Hb;infer_instance
def Ei (l:List Ae) (x:Ae):List Ae×Bool:=if Hb l x then (l,false) else (Do (l.filter fun y=>!Bq x y) x,true)
def Bs (k:Int) (l:List Ae) (x:Ae):List Ae×Bool:=
 if k=5∨k=8 then Ei l x else if k=6 then (if Jn l x=true then (l,false) else (Do l x,true)) else (l,true)
theorem Ya (l:List Ae)(x:Ae)(hl:l.length≤16777216):B3 Tryz.prog 166 [.one (Ak l),.agg x.c] [.one (vb (Jn l x))]:=by
 refine Aw A0 false Tryz.func166 rfl B5 fun W=>?_;conv=>whnf
 refine Bk A0 false [] (fun k:Nat=>[(5,.c (vi k))]) (fun k=>[⟨0,[.c (vi x.op),.c (vi x.epoch),.c (vi x.key),.c (vi x.val)]⟩]) (fun k=>[])
  (fun k=>k≤l.length∧(l.take k).any (fun y=>decide (y=x))=false) (fun k=>l.length-k) 0 ⟨Nat.zero_le _,by first|rfl|assumption|simp⟩ ⟨F0,trivial⟩ C2 trivial C1 A6 (fun k hk=>?_)
 obtain ⟨hk,he⟩:=hk;conv=>whnf
 refine Eo (fun h=>?_) fun h=>?_<;>conv=>whnf
 ·have h:k<l.length:=by omega
  (repeat refine Ap ?_)
  first|(refine Ax 4 rfl [0,1,2,3,4,5] A6 (A7 ?_))
  (repeat refine Ap ?_);refine ⟨fun hc=>?_,fun hc=>?_⟩<;>conv=>whnf
  ·have hc:decide (l.getD k default=x)=true:=by rw [←Ae.eqv];exact hc
   exact Am A0 rfl rfl ⟨congrArg vb (show Jn l x=true from List.any_eq_true.2 ⟨_,At h,hc⟩),trivial⟩
  have hc:decide (l.getD k default=x)=false:=by rw [←Ae.eqv];exact hc
  (repeat refine Ap ?_);refine Az [] (k+1) ⟨by omega,Fw he h hc⟩ Ad ⟨rfl,trivial⟩ trivial C2 A6 C1 A6
 exact Am A0 rfl rfl ⟨congrArg vb (show Jn l x=false by rw [Jn,←Da l k Ad];exact he),trivial⟩
theorem A21 (l:List Ae)(x:Ae)(hl:l.length≤16777216):B3 Tryz.prog 239 [.one (Ak l),.agg x.c] [.one (vi (Me (fun y=>decide (y=x)) l))]:=by
 refine Aw A0 false Tryz.func239 rfl B5 fun W=>?_;conv=>whnf
 refine Bk A0 false [5,9,10,11,12,13,14,15,16,17,18] (fun k:Nat=>[(8,.c (vi k))]) (fun k=>[⟨0,[.c (vi x.op),.c (vi x.epoch),.c (vi x.key),.c (vi x.val)]⟩]) (fun k=>[])
  (fun k=>k≤l.length∧(l.take k).any (fun y=>decide (y=x))=false) (fun k=>l.length-k) 0 ⟨Nat.zero_le _,by first|rfl|assumption|simp⟩ ⟨F0,trivial⟩ C2 trivial C1 A6 (fun k hk=>?_)
 obtain ⟨hk,he⟩:=hk;conv=>whnf
 refine Eo (fun h=>?_) fun h=>?_<;>conv=>whnf
 ·have h:k<l.length:=by omega
  (repeat refine Ap ?_)
  first|(refine Ax 4 rfl [0,1,2,3,4,5] A6 (A7 ?_))
  (repeat refine Ap ?_);refine ⟨fun hc=>?_,fun hc=>?_⟩<;>conv=>whnf
  ·have hc:decide (l.getD k default=x)=true:=by rw [←decide_eq_decide.2 (eq_comm (a:=x)),←Ae.eqv];exact hc
   exact Am A0 rfl rfl ⟨congrArg vi (On _ l k he h hc),trivial⟩
  have hc:decide (l.getD k default=x)=false:=by rw [←decide_eq_decide.2 (eq_comm (a:=x)),←Ae.eqv];exact hc
  (repeat refine Ap ?_);refine Az [] (k+1) ⟨by omega,Fw he h hc⟩ Ad ⟨rfl,trivial⟩ trivial C2 A6 C1 A6
 exact Am A0 rfl rfl ⟨congrArg vi (Jp _ l (by rw [←Da l k Ad];exact he)),trivial⟩
theorem Wu (l:List Ae)(x:Ae)(hl:l.length≤16777216):B3 Tryz.prog 208 [.one (Ak l),.agg x.c] [.one (vb (Jn l x))]:=by
 refine Aw A0 false Tryz.func208 rfl B5 fun W=>?_;conv=>whnf
 refine As (A21 l x hl) rfl (A7 ?_);exact Am A0 rfl rfl ⟨congrArg vb (Ws _ l).symm,trivial⟩
theorem Xu (l:List Ae)(x:Ae)(hl:l.length≤16777216):B3 Tryz.prog 175 [.one (Ak l),.agg x.c] [.one (vb (Jn l x))]:=by
 refine Aw A0 false Tryz.func175 rfl B5 fun W=>?_;conv=>whnf
 refine As (Wu l x hl) rfl (A7 ?_);exact Am A0 rfl rfl ⟨rfl,trivial⟩
theorem Pm {α:Type} [Inhabited α] (p:α→Bool):∀(xs:List α) (k:Nat),k<xs.length→(∀i,i<k→p (xs.getD i default)=false)→p (xs.getD k default)=true→Fa p xs=k
 | [],_,h,_,_=>absurd h (Nat.not_lt_zero _)
 |x::r,0,_,_,hp=>by
  have:p x=true:=hp
  simp [Fa,this]
 |x::r,k+1,h,hb,hp=>by
  have h0:p x=false:=hb 0 Ad
  have:=Pm p r k (by simpa using h) (fun i hi=>hb (i+1) Ad) hp
  simp [Fa,h0,this]
theorem A3x {α:Type} [Inhabited α] (p:α→Bool):∀(xs:List α),(∀i,i<xs.length→p (xs.getD i default)=false)→Fa p xs=xs.length
 | [],_=>rfl
 |x::r,hb=>by
  have h0:p x=false:=hb 0 C8
  have:=A3x p r (fun i hi=>hb (i+1) (by simpa using hi))
  simp [Fa,h0,this]
def ltX (x y:Ae):Bool:=!decide (Kh y x<0)
theorem A86 {l:List Ae}{x:Ae}{k:Nat}(h:k<l.length)(hb:∀i,i<k→ltX x (l.getD i default)=false)(hk:ltX x (l.getD k default)=true):Km l x=k:=Pm _ l k h hb hk
theorem A4f {l:List Ae}{x:Ae}(hb:∀i,i<l.length→ltX x (l.getD i default)=false):Km l x=l.length:=A3x _ l hb
theorem B9r (l:List Ae)(x:Ae):Km l x≤l.length:=by
 have:∀(p:Ae→Bool) (m:List Ae),Fa p m≤m.length:=by
  intro p m
  induction m with
  |nil=>simp [Fa]
  |cons y r ih=>simp only [Fa];split<;>simp<;>omega
 exact this _ l
theorem Xi {α:Type} [Inhabited α] {es:Nat}{e:α→List Ai}{xs:List α}{k:Nat}(h:k≤xs.length):Ze xs.length es (fun i=>e (xs.getD i default)) 0 (k:Int) (Kv es e (xs.take k)):=by
 have:=A6r (es:=es) (e:=e) (xs:=xs) (l:=0) (h:=(k:Int)) (Int.le_refl _) Ad Ad
 simpa using this
theorem Fq {α:Type} [Inhabited α] {es:Nat}{e:α→List Ai}{xs:List α}{k:Nat}(h:k≤xs.length):Ze xs.length es (fun i=>e (xs.getD i default)) (k:Int) (xs.length:Int) (Kv es e (xs.drop k)):=by
 have:=A6r (es:=es) (e:=e) (xs:=xs) (l:=(k:Int)) (h:=(xs.length:Int)) Ad Ad Ad
 rwa [show (xs.drop (k:Int).toNat).take ((xs.length:Int)-(k:Int)).toNat=xs.drop k by rw [Int.toNat_natCast];exact List.take_of_length_le C8] at this
theorem B3z (l:List Ae)(x:Ae)(k:Nat):Ug (l.take k++[x]).length (l.drop k).length 4 (fun i=>Ae.c ((l.take k++[x]).getD i default)) (fun i=>Ae.c ((l.drop k).getD i default)) (Ak (l.take k++x::l.drop k)):=by
 rw [show l.take k++x::l.drop k=(l.take k++[x])++l.drop k by simp]
 exact Vv 4 Ae.c _ _
set_option maxHeartbeats 1000000 in
theorem K5 (l:List Ae)(x:Ae)(hl:l.length≤16000000):B3 Tryz.prog 149 [.one (Ak l),.agg x.c] [.one (Ak (Do l x))]:=by
 refine Aw A0 false Tryz.func149 rfl B5 fun W=>?_;conv=>whnf
 refine As (Ya l x Ad) rfl (A7 ?_);refine ⟨fun hc=>?_,fun hc=>?_⟩<;>conv=>whnf
 ·refine Bj A0 rfl rfl rfl rfl rfl rfl rfl rfl rfl rfl rfl (Ak l) (C9) (fun _=>Ex l) Ad (A7 ?_)
  refine Am A0 rfl rfl ⟨?_,trivial⟩;rw [Do,if_pos hc];rfl
 refine Bk A0 false [] (fun k:Nat=>[(5,.c (vi k))]) (fun k=>[⟨0,[.c (vi x.op),.c (vi x.epoch),.c (vi x.key),.c (vi x.val)]⟩]) (fun k=>[])
  (fun k=>k≤l.length∧∀i,i<k→ltX x (l.getD i default)=false) (fun k=>l.length-k) 0 ⟨Nat.zero_le _,by first|rfl|assumption|simp⟩ ⟨F0,trivial⟩ C2 trivial C1 A6 (fun k hk=>?_)
 obtain ⟨hk,he⟩:=hk;conv=>whnf
 first|(refine Ax 4 rfl [0,1,2,3,4,5,6,7,8,9,10,11,12] A6 (A7 ?_))|(refine Ax 6 rfl [1,2,3,5,0,4,6,7,8] A6 (A7 ?_))
 refine Eo (fun h=>?_) fun h=>?_<;>conv=>whnf
 ·have h:k<l.length:=by omega
  repeat refine B2 ?_
  refine As (Tb (l.getD k default) x) rfl (A7 ?_)
  repeat refine B2 ?_
  refine Eo (fun h2=>?_) fun h2=>?_<;>conv=>whnf
  ·(repeat refine Ap ?_)
   refine Az [] (k+1) ⟨by omega,fun i hi=>(Nat.lt_succ_iff_lt_or_eq.1 hi).elim (fun h4=>he i h4) (fun h4=>by subst h4;simp only [ltX,Bool.not_eq_false',decide_eq_true_eq];exact h2)⟩ Ad ⟨rfl,trivial⟩ trivial C2 A6 C1 A6
  refine H0 rfl ?_;refine Bp A0 false 1 rfl rfl A6 rfl (A4 Br) ?_;refine Bp A0 false 2 rfl rfl A6 rfl (A4 Br) ?_;refine Cl (s':=?_) 3 rfl A6 ?_ ?_;rotate_left;refine A7 ?_;refine Q7 A0 rfl rfl rfl rfl rfl rfl rfl (l:=0) (h:=(k:Int)) rfl rfl ⟨by omega,by omega,by omega⟩ (Ak (l.take k)) (Xi Ad) (A7 ?_);exact B6
  refine Kz [4,5,6,7,8] [⟨0,28,.emp 4⟩] A6 ?_;refine Kr (s1:=?_) (s2:=?_) A0 [4,5,6,7,8] 4 5 [5,6,7,8] [4,6,7,8] rfl rfl A6 E8 B5 B5 ?_ ?_ ?_ ?_;rotate_left 2;refine A7 ?_;refine Bj A0 rfl rfl rfl rfl rfl rfl rfl rfl rfl rfl rfl (Ak (l.take k)) (C9) (fun _=>Ex _) (by (have:=List.length_take_le k l);omega) (A7 ?_);exact B6
  refine Bl (s':=?_) A0 rfl A6 E8 ?_ ?_;rotate_left;refine A7 ?_;(repeat refine Ap ?_);exact B6
  refine Bl (s':=?_) A0 rfl A6 E8 ?_ ?_;rotate_left;refine A7 ?_;(repeat refine Ap ?_);exact B6
  refine Bl (s':=?_) A0 rfl A6 E8 ?_ ?_;rotate_left;refine A7 ?_;refine Bj A0 rfl rfl rfl rfl rfl rfl rfl rfl rfl rfl rfl (Ak (l.take k++[x])) (An rfl) C6 (by (have:=List.length_take_le k l);omega) (A7 ?_);exact B6
  refine Bl (s':=?_) A0 rfl A6 E8 ?_ ?_;rotate_left;refine A7 ?_;(repeat refine Ap ?_);exact B6
  refine Jf A0 A6 E8 (GW.out (G3 ?_));conv=>whnf
  rotate_left 1;refine A7 ?_;(repeat refine Ap ?_);exact B6
  refine Kr (s1:=?_) (s2:=?_) A0 [4,6,7,8] 4 6 [6,7,8] [4,7,8] rfl rfl A6 E8 B5 B5 ?_ ?_ ?_ ?_;rotate_left 2;refine A7 ?_;refine Bj A0 rfl rfl rfl rfl rfl rfl rfl rfl rfl rfl rfl (Ak (l.take k)) (C9) (fun _=>Ex _) (by (have:=List.length_take_le k l);omega) (A7 ?_);exact B6
  refine Bl (s':=?_) A0 rfl A6 E8 ?_ ?_;rotate_left;refine A7 ?_;(repeat refine Ap ?_);exact B6
  refine Bl (s':=?_) A0 rfl A6 E8 ?_ ?_;rotate_left;refine A7 ?_;refine Bj A0 rfl rfl rfl rfl rfl rfl rfl rfl rfl rfl rfl (Ak (l.take k++[x])) (An rfl) C6 (by (have:=List.length_take_le k l);omega) (A7 ?_);exact B6
  refine Bl (s':=?_) A0 rfl A6 E8 ?_ ?_;rotate_left;refine A7 ?_;(repeat refine Ap ?_);exact B6
  refine Jf A0 A6 E8 (GW.out (G3 ?_));conv=>whnf
  rotate_left 1;refine A7 ?_;(repeat refine Ap ?_);exact B6
  refine Bl (s':=?_) A0 rfl A6 E8 ?_ ?_;rotate_left;refine A7 ?_;refine Bj A0 rfl rfl rfl rfl rfl rfl rfl rfl rfl rfl rfl (Ak (l.take k)) (C9) (fun _=>Ex _) (by (have:=List.length_take_le k l);omega) (A7 ?_);exact B6
  refine Bl (s':=?_) A0 rfl A6 E8 ?_ ?_;rotate_left;refine A7 ?_;refine Bj A0 rfl rfl rfl rfl rfl rfl rfl rfl rfl rfl rfl (Ak (l.take k++[x])) (An rfl) C6 (by (have:=List.length_take_le k l);omega) (A7 ?_);exact B6
  refine Bl (s':=?_) A0 rfl A6 E8 ?_ ?_;rotate_left;refine A7 ?_;(repeat refine Ap ?_);exact B6
  refine Jf A0 A6 E8 (GW.out (G3 ?_));conv=>whnf
  all_goals
   refine Q7 A0 rfl rfl rfl rfl rfl rfl rfl (l:=(k:Int)) (h:=(l.length:Int)) rfl rfl ⟨by omega,by omega,by omega⟩ (Ak (l.drop k)) (Fq Ad) (A7 ?_);refine Bj A0 rfl rfl rfl rfl rfl rfl rfl rfl rfl rfl rfl (Ak (l.take k++x::l.drop k)) (B3z l x k) (fun _=>Ex _) (by (have:=List.length_take_le k l;have:=List.length_drop (i:=k) (l:=l);simp only [List.length_append,List.length_singleton];omega)) (A7 ?_);refine Am A0 rfl rfl ⟨?_,trivial⟩;rw [Do,if_neg (by rw [hc];decide),A86 h he (by simp only [ltX,Bool.not_eq_true',decide_eq_false_iff_not];exact h2)];rfl
 repeat refine B2 ?_
 refine H0 rfl ?_;refine Bp A0 false 1 rfl rfl A6 rfl (A4 Br) ?_;refine Bp A0 false 2 rfl rfl A6 rfl (A4 Br) ?_;refine Cl (s':=?_) 3 rfl A6 ?_ ?_;rotate_left;refine A7 ?_;refine Q7 A0 rfl rfl rfl rfl rfl rfl rfl (l:=0) (h:=(k:Int)) rfl rfl ⟨by omega,by omega,by omega⟩ (Ak (l.take k)) (Xi Ad) (A7 ?_);exact B6
 refine Kz [4,5,6,7,8] [⟨0,28,.emp 4⟩] A6 ?_;refine Kr (s1:=?_) (s2:=?_) A0 [4,5,6,7,8] 4 5 [5,6,7,8] [4,6,7,8] rfl rfl A6 E8 B5 B5 ?_ ?_ ?_ ?_;rotate_left 2;refine A7 ?_;refine Bj A0 rfl rfl rfl rfl rfl rfl rfl rfl rfl rfl rfl (Ak (l.take k)) (C9) (fun _=>Ex _) (by (have:=List.length_take_le k l);omega) (A7 ?_);exact B6
 refine Bl (s':=?_) A0 rfl A6 E8 ?_ ?_;rotate_left;refine A7 ?_;(repeat refine Ap ?_);exact B6
 refine Bl (s':=?_) A0 rfl A6 E8 ?_ ?_;rotate_left;refine A7 ?_;(repeat refine Ap ?_);exact B6
 refine Bl (s':=?_) A0 rfl A6 E8 ?_ ?_;rotate_left;refine A7 ?_;refine Bj A0 rfl rfl rfl rfl rfl rfl rfl rfl rfl rfl rfl (Ak (l.take k++[x])) (An rfl) C6 (by (have:=List.length_take_le k l);omega) (A7 ?_);exact B6
 refine Bl (s':=?_) A0 rfl A6 E8 ?_ ?_;rotate_left;refine A7 ?_;(repeat refine Ap ?_);exact B6
 refine Jf A0 A6 E8 (GW.out (G3 ?_));conv=>whnf
 rotate_left 1;refine A7 ?_;(repeat refine Ap ?_);exact B6
 refine Kr (s1:=?_) (s2:=?_) A0 [4,6,7,8] 4 6 [6,7,8] [4,7,8] rfl rfl A6 E8 B5 B5 ?_ ?_ ?_ ?_;rotate_left 2;refine A7 ?_;refine Bj A0 rfl rfl rfl rfl rfl rfl rfl rfl rfl rfl rfl (Ak (l.take k)) (C9) (fun _=>Ex _) (by (have:=List.length_take_le k l);omega) (A7 ?_);exact B6
 refine Bl (s':=?_) A0 rfl A6 E8 ?_ ?_;rotate_left;refine A7 ?_;(repeat refine Ap ?_);exact B6
 refine Bl (s':=?_) A0 rfl A6 E8 ?_ ?_;rotate_left;refine A7 ?_;refine Bj A0 rfl rfl rfl rfl rfl rfl rfl rfl rfl rfl rfl (Ak (l.take k++[x])) (An rfl) C6 (by (have:=List.length_take_le k l);omega) (A7 ?_);exact B6
 refine Bl (s':=?_) A0 rfl A6 E8 ?_ ?_;rotate_left;refine A7 ?_;(repeat refine Ap ?_);exact B6
 refine Jf A0 A6 E8 (GW.out (G3 ?_));conv=>whnf
 rotate_left 1;refine A7 ?_;(repeat refine Ap ?_);exact B6
 refine Bl (s':=?_) A0 rfl A6 E8 ?_ ?_;rotate_left;refine A7 ?_;refine Bj A0 rfl rfl rfl rfl rfl rfl rfl rfl rfl rfl rfl (Ak (l.take k)) (C9) (fun _=>Ex _) (by (have:=List.length_take_le k l);omega) (A7 ?_);exact B6
 refine Bl (s':=?_) A0 rfl A6 E8 ?_ ?_;rotate_left;refine A7 ?_;refine Bj A0 rfl rfl rfl rfl rfl rfl rfl rfl rfl rfl rfl (Ak (l.take k++[x])) (An rfl) C6 (by (have:=List.length_take_le k l);omega) (A7 ?_);exact B6
 refine Bl (s':=?_) A0 rfl A6 E8 ?_ ?_;rotate_left;refine A7 ?_;(repeat refine Ap ?_);exact B6
 refine Jf A0 A6 E8 (GW.out (G3 ?_));conv=>whnf
 all_goals
  refine Q7 A0 rfl rfl rfl rfl rfl rfl rfl (l:=(k:Int)) (h:=(l.length:Int)) rfl rfl ⟨by omega,by omega,by omega⟩ (Ak (l.drop k)) (Fq Ad) (A7 ?_);refine Bj A0 rfl rfl rfl rfl rfl rfl rfl rfl rfl rfl rfl (Ak (l.take k++x::l.drop k)) (B3z l x k) (fun _=>Ex _) (by (have:=List.length_take_le k l;have:=List.length_drop (i:=k) (l:=l);simp only [List.length_append,List.length_singleton];omega)) (A7 ?_);refine Am A0 rfl rfl ⟨?_,trivial⟩;rw [Do,if_neg (by rw [hc];decide),(show Km l x=k by rw [A4f (fun i hi=>he i Ad)];omega)]
  rfl
set_option maxHeartbeats 1000000 in
theorem Ny (l:List Ae)(x:Ae)(hl:l.length≤16000000):B3 Tryz.prog 147 [.one (Ak l),.agg x.c] [.one (Ak (Do l x))]:=by
 refine Aw A0 false Tryz.func147 rfl B5 fun W=>?_;conv=>whnf
 refine Bd (Ff l Ad) rfl (A7 ?_);refine As (Xu l x Ad) rfl (A7 ?_);refine ⟨fun hc=>?_,fun hc=>?_⟩<;>conv=>whnf
 ·refine Am A0 rfl rfl ⟨?_,trivial⟩
  rw [Do,if_pos hc];rfl
 refine Bk A0 false [] (fun k:Nat=>[(6,.c (vi k))]) (fun k=>[⟨0,[.c (vi x.op),.c (vi x.epoch),.c (vi x.key),.c (vi x.val)]⟩]) (fun k=>[⟨1,Ak l⟩])
  (fun k=>k≤l.length∧∀i,i<k→ltX x (l.getD i default)=false) (fun k=>l.length-k) 0 ⟨Nat.zero_le _,by first|rfl|assumption|simp⟩ ⟨F0,trivial⟩ C2 ⟨Dm,trivial⟩ C1 A6 (fun k hk=>?_)
 obtain ⟨hk,he⟩:=hk;conv=>whnf
 first|(refine Ax 5 rfl [0,1,2,3,4,5,6,7,8,9,10,11,12] A6 (A7 ?_))
 refine Eo (fun h=>?_) fun h=>?_<;>conv=>whnf
 ·have h:k<l.length:=by omega
  repeat refine B2 ?_
  refine As (Su (l.getD k default) x) rfl (A7 ?_)
  repeat refine B2 ?_
  refine Eo (fun h2=>?_) fun h2=>?_<;>conv=>whnf
  ·(repeat refine Ap ?_)
   refine Az [(0,0),(1,1)] (k+1) ⟨by omega,fun i hi=>(Nat.lt_succ_iff_lt_or_eq.1 hi).elim (fun h4=>he i h4) (fun h4=>by subst h4;simp only [ltX,Bool.not_eq_false',decide_eq_true_eq];exact h2)⟩ Ad ⟨rfl,trivial⟩ ⟨rfl,trivial⟩ C2 A6 C1 A6
  refine Fx 2 (Ak [x]) rfl (Bu rfl C2) ?_;refine A7n [.own 1,.c (vi k),.own 2] (A02 l k x Ad Ad) (fun _ _=>trivial) (fun _ h=>by cases h) B0 rfl rfl (fun i _=>go A0 false ?_);conv=>whnf
  refine Am A0 rfl rfl ⟨?_,trivial⟩;rw [Do,if_neg (by rw [hc];decide),(show Km l x=k from A86 h he (by simp only [ltX,Bool.not_eq_true',decide_eq_false_iff_not];exact h2))]
  rfl
 repeat refine B2 ?_
 refine Fx 2 (Ak [x]) rfl (Bu rfl C2) ?_;refine A7n [.own 1,.c (vi k),.own 2] (A02 l k x Ad Ad) (fun _ _=>trivial) (fun _ h=>by cases h) B0 rfl rfl (fun i _=>go A0 false ?_);conv=>whnf
 refine Am A0 rfl rfl ⟨?_,trivial⟩;rw [Do,if_neg (by rw [hc];decide),(show Km l x=k by rw [A4f (fun i hi=>he i Ad)];omega)]
 rfl
def Ac (g:Ah) (op:Int):Bw:=g.nodes.getD op.toNat default
def En (c:A3):List Ae:=c.workers.foldl (fun l w=>w.cells.foldl Do l) []
def Dn (g:Ah) (l:List Ae):List Ae:=l.filter fun x=>decide ((0≤x.op∧x.op<g.nodes.length)∧(Ac g x.op).kind=8)
def It (c:A3) (e:Int):List Ae:=(Dn c.graph (En c)).filter fun x=>x.epoch==e
def inN (ws:List Ab):List Ae:=ws.foldl (fun l w=>w.cells.foldl Do l) []
theorem Zt (x:A3):En x=inN x.workers:=rfl
theorem Ts {α β:Type} [Inhabited α] (f:β→α→β)(b:β){l:List α}{k:Nat}(hk:k<l.length):(l.take (k+1)).foldl f b=f ((l.take k).foldl f b) (l.getD k default):=by
 have:l.take (k+1)=l.take k++[l.getD k default]:=by
  rw [List.take_succ_eq_append_getElem hk]
  simp [List.getD,hk]
 rw [this,List.foldl_append];rfl
theorem A8k {ws:List Ab}{k:Nat}(hk:k<ws.length):inN (ws.take (k+1))=(ws.getD k default).cells.foldl Do (inN (ws.take k)):=Ts _ _ hk
theorem A87 (l:List Ae)(x:Ae):(Do l x).length≤l.length+1:=by
 unfold Do
 split
 ·omega
 have:=B9r l x
 simp only [List.length_append,List.length_take,List.length_cons,List.length_drop];omega
theorem R4 (cs:List Ae):∀l:List Ae,(cs.foldl Do l).length≤l.length+cs.length:=by
 induction cs with
 |nil=>intro l;simp
 |cons c r ih=>
  intro l
  have:=ih (Do l c)
  have:=A87 l c
  simp only [List.foldl_cons,List.length_cons];omega
theorem A5d (w:Ab):w.cells.length≤w.w:=by simp only [Ab.w];omega
theorem B8k (ws:List Ab):∀l:List Ae,(ws.foldl (fun l w=>w.cells.foldl Do l) l).length≤l.length+(ws.map Ab.w).sum:=by
 induction ws with
 |nil=>intro l;simp
 |cons w r ih=>
  intro l;have h1:=ih (w.cells.foldl Do l);have h2:=R4 w.cells l;have h3:=A5d w;simp only [List.foldl_cons,List.map_cons,List.sum_cons];omega
theorem A53 (ws:List Ab):(inN ws).length≤(ws.map Ab.w).sum:=by
 have:=B8k ws []
 simpa [inN] using this
theorem Qy {x:A3}{n:Nat}(h:x.w≤n):(En x).length≤n:=by
 have:=A53 x.workers
 rw [Zt];simp only [A3.w,wS] at h;omega
set_option maxHeartbeats 1000000 in
theorem A9s (x:A3)(hx:x.w≤16000000):B3 Tryz.prog 120 [.agg x.c] [.one (Ak (En x))]:=by
 have hl:=A3.workers_le hx;refine Aw A0 false Tryz.func120 rfl B5 fun W=>?_;conv=>whnf
 refine Es 1 (Ak []) rfl Cq ?_
 refine Bk A0 false [5,6] (fun k:Nat=>[(4,.c (vi k))]) (fun k=>[⟨0,[.c (Bg x.graph.nodes),.c (vi x.graph.workers),.c (vi x.graph.cap),.c (Ar x.workers),.c (C4 x.links),.c (Bm x.tokens),.c (Cc x.news)]⟩]) (fun k=>[⟨1,Ak (inN (x.workers.take k))⟩])
  (fun k=>k≤x.workers.length) (fun k=>x.workers.length-k) 0 (Nat.zero_le _) ⟨F0,trivial⟩ C2 ⟨Dm,trivial⟩ C1 A6 (fun k hk=>?_)
 conv=>whnf
 (repeat refine Ap ?_);refine Eo (fun h=>?_) fun h=>?_<;>conv=>whnf
 ·have h:k<x.workers.length:=by omega
  have hw:=Go.Sx.A3.worker_le hx h;have hc:=A5d (x.workers.getD k default);have hi:=A53 (x.workers.take k)
  refine Bk A0 false [] (fun j:Nat=>[(5,.c (vi j))]) (fun j=>[⟨0,[.c (Bg x.graph.nodes),.c (vi x.graph.workers),.c (vi x.graph.cap),.c (Ar x.workers),.c (C4 x.links),.c (Bm x.tokens),.c (Cc x.news)]⟩]) (fun j=>[⟨1,Ak (((x.workers.getD k default).cells.take j).foldl Do (inN (x.workers.take k)))⟩])
   (fun j=>j≤(x.workers.getD k default).cells.length) (fun j=>(x.workers.getD k default).cells.length-j) 0 (Nat.zero_le _) ⟨F0,trivial⟩ C2 ⟨Dm,trivial⟩ C1 A6 (fun j hj=>?_)
  conv=>whnf
  (repeat refine Ap ?_);refine Eo (fun h=>?_) fun h=>?_<;>conv=>whnf
  ·have h:j<(x.workers.getD k default).cells.length:=by rw [Int.toNat_natCast] at h;omega
   have hf:=R4 ((x.workers.getD k default).cells.take j) (inN (x.workers.take k));have ht:=List.length_take_le j (x.workers.getD k default).cells;(repeat refine Ap ?_);refine Bd (K5 (((x.workers.getD k default).cells.take j).foldl Do (inN (x.workers.take k))) ((x.workers.getD k default).cells.getD j default) Ad) rfl (A7 ?_);(repeat refine Ap ?_);refine Az [(1,2)] (j+1) Ad Ad ⟨rfl,trivial⟩ ⟨congrArg Ak (Ts _ _ h).symm,trivial⟩ C2 A6 C1 A6
  (repeat refine Ap ?_);refine Az [] (k+1) Ad Ad ⟨rfl,trivial⟩ ⟨congrArg Ak (by rw [Int.toNat_natCast] at h;rw [A8k ‹_›,Da (x.workers.getD k default).cells j Ad]),trivial⟩ C2 A6 C1 A6
 (repeat refine Ap ?_);refine Am A0 rfl rfl ⟨?_,trivial⟩;exact congrArg Ak (by rw [Zt,List.take_of_length_le Ad])
set_option maxHeartbeats 1000000 in
theorem A8b (x:A3)(hx:x.w≤16000000):B3 Tryz.prog 113 [.agg x.c] [.one (Ak (En x))]:=by
 have hl:=A3.workers_le hx;refine Aw A0 false Tryz.func113 rfl B5 fun W=>?_;conv=>whnf
 refine Yl 3 4 (fun i=>Ae.c (([]:List Ae).getD i default)) rfl ?_
 refine Bk A0 false [] (fun k:Nat=>[(11,.c (vi k))]) (fun k=>[⟨0,[.c (Bg x.graph.nodes),.c (vi x.graph.workers),.c (vi x.graph.cap),.c (Ar x.workers),.c (C4 x.links),.c (Bm x.tokens),.c (Cc x.news)]⟩]) (fun k=>[⟨1,Ak (inN (x.workers.take k))⟩])
  (fun k=>k≤x.workers.length) (fun k=>x.workers.length-k) 0 (Nat.zero_le _) ⟨F0,trivial⟩ C2 ⟨Dm,trivial⟩ C1 A6 (fun k hk=>?_)
 conv=>whnf
 conv=>whnf
 refine Eo (fun h=>?_) fun h=>?_<;>conv=>whnf
 ·have h:k<x.workers.length:=by omega
  have hw:=Go.Sx.A3.worker_le hx h;have hc:=A5d (x.workers.getD k default);have hi:=A53 (x.workers.take k);(repeat refine Ap ?_)
  refine Bk A0 false [] (fun j:Nat=>[(18,.c (vi j))]) (fun j=>[⟨0,[.c (Bg x.graph.nodes),.c (vi x.graph.workers),.c (vi x.graph.cap),.c (Ar x.workers),.c (C4 x.links),.c (Bm x.tokens),.c (Cc x.news)]⟩]) (fun j=>[⟨1,Ak (((x.workers.getD k default).cells.take j).foldl Do (inN (x.workers.take k)))⟩])
   (fun j=>j≤(x.workers.getD k default).cells.length) (fun j=>(x.workers.getD k default).cells.length-j) 0 (Nat.zero_le _) ⟨F0,trivial⟩ C2 ⟨Dm,trivial⟩ C1 A6 (fun j hj=>?_)
  conv=>whnf
  conv=>whnf
  refine Eo (fun h=>?_) fun h=>?_<;>conv=>whnf
  ·have h:j<(x.workers.getD k default).cells.length:=by rw [Int.toNat_natCast] at h;omega
   have hf:=R4 ((x.workers.getD k default).cells.take j) (inN (x.workers.take k));have ht:=List.length_take_le j (x.workers.getD k default).cells;(repeat refine Ap ?_);refine Bd (Ny (((x.workers.getD k default).cells.take j).foldl Do (inN (x.workers.take k))) ((x.workers.getD k default).cells.getD j default) Ad) rfl (A7 ?_);(repeat refine Ap ?_);refine Az [(1,4)] (j+1) Ad Ad ⟨rfl,trivial⟩ ⟨congrArg Ak (Ts _ _ h).symm,trivial⟩ C2 A6 C1 A6
  (repeat refine Ap ?_);refine Az [] (k+1) Ad Ad ⟨rfl,trivial⟩ ⟨congrArg Ak (by rw [Int.toNat_natCast] at h;rw [A8k ‹_›,Da (x.workers.getD k default).cells j Ad]),trivial⟩ C2 A6 C1 A6
 (repeat refine Ap ?_);refine Am A0 rfl rfl ⟨?_,trivial⟩;exact congrArg Ak (by rw [Zt,List.take_of_length_le Ad])
def N7 (g:Ah) (op:Int):Bw×Bool:=if E6 op 0 (g.nodes.length-1)=true then (Ac g op,true) else (⟨0,0,0,[]⟩,false)
theorem C35 {g:Ah}{n:Nat}(h:g.w≤n)(op:Int)(hk:op.toNat<g.nodes.length):(Ac g op).w≤n:=by
 have:=I5 Bw.w g.nodes op.toNat hk
 simp only [Ah.w,wS] at h;simp only [Ac];omega
theorem Nc (g:Ah)(op:Int)(hg:g.w≤16777216):B3 Tryz.prog 96 [.agg g.c,.one (vi op)] [.agg (N7 g op).1.c,.one (vb (N7 g op).2)]:=by
 have hl:g.nodes.length≤16777216:=by simp only [Ah.w,wS] at hg;omega
 refine Aw A0 false Tryz.func96 rfl B5 fun W=>?_;conv=>whnf
 (repeat refine Ap ?_);refine As (G9 op 0 (g.nodes.length-1)) rfl (A7 ?_)
 by_cases h1:E6 op 0 (g.nodes.length-1)=true
 ·have h2:=Go.Sx.Al.1 h1
  have hk:op.toNat<g.nodes.length:=by omega
  have hw:=C35 hg op hk;have ho:(Ac g op).outs.length≤16777216:=by simp only [Bw.w] at hw;omega
  rw [h1,N7,if_pos h1]
  repeat refine B2 ?_
  refine Bj A0 rfl rfl rfl rfl rfl rfl rfl rfl rfl rfl rfl (Bh (Ac g op).outs) (C9) (fun _=>Oo _) (by (simp only [Ac] at ho;omega)) (A7 ?_)
  repeat refine B2 ?_
  refine Am A0 rfl rfl ?_;exact B0
 have h3:E6 op 0 (g.nodes.length-1)=false:=by simpa using h1
 rw [h3,N7,if_neg h1]
 repeat refine B2 ?_
 refine Am A0 rfl rfl ?_;exact B0
def A27 (g:Ah) (x:Ae):Bool:=decide ((0≤x.op∧x.op<g.nodes.length)∧(Ac g x.op).kind=8)
theorem B3m (g:Ah)(x:Ae):A27 g x=((N7 g x.op).2&&((N7 g x.op).1.kind==8)):=by
 unfold A27 N7
 by_cases h1:E6 x.op 0 (g.nodes.length-1)=true
 ·have h2:=Go.Sx.Al.1 h1
  rw [if_pos h1,Bool.eq_iff_iff];simp only [decide_eq_true_eq,Bool.true_and,beq_iff_eq];exact ⟨fun h=>h.2,fun h=>⟨⟨by omega,by omega⟩,h⟩⟩
 have h3:E6 x.op 0 (g.nodes.length-1)=false:=by simpa using h1
 have h2:=Go.Sx.B4.1 h3;rw [if_neg h1];simp only [Bool.false_and,decide_eq_false_iff_not];exact fun h=>by omega
set_option maxHeartbeats 1000000 in
theorem Vy (g:Ah)(l:List Ae)(hg:g.w≤16777216)(hl:l.length≤16777216):B3 Tryz.prog 67 [.agg g.c,.one (Ak l)] [.one (Ak (Dn g l))]:=by
 refine Aw A0 false Tryz.func67 rfl B5 fun W=>?_;conv=>whnf
 refine Es 1 (Ak []) rfl Cq ?_
 refine Bk A0 false [9] (fun k:Nat=>[(6,.c (vi k))]) (fun k=>[⟨0,[.c (Bg g.nodes),.c (vi g.workers),.c (vi g.cap)]⟩]) (fun k=>[⟨1,Ak ((l.take k).filter (A27 g))⟩])
  (fun k=>k≤l.length) (fun k=>l.length-k) 0 (Nat.zero_le _) ⟨F0,trivial⟩ C2 ⟨Dm,trivial⟩ C1 A6 (fun k hk=>?_)
 conv=>whnf
 (repeat refine Ap ?_);refine Eo (fun h=>?_) fun h=>?_<;>conv=>whnf
 ·have h:k<l.length:=by omega
  have hs:=E4 (A27 g) l k h;have hb:=Dd (A27 g) l k;rw [B3m g (l.getD k default)] at hs;refine H0 rfl ?_;refine Bp A0 false 1 rfl rfl A6 rfl (A4 Br) ?_;refine Bp A0 false 2 rfl rfl A6 rfl (A4 Br) ?_;refine Cl (s':=?_) 0 rfl A6 ?_ ?_;rotate_left;refine A7 ?_;(repeat refine Ap ?_);exact B6
  refine Cl (s':=?_) 3 rfl A6 ?_ ?_;rotate_left;refine A7 ?_;(repeat refine Ap ?_);exact B6
  refine Bp A0 false 4 rfl rfl A6 rfl (A4 Br) ?_;refine Cl (s':=?_) 5 rfl A6 ?_ ?_;rotate_left;refine A7 ?_;(repeat refine Ap ?_);exact B6
  refine Dp [6,10] A6 ⟨?_,?_,trivial⟩
  focus
   refine A7 ?_;refine Bd (Nc g (l.getD k default).op hg) rfl (A7 ?_);refine Dq ?_;refine Bp A0 false 7 rfl rfl A6 rfl (A4 Br) ?_;refine Kx (s':=?_) 8 rfl A6 ?_ ?_;rotate_left;refine A7 ?_;(repeat refine Ap ?_);exact B6
   refine Kx (s':=?_) 9 rfl A6 ?_ ?_;rotate_left;refine A7 ?_;(repeat refine Ap ?_);exact B6
   refine Dp [10] A6 ⟨?_,trivial⟩;refine A7 ?_;(repeat refine Ap ?_);refine Dq ?_
  rotate_left 1
  focus
   refine A7 ?_;(repeat refine Ap ?_);refine Dq ?_;refine Dp [6] A6 ⟨?_,trivial⟩;refine A7 ?_;refine Bd (Nc g (l.getD k default).op hg) rfl (A7 ?_);refine Dq ?_;refine Bp A0 false 7 rfl rfl A6 rfl (A4 Br) ?_;refine Kx (s':=?_) 8 rfl A6 ?_ ?_;rotate_left;refine A7 ?_;(repeat refine Ap ?_);exact B6
   refine Kx (s':=?_) 9 rfl A6 ?_ ?_;rotate_left;refine A7 ?_;(repeat refine Ap ?_);exact B6
  all_goals
   refine Dp [11] A6 ⟨?_,trivial⟩;refine A7 ?_;(repeat refine Ap ?_);refine Dq ?_;refine Bp A0 false 12 rfl rfl A6 rfl (A4 Br) ?_;refine Qk A6 (A7 ?_)
  all_goals
   refine ⟨fun h1=>?_,fun h1=>?_⟩<;>conv=>whnf
   ·repeat refine B2 ?_
    refine ⟨fun h8=>?_,fun h8=>?_⟩<;>conv=>whnf
    ·(repeat refine Ap ?_)
     refine Bj A0 rfl rfl rfl rfl rfl rfl rfl rfl rfl rfl rfl (Ak ((l.take k).filter (A27 g)++[l.getD k default])) (An rfl) C6 Ad (A7 ?_);(repeat refine Ap ?_);refine Az [(1,5)] (k+1) Ad Ad ⟨rfl,trivial⟩ ⟨congrArg Ak (by rw [hs,h1,h8];rfl),trivial⟩ C2 A6 C1 A6
    (repeat refine Ap ?_);refine Az [] (k+1) Ad Ad ⟨rfl,trivial⟩ ⟨congrArg Ak (by rw [hs,h1,h8];simp),trivial⟩ C2 A6 C1 A6
   repeat refine B2 ?_
   refine Az [] (k+1) Ad Ad ⟨rfl,trivial⟩ ⟨congrArg Ak (by rw [hs,h1];simp),trivial⟩ C2 A6 C1 A6
 (repeat refine Ap ?_);refine Am A0 rfl rfl ⟨?_,trivial⟩;exact congrArg (fun l=>Ak (List.filter _ l)) (Da _ k Ad)
set_option maxHeartbeats 1000000 in
theorem A5u (g:Ah)(l:List Ae)(hg:g.w≤16777216)(hl:l.length≤16777216):B3 Tryz.prog 112 [.agg g.c,.one (Ak l)] [.one (Ak (Dn g l))]:=by
 refine Aw A0 false Tryz.func112 rfl B5 fun W=>?_;conv=>whnf
 refine Yl 5 4 (fun i=>Ae.c (([]:List Ae).getD i default)) rfl ?_
 refine Bk A0 false [] (fun k:Nat=>[(10,.c (vi k))]) (fun k=>[⟨0,[.c (Bg g.nodes),.c (vi g.workers),.c (vi g.cap)]⟩]) (fun k=>[⟨1,Ak ((l.take k).filter (A27 g))⟩])
  (fun k=>k≤l.length) (fun k=>l.length-k) 0 (Nat.zero_le _) ⟨F0,trivial⟩ C2 ⟨Dm,trivial⟩ C1 A6 (fun k hk=>?_)
 conv=>whnf
 conv=>whnf
 refine Eo (fun h=>?_) fun h=>?_<;>conv=>whnf
 ·have h:k<l.length:=by omega
  have hs:=E4 (A27 g) l k h;have hb:=Dd (A27 g) l k;rw [B3m g (l.getD k default)] at hs;(repeat refine Ap ?_);refine As (Pu g (l.getD k default).op hg) rfl (A7 ?_);refine ⟨fun h1=>?_,fun h1=>?_⟩<;>conv=>whnf
  ·have h2:=Go.Sx.Al.1 h1
   rw [N7,if_pos h1] at hs
   repeat refine B2 ?_
   refine ⟨fun h8=>?_,fun h8=>?_⟩<;>conv=>whnf
   ·have h8:((Ac g (l.getD k default).op).kind==8)=true:=h8
    (repeat refine Ap ?_);refine Bj A0 rfl rfl rfl rfl rfl rfl rfl rfl rfl rfl rfl (Ak ((l.take k).filter (A27 g)++[l.getD k default])) (An rfl) C6 Ad (A7 ?_);(repeat refine Ap ?_);refine Az [(1,4)] (k+1) Ad Ad ⟨rfl,trivial⟩ ⟨congrArg Ak (by rw [hs,h8];rfl),trivial⟩ C2 A6 C1 A6
   have h8:((Ac g (l.getD k default).op).kind==8)=false:=h8;(repeat refine Ap ?_);refine Az [] (k+1) Ad Ad ⟨rfl,trivial⟩ ⟨congrArg Ak (by rw [hs,h8];simp),trivial⟩ C2 A6 C1 A6
  have hn:¬ E6 (l.getD k default).op 0 (g.nodes.length-1)=true:=by rw [h1];decide
  rw [N7,if_neg hn] at hs
  repeat refine B2 ?_
  refine Az [] (k+1) Ad Ad ⟨rfl,trivial⟩ ⟨congrArg Ak (by rw [hs];simp),trivial⟩ C2 A6 C1 A6
 (repeat refine Ap ?_);refine Am A0 rfl rfl ⟨?_,trivial⟩;exact congrArg (fun l=>Ak (List.filter _ l)) (Da _ k Ad)
theorem Q0 {g:Ah}{l:List Ae}{n:Nat}(h:l.length≤n):(Dn g l).length≤n:=Nat.le_trans (List.length_filter_le _ _) h
theorem Xz (x:A3)(e:Int):It x e=(Dn x.graph (En x)).filter (fun y=>y.epoch==e):=rfl
theorem Pt {x:A3}{n:Nat}(h:x.w≤n):x.graph.w≤n:=by simp only [A3.w] at h;omega
set_option maxHeartbeats 1000000 in
theorem A6u (x:A3)(e:Int)(hx:x.w≤16000000):B3 Tryz.prog 87 [.agg x.c,.one (vi e)] [.one (Ak (It x e))]:=by
 have hc:=Qy hx;have ho:=Q0 (g:=x.graph) hc;have hg:=Pt hx;refine Aw A0 false Tryz.func87 rfl B5 fun W=>?_;conv=>whnf
 refine Es 1 (Ak []) rfl Cq ?_
 first|(refine Ax 2 rfl [0,1,2,3,4,5] A6 (A7 ?_))
 refine Bd (A9s x hx) rfl (A7 ?_);refine Bd (Vy x.graph (En x) Ad Ad) rfl (A7 ?_);rw [Xz]
 refine Bk A0 false [8] (fun k:Nat=>[(7,.c (vi k))]) (fun k=>[]) (fun k=>[⟨3,Ak (Dn x.graph (En x))⟩,⟨1,Ak (((Dn x.graph (En x)).take k).filter (fun y=>y.epoch==e))⟩])
  (fun k=>k≤(Dn x.graph (En x)).length) (fun k=>(Dn x.graph (En x)).length-k) 0 (Nat.zero_le _) ⟨F0,trivial⟩ trivial ⟨Dm,Dm,trivial⟩ C1 A6 (fun k hk=>?_)
 conv=>whnf
 (repeat refine Ap ?_);refine Eo (fun h=>?_) fun h=>?_<;>conv=>whnf
 ·have h:k<(Dn x.graph (En x)).length:=by omega
  have hs:=E4 (fun y:Ae=>y.epoch==e) (Dn x.graph (En x)) k h;have hb:=Dd (fun y:Ae=>y.epoch==e) (Dn x.graph (En x)) k;(repeat refine Ap ?_);refine ⟨fun h1=>?_,fun h1=>?_⟩<;>conv=>whnf
  ·rw [Int.toNat_natCast] at h1
   (repeat refine Ap ?_);refine Bj A0 rfl rfl rfl rfl rfl rfl rfl rfl rfl rfl rfl (Ak (((Dn x.graph (En x)).take k).filter (fun y=>y.epoch==e)++[(Dn x.graph (En x)).getD k default])) (An rfl) C6 Ad (A7 ?_);(repeat refine Ap ?_);refine Az [(1,5)] (k+1) Ad Ad ⟨rfl,trivial⟩ ⟨rfl,congrArg Ak (by rw [hs,if_pos h1]),trivial⟩ C2 A6 C1 A6
  rw [Int.toNat_natCast] at h1;(repeat refine Ap ?_);refine Az [] (k+1) Ad Ad ⟨rfl,trivial⟩ ⟨rfl,congrArg Ak (by rw [hs,if_neg (by rw [h1];decide),List.append_nil]),trivial⟩ C2 A6 C1 A6
 (repeat refine Ap ?_);refine Am A0 rfl rfl ⟨?_,trivial⟩;exact congrArg (fun l=>Ak (List.filter _ l)) (Da _ k Ad)
set_option maxHeartbeats 1000000 in
theorem A5t (x:A3)(e:Int)(hx:x.w≤16000000):B3 Tryz.prog 83 [.agg x.c,.one (vi e)] [.one (Ak (It x e))]:=by
 have hc:=Qy hx;have ho:=Q0 (g:=x.graph) hc;have hg:=Pt hx;refine Aw A0 false Tryz.func83 rfl B5 fun W=>?_;conv=>whnf
 refine Yl 5 4 (fun i=>Ae.c (([]:List Ae).getD i default)) rfl ?_
 first|(refine Ax 2 rfl [0,1,2,6,3,4,5] A6 (A7 ?_))
 refine Bd (A8b x hx) rfl (A7 ?_);refine Bd (A5u x.graph (En x) Ad Ad) rfl (A7 ?_);rw [Xz]
 refine Bk A0 false [] (fun k:Nat=>[(14,.c (vi k))]) (fun k=>[]) (fun k=>[⟨3,Ak (Dn x.graph (En x))⟩,⟨1,Ak (((Dn x.graph (En x)).take k).filter (fun y=>y.epoch==e))⟩])
  (fun k=>k≤(Dn x.graph (En x)).length) (fun k=>(Dn x.graph (En x)).length-k) 0 (Nat.zero_le _) ⟨F0,trivial⟩ trivial ⟨Dm,Dm,trivial⟩ C1 A6 (fun k hk=>?_)
 conv=>whnf
 conv=>whnf
 refine Eo (fun h=>?_) fun h=>?_<;>conv=>whnf
 ·have h:k<(Dn x.graph (En x)).length:=by omega
  have hs:=E4 (fun y:Ae=>y.epoch==e) (Dn x.graph (En x)) k h;have hb:=Dd (fun y:Ae=>y.epoch==e) (Dn x.graph (En x)) k;(repeat refine Ap ?_);refine ⟨fun h1=>?_,fun h1=>?_⟩<;>conv=>whnf
  ·rw [Int.toNat_natCast] at h1
   (repeat refine Ap ?_);refine Bj A0 rfl rfl rfl rfl rfl rfl rfl rfl rfl rfl rfl (Ak (((Dn x.graph (En x)).take k).filter (fun y=>y.epoch==e)++[(Dn x.graph (En x)).getD k default])) (An rfl) C6 Ad (A7 ?_);(repeat refine Ap ?_);refine Az [(1,6)] (k+1) Ad Ad ⟨rfl,trivial⟩ ⟨rfl,congrArg Ak (by rw [hs,if_pos h1]),trivial⟩ C2 A6 C1 A6
  rw [Int.toNat_natCast] at h1;(repeat refine Ap ?_);refine Az [] (k+1) Ad Ad ⟨rfl,trivial⟩ ⟨rfl,congrArg Ak (by rw [hs,if_neg (by rw [h1];decide),List.append_nil]),trivial⟩ C2 A6 C1 A6
 (repeat refine Ap ?_);refine Am A0 rfl rfl ⟨?_,trivial⟩;exact congrArg (fun l=>Ak (List.filter _ l)) (Da _ k Ad)
end Go.Proofs.YtdendlkeiaccpaaGreat
