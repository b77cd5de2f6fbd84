/- Part 20 of the proof that each of the laws FnConsole returns true for every input. No conditions. -/
import Derived.Test.YtmhcebdkjgkmlaaGreatDoorQ13

set_option linter.unusedSimpArgs false
set_option linter.unusedVariables false
set_option maxRecDepth 100000
namespace Go.Proofs.YtmhcebdkjgkmlaaGreatDoor
open Go.Sx
def B3u {α:Type} (l:List α) (k:Nat) (x:α):List α:=l.take k++x::l.drop k
theorem N5 (l:List Ad)(n:Nat):F3 n fun i=>Ad.c (l.getD i default):=by
 intro i hi c hc;simp only [Ad.c,Ch,Ph,T9] at hc
 rcases hc with rfl|rfl|rfl|rfl<;>exact ⟨_,rfl⟩
variable {k : Nat}
theorem B7h {α:Type} [Inhabited α] (e:α→List Ag)(l:List α)(hk:k≤l.length):Hn k (fun i=>e (l.getD i default))=Ix e (l.take k):=by
 rw [←Wo,F9,Nat.min_eq_left hk];unfold Hn;simp only [List.flatMap_def]
 congr 1
 apply List.map_congr_left
 intro i hi;have hi:=Fz.1 hi;rw [show (l.take k).getD i default=l.getD i default by simp [List.getD,X6,hi]]
theorem D2n {α:Type} [Inhabited α] (e:α→List Ag)(l:List α)(hk:k≤l.length)(pre Cg:List AV):pre++Ix e l++Cg=pre++Hn k (fun i=>e (l.getD i default))++(Ix e (l.drop k)++Cg):=by
 rw [B7h e l hk,Cr,Cr,←Cr (Ix e (l.take k)),←Js,Pk]
def Uz (l:List Ad) (k:Nat):List Ad:=l.take k++List.replicate (l.length+1-k) default
variable {l : List Ad}
theorem Ie (hk:k≤l.length):(Uz l k).length=l.length+1:=by
 rw [Uz,D3,F9,Pl];omega
theorem C6r {i:Nat}(hk:k≤l.length)(hi:i<k):(Uz l k).getD i default=l.getD i default:=by
 unfold Uz;simp only [List.getD];rw [Fi (by rw [F9];omega),X6,Ak hi]
theorem C6q {i:Nat}(hk:k≤l.length)(hi:k≤i):(Uz l k).getD i default=default:=by
 unfold Uz;simp only [List.getD];rw [Fo (by rw [F9];omega),List.getElem?_replicate]
 split<;>rfl
theorem B52 (hk:k<l.length)(pre Cg:List AV):pre++Ix Ad.c (Uz l k)++Cg=(pre++Ix Ad.c (l.take k))++Ix Ad.c [(default:Ad)]++(Ix Ad.c (List.replicate (l.length-k) (default:Ad))++Cg):=by
 rw [Uz,show l.length+1-k=(l.length-k)+1 by omega,List.replicate_succ,show (default:Ad)::List.replicate (l.length-k) default=[default]++List.replicate (l.length-k) default from rfl,Js,Js]
 simp only [Cr]
theorem T0 {x:Ad}(hk:k≤l.length):(B3u l k x).length=l.length+1:=by
 rw [B3u,D3,Fb,F9,Ge];omega
theorem A3e (l:List Ad):(Ix Ad.c l).length=l.length * 4:=B4v (es:=4) (fun _=>rfl) l
theorem B6f (l:List Ad)(k:Nat)(x:Ad)(pre Cg:List AV):pre++Ix Ad.c (B3u l k x)++Cg=(pre++Ix Ad.c (l.take k)++Ix Ad.c [x])++Ix Ad.c (l.drop k)++Cg:=by
 rw [B3u,show x::l.drop k=[x]++l.drop k from rfl,Js,Js]
 simp only [Cr]
set_option maxHeartbeats 4000000 in
theorem A7e (l:List Ad)(k:Nat)(x:Ad)(hk:k≤l.length)(hl:l.length≤16777216):Nw Tryz.prog (fun _=>True) 263 [] [.one (Ai l),.one (vi k),.one (Ai [x])] [] (fun _:Unit=>True) (fun _=>[.one (Ai (B3u l k x))]):=by
 refine Z5 A0 false Tryz.func263 rfl Bq fun B hH hp=>?_;conv=>whnf
 refine C8c A0 rfl rfl rfl rfl rfl rfl rfl (l:=(k:Int)) rfl ⟨by omega,by show (k:Int)≤(l.length:Int);omega⟩ (Gu ?_)
 refine C1 (fun he=>?_) fun he=>?_
 ·have he:(k:Int)=l.length:=eq_of_beq he
  obtain rfl:k=l.length:=by omega
  rw [show B3u l l.length x=l++[x] by unfold B3u;rw [H4,List.drop_length]]
  refine B6 A0 rfl (Ai (l++[x])) (Ao rfl) Hd (by show l.length+1≤_;omega) (Ah ?_)
  exact V9 A0 () trivial rfl rfl J0
 have he:(k:Int)≠l.length:=Ti.1 he;have hkl:k<l.length:=by omega
 refine ⟨by (have:(([x].length:Nat):Int)=1:=rfl;rw [this];show _∧_;omega),?_⟩
 conv=>whnf
 refine A5t 0 4 Ad.c l rfl A7 (N5 l _) (fun b off cap pre Cg p1 p2 p3 p4=>?_);refine Qh 0 0 rfl rfl ?_;refine Qh 29 0 rfl rfl ?_;refine D35 A0 rfl rfl rfl rfl rfl (Go.Sx.Gu A0 false ?_);conv=>whnf
 refine C1 (fun hc=>?_) fun hc=>?_
 ·have hc:cap<l.length+1:=by
   have:=Bn hc
   have e1:(([x].length:Nat):Int)=1:=rfl;omega
  have hcl:cap=l.length:=by omega
  refine Lk A0 rfl ⟨by omega,by omega,by omega,fun h=>by (try cases h),by omega⟩ (off * 4) k cap Ey Ey Ey (Go.Sx.Gu A0 false ?_);conv=>whnf
  refine ⟨by (have e1:(([x].length:Nat):Int)=1:=rfl;rw [e1];show _∧_;omega),?_⟩
  conv=>whnf
  refine ⟨by (have e1:(([x].length:Nat):Int)=1:=rfl;rw [e1];show _∧_;omega),?_⟩
  conv=>whnf
  rw [show ((l.length:Int)+(([x].length:Nat):Int))-(k:Int)=((l.length+1-k:Nat):Int) by have e1:(([x].length:Nat):Int)=1:=rfl;omega]
  refine D33 (kb:=2) (k:=l.length+1-k) (row:=fun i=>Ad.c (l.getD i default)) A0 rfl rfl rfl rfl rfl rfl rfl rfl rfl rfl rfl rfl pre (Ix Ad.c (l.drop k)++Cg) (by exact D2n Ad.c l hk pre Cg) (by exact p1) rfl Bq (by exact fun _ _=>rfl) (by exact N5 l _) A7 A7 A7 rfl (fun i=>Ad.c ((Uz l k).getD i default)) (fun i hi=>by rw [C6r hk hi]) (fun i hi _=>by rw [C6q hk hi];rfl) (Go.Sx.Gu A0 false ?_);conv=>whnf
  rw [show (Ag.sl (k+(l.length+1-k)) 4 fun i=>Ad.c ((Uz l k).getD i default))=Mx 4 Ad.c (Uz l k) by unfold Mx;rw [Ie hk];congr 1;omega]
  refine A5t 3 4 Ad.c (Uz l k) rfl (by rw [Ie hk];omega) (N5 _ _) (fun b2 off2 cap2 pre2 post2 q1 q2 q3 q4=>?_);rw [Ie hk] at q2 q4;refine Qh 9 3 rfl rfl ?_;refine Qh 41 3 rfl rfl ?_;refine Lk A0 rfl ⟨by omega,by rw [Ie hk];omega,by rw [Ie hk];omega,fun _=>by rw [Ie hk];omega,by omega⟩ (off2 * 4+k * 4) (l.length+1-k) (cap2-k) Ey (by rw [Ie hk];simp) Ey (Go.Sx.Gu A0 false ?_);conv=>whnf
  refine C50 (kb:=4) A0 rfl rfl rfl rfl rfl rfl rfl rfl rfl rfl (by exact N5 [x] _) (by exact Nat.one_pos) rfl (by show 1≤_;omega) (pre2++Ix Ad.c (l.take k)) (Ix Ad.c [(default:Ad)]) (Ix Ad.c (List.replicate (l.length-k) (default:Ad))++post2) (by exact B52 hkl pre2 post2) (by rw [D3,A3e,F9,q1];omega) (by rfl) (Go.Sx.Gu A0 false ?_)
  conv=>whnf
  have t1:(l.take k).length=k:=by rw [F9];omega
  have t2:(l.drop k).length=l.length-k:=Ge;have e1:(([x].length:Nat):Int)=1:=rfl;rw [show Hn [x].length (fun i=>Ad.c ([x].getD i default))=Ix Ad.c [x] from Wo Ad.c [x]]
  refine J3 rfl (E5 0 rfl (E5 1 rfl (E5 2 rfl (E5 3 rfl (E5 5 rfl (E5 6 rfl ?_))))));refine Lt (s':=?_) 4 rfl Am ?_ ?_;rotate_left;refine Go.Sx.Gu A0 false ?_;conv=>whnf
  refine Lk A0 rfl ⟨by omega,by rw [Ie hk];omega,by rw [Ie hk];omega,fun _=>by rw [Ie hk];omega,by omega⟩ (off2 * 4+(k+1) * 4) (l.length-k) (cap2-(k+1)) (by rw [e1];rfl) (by rw [Ie hk,e1];omega) (by rw [e1];rfl) (Go.Sx.Gu A0 false ?_);conv=>whnf
  exact C2
  refine Lt (s':=?_) 7 rfl Am ?_ ?_;rotate_left;refine Go.Sx.Gu A0 false ?_;conv=>whnf
  refine Lk A0 rfl ⟨by omega,by omega,by omega,fun _=>by omega,by omega⟩ (off * 4+k * 4) (l.length-k) (cap-k) Ey Ey Ey (Go.Sx.Gu A0 false ?_);conv=>whnf
  exact C2
  refine Nu [8] [] Am ?_;refine Lg (s':=?_) rfl Dt ?_ ?_;rotate_left;refine Go.Sx.Gu A0 false ?_;conv=>whnf
  refine C51 (kb:=4) (kb2:=2) A0 rfl rfl rfl rfl rfl rfl rfl rfl rfl rfl rfl (pre2++Ix Ad.c (l.take k)++Ix Ad.c [x]) (Ix Ad.c (List.replicate (l.length-k) (default:Ad))) post2 (pre++Ix Ad.c (l.take k)) (Ix Ad.c (l.drop k)) Cg (by simp only [Cr]) (by rw [D3,D3,A3e,A3e,t1,q1];simp;omega) (by rw [A3e,A3e,t2,Pl]) (by rw [←Pk k l,Js,Pk];simp only [Cr]) (by rw [D3,A3e,t1,p1]) (by rw [A3e,t2,show Nat.min (l.length-k) (l.length-k)=_ from Nat.min_self _]) (by exact C8t Ad.c _) (Go.Sx.Gu A0 false ?_)
  conv=>whnf
  exact C2
  refine Lr A0 Am Dt (GW.out (Go.Sx.Gu A0 false ?_));conv=>whnf
  refine B62 Tryz.prog 6 4 off2 4 Ad.c (B3u l k x) pre2 post2 rfl (by exact (B6f l k x pre2 post2).symm) (by exact q1) (fun _=>rfl) (N5 _ _) (by exact q3) (by exact ⟨by rw [T0 hk];exact q2,by rw [T0 hk];exact q4⟩) rfl rfl rfl (by rw [Ie hk,T0 hk]) ?_;exact V9 A0 () trivial rfl rfl J0
 have hc:l.length+1≤cap:=by
  have:=Cv hc
  have e1:(([x].length:Nat):Int)=1:=rfl;omega
 have t1:(l.take k).length=k:=by rw [F9];omega
 have t2:(l.drop k).length=l.length-k:=Ge;have e1:(([x].length:Nat):Int)=1:=rfl;have hp4:4≤Cg.length:=by have q:=Kh 4 (show 1≤cap-l.length from by omega);omega
 refine ⟨by (rw [e1];show _∧_;omega),?_⟩
 conv=>whnf
 refine Lk A0 rfl (by refine ⟨by omega,by omega,by omega,?_,by omega⟩;intro h;exact absurd h Ey) (off * 4) (l.length+1) cap Ey (by rw [e1];rfl) Ey (Go.Sx.Gu A0 false ?_);conv=>whnf
 refine ⟨by (rw [e1];show _∧_;omega),?_⟩
 conv=>whnf
 refine Lk A0 rfl ⟨by omega,by omega,by omega,fun _=>by omega,by omega⟩ (off * 4+(k+1) * 4) (l.length-k) (cap-(k+1)) (by rw [e1];rfl) (by rw [e1];omega) (by rw [e1];rfl) (D39 0 A0 false ?_);conv=>whnf
 refine C4d (kb:=2) A0 rfl rfl rfl rfl rfl rfl rfl rfl rfl rfl rfl rfl (by exact Nat.one_pos) rfl rfl rfl (by rw [D3,D3];omega) (Go.Sx.Gu A0 false ?_);conv=>whnf
 refine As ?_
 have k1:l.take (k+1)=l.take k++[l.getD k default]:=by
  rw [A3p hkl]
  simp [List.getD,hkl]
 have c1:pre++Ix Ad.c l++Cg=(pre++Ix Ad.c (l.take (k+1)))++(Ix Ad.c (l.drop (k+1))++Cg.take 4)++Cg.drop 4:=by
  conv=>lhs;rw [←Pk (k+1) l,Js,←Pk 4 Cg]
  simp only [Cr]
 have c2:pre++Ix Ad.c l++Cg=(pre++Ix Ad.c (l.take k))++Ix Ad.c (l.drop k)++Cg:=by
  conv=>lhs;rw [←Pk k l,Js]
  simp only [Cr]
 have c3:(pre++Ix Ad.c (l.take (k+1)))++Ix Ad.c (l.drop k)++Cg.drop 4=(pre++Ix Ad.c (l.take k))++Ix Ad.c [l.getD k default]++(Ix Ad.c (l.drop k)++Cg.drop 4):=by
  rw [k1,Js];simp only [Cr]
 have t3:(l.take (k+1)).length=k+1:=by rw [F9];omega
 have t4:(l.drop (k+1)).length=l.length-(k+1):=Ge;have t5:(Cg.take 4).length=4:=by rw [F9];omega
 refine J3 rfl (E5 0 rfl (E5 1 rfl (E5 2 rfl (E5 3 rfl (E5 5 rfl (E5 6 rfl ?_))))));refine Lt (s':=?_) 4 rfl Am ?_ ?_;rotate_left;refine Go.Sx.Gu A0 false ?_;conv=>whnf
 refine Lk A0 rfl ⟨by omega,by omega,by omega,fun _=>by omega,by omega⟩ (off * 4+(k+1) * 4) (l.length-k) (cap-(k+1)) (by rw [e1];rfl) (by rw [e1];omega) (by rw [e1];rfl) (Go.Sx.Gu A0 false ?_);conv=>whnf
 exact C2
 refine Lt (s':=?_) 7 rfl Am ?_ ?_;rotate_left;refine Go.Sx.Gu A0 false ?_;conv=>whnf
 refine Lk A0 rfl ⟨by omega,by omega,by omega,fun _=>by omega,by omega⟩ (off * 4+k * 4) (l.length+1-k) (cap-k) Ey Ey Ey (Go.Sx.Gu A0 false ?_);conv=>whnf
 exact C2
 refine Nu [8] [] Am ?_;refine Lg (s':=?_) rfl Dt ?_ ?_;rotate_left;refine Go.Sx.Gu A0 false ?_;conv=>whnf
 refine C51 (kb:=2) (kb2:=2) A0 rfl rfl rfl rfl rfl rfl rfl rfl rfl rfl rfl (pre++Ix Ad.c (l.take (k+1))) (Ix Ad.c (l.drop (k+1))++Cg.take 4) (Cg.drop 4) (pre++Ix Ad.c (l.take k)) (Ix Ad.c (l.drop k)) Cg (by exact c1) (by rw [D3,A3e,t3,p1]) (by rw [D3,A3e,A3e,t2,t4,t5];omega) (by exact c2) (by rw [D3,A3e,t1,p1]) (by rw [A3e,t2,show Nat.min (l.length+1-k) (l.length-k)=l.length-k from Nat.min_eq_right A7]) (by exact C8t Ad.c _) (Go.Sx.Gu A0 false ?_)
 conv=>whnf
 exact C2
 refine Lr A0 Am Dt (GW.out (Go.Sx.Gu A0 false ?_));conv=>whnf
 rw [c3];refine Lk A0 rfl ⟨by omega,by omega,by omega,fun _=>by omega,by omega⟩ (off * 4+k * 4) (l.length+1-k) (cap-k) Ey Ey Ey (Go.Sx.Gu A0 false ?_);conv=>whnf
 refine C50 (kb:=2) A0 rfl rfl rfl rfl rfl rfl rfl rfl rfl rfl (by exact N5 [x] _) (by exact Nat.one_pos) rfl (by show 1≤_;omega) (pre++Ix Ad.c (l.take k)) (Ix Ad.c [l.getD k default]) (Ix Ad.c (l.drop k)++Cg.drop 4) rfl (by rw [D3,A3e,t1,p1]) (by rfl) (Go.Sx.Gu A0 false ?_)
 conv=>whnf
 rw [show Hn [x].length (fun i=>Ad.c ([x].getD i default))=Ix Ad.c [x] from Wo Ad.c [x]]
 refine B62 Tryz.prog 6 2 off 4 Ad.c (B3u l k x) pre (Cg.drop 4) rfl (by rw [B6f];simp only [Cr]) (by exact p1) (fun _=>rfl) (N5 _ _) (by exact p3) (by exact ⟨by rw [T0 hk];exact hc,by rw [T0 hk,Ge];omega⟩) rfl rfl rfl (by rw [T0 hk]) ?_;exact V9 A0 () trivial rfl rfl J0
def Oe (l:List Ad) (x:Ad):Bool:=l.any fun y=>decide (y=x)
def Nb (l:List Ad) (x:Ad):Nat:=Hy (fun y=>!decide (N2 y x<0)) l
def Dh (l:List Ad) (x:Ad):List Ad:=if Oe l x=true then l else l.take (Nb l x)++x::l.drop (Nb l x)
def A2x (op e k:Int) (s:Int×Bool) (x:Ad):Int×Bool:=if (x.op=op∧x.ab=e∧x.key=k)∧(s.2=false∨x.val<s.1) then (x.val,true) else s
def La (l:List Ad) (op e k:Int):Int×Bool:=l.foldl (A2x op e k) (0,false)
def B7 (a b:Ad):Bool:=decide (a.op=b.op∧a.ab=b.ab∧a.key=b.key)
def A70 (l:List Ad) (x:Ad):Prop:=(La l x.op x.ab x.key).2=true∧(La l x.op x.ab x.key).1≤x.val
instance (l:List Ad) (x:Ad):Decidable (A70 l x):=by unfold A70;infer_instance
def Km (l:List Ad) (x:Ad):List Ad×Bool:=if A70 l x then (l,false) else (Dh (l.filter fun y=>!B7 x y) x,true)
def Cz (k:Int) (l:List Ad) (x:Ad):List Ad×Bool:=
 if k=5∨k=8 then Km l x else if k=6 then (if Oe l x=true then (l,false) else (Dh l x,true)) else (l,true)
theorem A4w (l:List Ad)(x:Ad)(hl:l.length≤16777216):Di 259 [.one (Ai l),.agg x.c] [.one (vb (Oe l x))]:=by
 refine E7 Tryz.func259 fun W=>?_;refine Fx [] (fun k:Nat=>[(5,.c (vi k))]) (fun k=>[⟨0,[.c (vi x.op),.c (vi x.ab),.c (vi x.key),.c (vi x.val)]⟩]) (fun k=>[]) (fun k=>k≤l.length∧(l.take k).any (fun y=>decide (y=x))=false) (fun k=>l.length-k) fun k hk=>?_;obtain ⟨hk,he⟩:=hk;refine Dv (fun h=>?_) fun h=>?_
 ·have h:k<l.length:=by omega
  refine B4 ?_
  first|(refine Aj 4 rfl [0,1,2,3,4,5] Am (Ah ?_))
  refine B4 ?_;refine C1 (fun hc=>?_) fun hc=>?_
  ·have hc:decide (l.getD k default=x)=true:=by rw [←Ad.eqv];exact hc
   exact An A0 rfl rfl ⟨A6 vb (show Oe l x=true from Th.2 ⟨_,Al h,hc⟩),trivial⟩
  have hc:decide (l.getD k default=x)=false:=by rw [←Ad.eqv];exact hc
  refine B4 ?_;refine Cc [] (k+1) ⟨by omega,Gy he h hc⟩ A7 ⟨rfl,trivial⟩ trivial
 exact An A0 rfl rfl ⟨A6 vb (show Oe l x=false by rw [Oe,←Ej l k A7];exact he),trivial⟩
theorem A95 (l:List Ad)(x:Ad)(hl:l.length≤16777216):Di 320 [.one (Ai l),.agg x.c] [.one (vi (Pf (fun y=>decide (y=x)) l))]:=by
 refine E7 Tryz.func320 fun W=>?_;refine Fx [5,9,10,11,12,13,14,15,16,17,18] (fun k:Nat=>[(8,.c (vi k))]) (fun k=>[⟨0,[.c (vi x.op),.c (vi x.ab),.c (vi x.key),.c (vi x.val)]⟩]) (fun k=>[]) (fun k=>k≤l.length∧(l.take k).any (fun y=>decide (y=x))=false) (fun k=>l.length-k) fun k hk=>?_;obtain ⟨hk,he⟩:=hk;refine Dv (fun h=>?_) fun h=>?_
 ·have h:k<l.length:=by omega
  refine B4 ?_
  first|(refine Aj 4 rfl [0,1,2,3,4,5] Am (Ah ?_))
  refine B4 ?_;refine C1 (fun hc=>?_) fun hc=>?_
  ·have hc:decide (l.getD k default=x)=true:=by rw [←Uw.2 (eq_comm (a:=x)),←Ad.eqv];exact hc
   exact An A0 rfl rfl ⟨A6 vi (Su _ l k he h hc),trivial⟩
  have hc:decide (l.getD k default=x)=false:=by rw [←Uw.2 (eq_comm (a:=x)),←Ad.eqv];exact hc
  refine B4 ?_;refine Cc [] (k+1) ⟨by omega,Gy he h hc⟩ A7 ⟨rfl,trivial⟩ trivial
 exact An A0 rfl rfl ⟨A6 vi (M8 _ l (by rw [←Ej l k A7];exact he)),trivial⟩
theorem A2t (l:List Ad)(x:Ad)(hl:l.length≤16777216):Di 296 [.one (Ai l),.agg x.c] [.one (vb (Oe l x))]:=by
 refine E7 Tryz.func296 fun W=>?_;refine Fp (A95 l x hl) ?_;exact An A0 rfl rfl ⟨A6 vb (A2q _ l).symm,trivial⟩
theorem A33 (l:List Ad)(x:Ad)(hl:l.length≤16777216):Di 261 [.one (Ai l),.agg x.c] [.one (vb (Oe l x))]:=by
 refine E7 Tryz.func261 fun W=>?_;refine Fp (A2t l x hl) ?_;exact An A0 rfl rfl ⟨rfl,trivial⟩
variable {α : Type}
theorem Z6 [Inhabited α] (p:α→Bool):∀(xs:List α) (k:Nat),k<xs.length→(∀i,i<k→p (xs.getD i default)=false)→p (xs.getD k default)=true→Hy p xs=k
 | [],_,h,_,_=>absurd h (L4 _)
 |x::r,0,_,_,hp=>by
  have:p x=true:=hp
  simp [Hy,this]
 |x::r,k+1,h,hb,hp=>by
  have h0:p x=false:=hb 0 A7
  have:=Z6 p r k (by simpa using h) (fun i hi=>hb (i+1) A7) hp
  simp [Hy,h0,this]
theorem B1h [Inhabited α] (p:α→Bool):∀(xs:List α),(∀i,i<xs.length→p (xs.getD i default)=false)→Hy p xs=xs.length
 | [],_=>rfl
 |x::r,hb=>by
  have h0:p x=false:=hb 0 Ey
  have:=B1h p r (fun i hi=>hb (i+1) (by simpa using hi))
  simp [Hy,h0,this]
def ltX (x y:Ad):Bool:=!decide (N2 y x<0)
theorem B68 {l:List Ad}{x:Ad}{k:Nat}(h:k<l.length)(hb:∀i,i<k→ltX x (l.getD i default)=false)(hk:ltX x (l.getD k default)=true):Nb l x=k:=Z6 _ l k h hb hk
theorem B2a {l:List Ad}{x:Ad}(hb:∀i,i<l.length→ltX x (l.getD i default)=false):Nb l x=l.length:=B1h _ l hb
theorem C74 (l:List Ad)(x:Ad):Nb l x≤l.length:=by
 have:∀(p:Ad→Bool) (m:List Ad),Hy p m≤m.length:=by
  intro p m
  induction m with
  |nil=>simp [Hy]
  |cons y r ih=>simp only [Hy];split<;>simp<;>omega
 exact this _ l
theorem A3d [Inhabited α] {es:Nat}{e:α→List Ag}{xs:List α}{k:Nat}(h:k≤xs.length):Y1 xs.length es (fun i=>e (xs.getD i default)) 0 (k:Int) (Mx es e (xs.take k)):=by
 have:=Xt (es:=es) (e:=e) (xs:=xs) (l:=0) (h:=(k:Int)) (Tj _) A7 A7
 simpa using this
theorem Ip [Inhabited α] {es:Nat}{e:α→List Ag}{xs:List α}{k:Nat}(h:k≤xs.length):Y1 xs.length es (fun i=>e (xs.getD i default)) (k:Int) (xs.length:Int) (Mx es e (xs.drop k)):=by
 have:=Xt (es:=es) (e:=e) (xs:=xs) (l:=(k:Int)) (h:=(xs.length:Int)) A7 A7 A7
 rwa [show (xs.drop (k:Int).toNat).take ((xs.length:Int)-(k:Int)).toNat=xs.drop k by rw [Bv];exact Ms Ey] at this
theorem C16 (l:List Ad)(x:Ad)(k:Nat):Va (l.take k++[x]).length (l.drop k).length 4 (fun i=>Ad.c ((l.take k++[x]).getD i default)) (fun i=>Ad.c ((l.drop k).getD i default)) (Ai (l.take k++x::l.drop k)):=by
 rw [show l.take k++x::l.drop k=(l.take k++[x])++l.drop k by simp]
 exact Oj 4 Ad.c _ _
set_option maxHeartbeats 1000000 in
theorem Mo (l:List Ad)(x:Ad)(hl:l.length≤16000000):Di 215 [.one (Ai l),.agg x.c] [.one (Ai (Dh l x))]:=by
 refine E7 Tryz.func215 fun W=>?_;refine Fp (A4w l x A7) ?_;refine C1 (fun hc=>?_) fun hc=>?_
 ·refine B6 A0 rfl (Ai l) (Bs) (fun _=>Gi l) A7 (Ah ?_)
  refine An A0 rfl rfl ⟨?_,trivial⟩;rw [Dh,Ak hc];rfl
 refine Fx [] (fun k:Nat=>[(5,.c (vi k))]) (fun k=>[⟨0,[.c (vi x.op),.c (vi x.ab),.c (vi x.key),.c (vi x.val)]⟩]) (fun k=>[]) (fun k=>k≤l.length∧∀i,i<k→ltX x (l.getD i default)=false) (fun k=>l.length-k) fun k hk=>?_;obtain ⟨hk,he⟩:=hk
 first|(refine Aj 4 rfl [0,1,2,3,4,5,6,7,8,9,10,11,12] Am (Ah ?_))|(refine Aj 6 rfl [1,2,3,5,0,4,6,7,8] Am (Ah ?_))
 refine Dv (fun h=>?_) fun h=>?_
 ·have h:k<l.length:=by omega
  refine As ?_;refine Aq (Ys (l.getD k default) x) rfl (Gu ?_);refine Dv (fun h2=>?_) fun h2=>?_
  ·refine B4 ?_
   refine Cc [] (k+1) ⟨by omega,fun i hi=>(X3.1 hi).elim (fun h4=>he i h4) (fun h4=>by subst h4;simp only [ltX,Us,Np];exact h2)⟩ A7 ⟨rfl,trivial⟩ trivial
  refine J3 rfl (E5 1 rfl (E5 2 rfl ?_));refine Lt (s':=?_) 3 rfl Am ?_ ?_;rotate_left;refine Ah ?_;refine P9 A0 rfl ⟨by omega,by omega,by omega⟩ (Ai (l.take k)) (A3d A7) (Ah ?_);exact C2
  refine Nu [4,5,6,7,8] [⟨0,28,.emp 4⟩] Am ?_;refine Nk (s1:=?_) (s2:=?_) A0 [4,5,6,7,8] 4 5 [5,6,7,8] [4,6,7,8] rfl rfl Am Dt Bq Bq ?_ ?_ ?_ ?_;rotate_left 2;refine Ah ?_;refine B6 A0 rfl (Ai (l.take k)) (Bs) (fun _=>Gi _) (by (have:=Ly k l);omega) (Ah ?_);exact C2
  refine My rfl Dt ?_;refine My rfl Dt ?_;refine Lg (s':=?_) rfl Dt ?_ ?_;rotate_left;refine Ah ?_;refine B6 A0 rfl (Ai (l.take k++[x])) (Ao rfl) Hd (by (have:=Ly k l);omega) (Ah ?_);exact C2
  refine My rfl Dt ?_;refine Lr A0 Am Dt (GW.out (It ?_));conv=>whnf
  rotate_left 1;refine Em ?_;exact C2
  refine Nk (s1:=?_) (s2:=?_) A0 [4,6,7,8] 4 6 [6,7,8] [4,7,8] rfl rfl Am Dt Bq Bq ?_ ?_ ?_ ?_;rotate_left 2;refine Ah ?_;refine B6 A0 rfl (Ai (l.take k)) (Bs) (fun _=>Gi _) (by (have:=Ly k l);omega) (Ah ?_);exact C2
  refine My rfl Dt ?_;refine Lg (s':=?_) rfl Dt ?_ ?_;rotate_left;refine Ah ?_;refine B6 A0 rfl (Ai (l.take k++[x])) (Ao rfl) Hd (by (have:=Ly k l);omega) (Ah ?_);exact C2
  refine My rfl Dt ?_;refine Lr A0 Am Dt (GW.out (It ?_));conv=>whnf
  rotate_left 1;refine Em ?_;exact C2
  refine Lg (s':=?_) rfl Dt ?_ ?_;rotate_left;refine Ah ?_;refine B6 A0 rfl (Ai (l.take k)) (Bs) (fun _=>Gi _) (by (have:=Ly k l);omega) (Ah ?_);exact C2
  refine Lg (s':=?_) rfl Dt ?_ ?_;rotate_left;refine Ah ?_;refine B6 A0 rfl (Ai (l.take k++[x])) (Ao rfl) Hd (by (have:=Ly k l);omega) (Ah ?_);exact C2
  refine My rfl Dt ?_;refine Lr A0 Am Dt (GW.out (It ?_));conv=>whnf
  all_goals
   refine P9 A0 rfl ⟨by omega,by omega,by omega⟩ (Ai (l.drop k)) (Ip A7) (Ah ?_);refine B6 A0 rfl (Ai (l.take k++x::l.drop k)) (C16 l x k) (fun _=>Gi _) (by (have:=Ly k l;have:=Ge (i:=k) (l:=l);simp only [D3,Lx];omega)) (Ah ?_);refine An A0 rfl rfl ⟨?_,trivial⟩;rw [Dh,Ab (by rw [hc];decide),B68 h he (by simp only [ltX,Mq,Ta];exact h2)];rfl
 refine As ?_;refine J3 rfl (E5 1 rfl (E5 2 rfl ?_));refine Lt (s':=?_) 3 rfl Am ?_ ?_;rotate_left;refine Ah ?_;refine P9 A0 rfl ⟨by omega,by omega,by omega⟩ (Ai (l.take k)) (A3d A7) (Ah ?_);exact C2
 refine Nu [4,5,6,7,8] [⟨0,28,.emp 4⟩] Am ?_;refine Nk (s1:=?_) (s2:=?_) A0 [4,5,6,7,8] 4 5 [5,6,7,8] [4,6,7,8] rfl rfl Am Dt Bq Bq ?_ ?_ ?_ ?_;rotate_left 2;refine Ah ?_;refine B6 A0 rfl (Ai (l.take k)) (Bs) (fun _=>Gi _) (by (have:=Ly k l);omega) (Ah ?_);exact C2
 refine My rfl Dt ?_;refine My rfl Dt ?_;refine Lg (s':=?_) rfl Dt ?_ ?_;rotate_left;refine Ah ?_;refine B6 A0 rfl (Ai (l.take k++[x])) (Ao rfl) Hd (by (have:=Ly k l);omega) (Ah ?_);exact C2
 refine My rfl Dt ?_;refine Lr A0 Am Dt (GW.out (It ?_));conv=>whnf
 rotate_left 1;refine Em ?_;exact C2
 refine Nk (s1:=?_) (s2:=?_) A0 [4,6,7,8] 4 6 [6,7,8] [4,7,8] rfl rfl Am Dt Bq Bq ?_ ?_ ?_ ?_;rotate_left 2;refine Ah ?_;refine B6 A0 rfl (Ai (l.take k)) (Bs) (fun _=>Gi _) (by (have:=Ly k l);omega) (Ah ?_);exact C2
 refine My rfl Dt ?_;refine Lg (s':=?_) rfl Dt ?_ ?_;rotate_left;refine Ah ?_;refine B6 A0 rfl (Ai (l.take k++[x])) (Ao rfl) Hd (by (have:=Ly k l);omega) (Ah ?_);exact C2
 refine My rfl Dt ?_;refine Lr A0 Am Dt (GW.out (It ?_));conv=>whnf
 rotate_left 1;refine Em ?_;exact C2
 refine Lg (s':=?_) rfl Dt ?_ ?_;rotate_left;refine Ah ?_;refine B6 A0 rfl (Ai (l.take k)) (Bs) (fun _=>Gi _) (by (have:=Ly k l);omega) (Ah ?_);exact C2
 refine Lg (s':=?_) rfl Dt ?_ ?_;rotate_left;refine Ah ?_;refine B6 A0 rfl (Ai (l.take k++[x])) (Ao rfl) Hd (by (have:=Ly k l);omega) (Ah ?_);exact C2
 refine My rfl Dt ?_;refine Lr A0 Am Dt (GW.out (It ?_));conv=>whnf
 all_goals
  refine P9 A0 rfl ⟨by omega,by omega,by omega⟩ (Ai (l.drop k)) (Ip A7) (Ah ?_);refine B6 A0 rfl (Ai (l.take k++x::l.drop k)) (C16 l x k) (fun _=>Gi _) (by (have:=Ly k l;have:=Ge (i:=k) (l:=l);simp only [D3,Lx];omega)) (Ah ?_);refine An A0 rfl rfl ⟨?_,trivial⟩;rw [Dh,Ab (by rw [hc];decide),(show Nb l x=k by rw [B2a (fun i hi=>he i A7)];omega)]
  rfl
set_option maxHeartbeats 1000000 in
theorem Rl (l:List Ad)(x:Ad)(hl:l.length≤16000000):Di 218 [.one (Ai l),.agg x.c] [.one (Ai (Dh l x))]:=by
 refine E7 Tryz.func218 fun W=>?_;refine Gf (G3 l A7) ?_;refine Fp (A33 l x A7) ?_;refine C1 (fun hc=>?_) fun hc=>?_
 ·refine An A0 rfl rfl ⟨?_,trivial⟩
  rw [Dh,Ak hc];rfl
 refine Fx [] (fun k:Nat=>[(6,.c (vi k))]) (fun k=>[⟨0,[.c (vi x.op),.c (vi x.ab),.c (vi x.key),.c (vi x.val)]⟩]) (fun k=>[⟨1,Ai l⟩]) (fun k=>k≤l.length∧∀i,i<k→ltX x (l.getD i default)=false) (fun k=>l.length-k) fun k hk=>?_;obtain ⟨hk,he⟩:=hk
 first|(refine Aj 5 rfl [0,1,2,3,4,5,6,7,8,9,10,11,12] Am (Ah ?_))
 refine Dv (fun h=>?_) fun h=>?_
 ·have h:k<l.length:=by omega
  refine As ?_;refine Aq (Y7 (l.getD k default) x) rfl (Gu ?_);refine Dv (fun h2=>?_) fun h2=>?_
  ·refine B4 ?_
   refine Cc [(0,0),(1,1)] (k+1) ⟨by omega,fun i hi=>(X3.1 hi).elim (fun h4=>he i h4) (fun h4=>by subst h4;simp only [ltX,Us,Np];exact h2)⟩ A7 ⟨rfl,trivial⟩ ⟨rfl,trivial⟩
  refine Ns 2 (Ai [x]) rfl (Cf rfl V7) ?_;refine A6g [.own 1,.c (vi k),.own 2] (A7e l k x A7 A7) (fun _ _=>trivial) (fun _ h=>by cases h) J0 rfl rfl (fun i _=>go A0 false ?_);conv=>whnf
  refine An A0 rfl rfl ⟨?_,trivial⟩;rw [Dh,Ab (by rw [hc];decide),(show Nb l x=k from B68 h he (by simp only [ltX,Mq,Ta];exact h2))]
  rfl
 refine As ?_;refine Ns 2 (Ai [x]) rfl (Cf rfl V7) ?_;refine A6g [.own 1,.c (vi k),.own 2] (A7e l k x A7 A7) (fun _ _=>trivial) (fun _ h=>by cases h) J0 rfl rfl (fun i _=>go A0 false ?_);conv=>whnf
 refine An A0 rfl rfl ⟨?_,trivial⟩;rw [Dh,Ab (by rw [hc];decide),(show Nb l x=k by rw [B2a (fun i hi=>he i A7)];omega)]
 rfl
end Go.Proofs.YtmhcebdkjgkmlaaGreatDoor
