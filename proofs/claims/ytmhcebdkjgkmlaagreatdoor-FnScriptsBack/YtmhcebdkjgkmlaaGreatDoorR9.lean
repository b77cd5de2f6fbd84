/- Part 9 of the proof that each of the laws FnScriptsBack returns true for every input. No conditions. -/
import Derived.Test.YtmhcebdkjgkmlaaGreatDoorR7

set_option linter.unusedSimpArgs false
set_option linter.unusedVariables false
set_option maxRecDepth 100000
namespace Go.Proofs.YtmhcebdkjgkmlaaGreatDoor
open Go.Sx
theorem Jr (l:List A9)(h:l.length≤16777216):Df 174 [.one (Aa l)] [.one (Aa l)]:=by
 refine Dy Tryz.func174 fun W=>?_;refine Bg A0 rfl (Aa l) (Bw) (fun _=>J1 l) A7 (Ag ?_);exact Af A0 rfl rfl ⟨rfl,trivial⟩
theorem Fu (l:List Al)(h:l.length≤16777216):Df 216 [.one (As l)] [.one (As l)]:=by
 refine Dy Tryz.func216 fun W=>?_;refine Bg A0 rfl (As l) (Bw) (fun _=>Gj l) A7 (Ag ?_);exact Af A0 rfl rfl ⟨rfl,trivial⟩
theorem Ps (l:D8)(h:l.w≤16777216):Df 161 [.agg l.c] [.agg l.c]:=by
 have h:l.al.length≤16777216:=h;refine Dy Tryz.func161 fun W=>?_;refine Hp (Jr l.al h) ?_;exact Af A0 rfl rfl ⟨⟨rfl,rfl,rfl,rfl,rfl,rfl,trivial⟩,trivial⟩
theorem Pz (l:D8)(h:l.w≤16777216):Df 210 [.agg l.c] [.agg l.c]:=by
 have h:l.al.length≤16777216:=h;refine Dy Tryz.func210 fun W=>?_;refine Bg A0 rfl (Aa l.al) (Bw) (fun _=>J1 l.al) A7 (Ag ?_);exact Af A0 rfl rfl ⟨⟨rfl,rfl,rfl,rfl,rfl,rfl,trivial⟩,trivial⟩
set_option maxHeartbeats 8000000 in
theorem J3 (x:Aj)(h:x.w≤16777216):Df 160 [.agg x.c] [.agg x.c]:=by
 simp only [Aj.w] at h;refine B1m A0 false Tryz.func160 rfl Bk fun W us hul huv huo hp=>?_
 match us,hul with
 | [v0,v1,v2,v3,v4,v5,v6,v7],_=>
 conv=>whnf
 refine Jd rfl (E4 0 rfl (E4 3 rfl (E4 6 rfl (E4 9 rfl (E4 12 rfl (E4 15 rfl (E4 18 rfl (E4 21 rfl ?_))))))));refine Np [2,5,8,11,14,17,20,23,24,25] [⟨1,4,.rd v0⟩,⟨4,7,.rd v1⟩,⟨7,10,.rd v2⟩,⟨10,13,.rd v3⟩,⟨13,16,.rd v4⟩,⟨16,19,.rd v5⟩,⟨19,22,.rd v6⟩,⟨22,25,.rd v7⟩] Ak ?_;refine La (s':=?_) rfl Dt ?_ ?_;rotate_left;refine Ag ?_;refine B2w hp 0 0 rfl rfl ?_;refine Hp (Jr x.al A7) ?_;exact C8
 refine La (s':=?_) rfl Dt ?_ ?_;rotate_left;refine Ag ?_;refine B2w hp 0 1 rfl rfl ?_;refine Hp (Jr x.bq A7) ?_;exact C8
 refine La (s':=?_) rfl Dt ?_ ?_;rotate_left;refine Ag ?_;refine B2w hp 0 2 rfl rfl ?_;refine Hp (Jr x.ap A7) ?_;exact C8
 refine La (s':=?_) rfl Dt ?_ ?_;rotate_left;refine Ag ?_;refine B2w hp 0 3 rfl rfl ?_;refine Hp (Fu x.cells A7) ?_;exact C8
 refine La (s':=?_) rfl Dt ?_ ?_;rotate_left;refine Ag ?_;refine Jg hp 4 rfl 16 rfl ?_;refine Bg A0 rfl (De x.ai) (Bw) (fun _=>Sn x.ai) A7 (Ag ?_);exact C8
 refine La (s':=?_) rfl Dt ?_ ?_;rotate_left;refine Ag ?_;refine Jg hp 5 rfl 19 rfl ?_;refine Bg A0 rfl (Dz x.ah) (Bw) (fun _=>Tm x.ah) A7 (Ag ?_);exact C8
 refine La (s':=?_) rfl Dt ?_ ?_;rotate_left;refine Ag ?_;refine Jg hp 6 rfl 22 rfl ?_;refine Bg A0 rfl (Dz x.ao) (Bw) (fun _=>Tm x.ao) A7 (Ag ?_);exact C8
 refine La (s':=?_) rfl Dt ?_ ?_;rotate_left;refine Ag ?_;refine Jg hp 7 rfl 25 rfl ?_;refine Bg A0 rfl (Hy x.bz) (Bw) (fun _=>A5d x.bz) A7 (Ag ?_);exact C8
 refine Mt rfl Dt ?_;refine Mt rfl Dt ?_;refine Lt A0 Ak Dt (GW.out (I7 ?_));conv=>whnf
 exact Af A0 rfl rfl ⟨⟨rfl,rfl,rfl,rfl,rfl,rfl,rfl,rfl,trivial⟩,trivial⟩
set_option maxHeartbeats 8000000 in
theorem A7g (x:Aj)(h:x.w≤16777216):Df 209 [.agg x.c] [.agg x.c]:=by
 simp only [Aj.w] at h;refine B1m A0 false Tryz.func209 rfl Bk fun W us hul huv huo hp=>?_
 match us,hul with
 | [v0,v1,v2,v3,v4,v5,v6,v7],_=>
 conv=>whnf
 refine Jd rfl (E4 1 rfl (E4 5 rfl (E4 9 rfl (E4 13 rfl (E4 17 rfl (E4 21 rfl (E4 25 rfl (E4 29 rfl ?_))))))));refine Np [3,7,11,15,19,23,27,31,32,33] [⟨0,3,.emp 5⟩,⟨2,5,.rd v0⟩,⟨4,7,.emp 5⟩,⟨6,9,.rd v1⟩,⟨8,11,.emp 5⟩,⟨10,13,.rd v2⟩,⟨12,15,.emp 4⟩,⟨14,17,.rd v3⟩,⟨16,19,.emp 1⟩,⟨18,21,.rd v4⟩,⟨20,23,.emp 1⟩,⟨22,25,.rd v5⟩,⟨24,27,.emp 1⟩,⟨26,29,.rd v6⟩,⟨28,31,.emp 2⟩,⟨30,33,.rd v7⟩] Ak ?_;refine La (s':=?_) rfl Dt ?_ ?_;rotate_left;refine Ag ?_;refine Jg hp 0 rfl 5 rfl ?_;refine Bg A0 rfl (Aa x.al) (Bw) (fun _=>J1 x.al) A7 (Ag ?_);exact C8
 refine La (s':=?_) rfl Dt ?_ ?_;rotate_left;refine Ag ?_;refine Jg hp 1 rfl 9 rfl ?_;refine Bg A0 rfl (Aa x.bq) (Bw) (fun _=>J1 x.bq) A7 (Ag ?_);exact C8
 refine La (s':=?_) rfl Dt ?_ ?_;rotate_left;refine Ag ?_;refine Jg hp 2 rfl 13 rfl ?_;refine Bg A0 rfl (Aa x.ap) (Bw) (fun _=>J1 x.ap) A7 (Ag ?_);exact C8
 refine La (s':=?_) rfl Dt ?_ ?_;rotate_left;refine Ag ?_;refine Jg hp 3 rfl 17 rfl ?_;refine Bg A0 rfl (As x.cells) (Bw) (fun _=>Gj x.cells) A7 (Ag ?_);exact C8
 refine La (s':=?_) rfl Dt ?_ ?_;rotate_left;refine Ag ?_;refine Jg hp 4 rfl 21 rfl ?_;refine Bg A0 rfl (De x.ai) (Bw) (fun _=>Sn x.ai) A7 (Ag ?_);exact C8
 refine La (s':=?_) rfl Dt ?_ ?_;rotate_left;refine Ag ?_;refine Jg hp 5 rfl 25 rfl ?_;refine Bg A0 rfl (Dz x.ah) (Bw) (fun _=>Tm x.ah) A7 (Ag ?_);exact C8
 refine La (s':=?_) rfl Dt ?_ ?_;rotate_left;refine Ag ?_;refine Jg hp 6 rfl 29 rfl ?_;refine Bg A0 rfl (Dz x.ao) (Bw) (fun _=>Tm x.ao) A7 (Ag ?_);exact C8
 refine La (s':=?_) rfl Dt ?_ ?_;rotate_left;refine Ag ?_;refine Jg hp 7 rfl 33 rfl ?_;refine Bg A0 rfl (Hy x.bz) (Bw) (fun _=>A5d x.bz) A7 (Ag ?_);exact C8
 refine Mt rfl Dt ?_;refine Mt rfl Dt ?_;refine Lt A0 Ak Dt (GW.out (I7 ?_));conv=>whnf
 exact Af A0 rfl rfl ⟨⟨rfl,rfl,rfl,rfl,rfl,rfl,rfl,rfl,trivial⟩,trivial⟩
theorem Je (g:Ax)(hg:g.w≤16777216):Df 83 [.agg g.c] [.one (vb (Eh g))]:=by
 have hn:=Ax.nodes_le hg;have hu:=Dm (R6 g);refine Dy Tryz.func83 fun W=>?_
 repeat' (first|(refine Gy ?_;conv=>whnf)|(refine Gz ?_;conv=>whnf)|(refine ⟨fun h=>?_,fun h=>?_⟩<;>conv=>whnf)|(refine Ao (Hw _ _ _) rfl (Ag ?_))|(refine D6 ?_;conv=>whnf)|fail)
 all_goals try (refine Af A0 rfl rfl ⟨A6 vb (Cx fun p=>?_),trivial⟩;have p1:=p.1;have p2:=p.2.1;have p3:=p.2.2.1;clear p;simp only [Es] at * <;>omega)
 refine Fs [] (fun k:Nat=>[(28,.c (vi k))]) (fun k=>[⟨0,[.c (Ay g.ay),.c (vi g.aq),.c (vi g.cap)]⟩]) (fun k=>[]) (fun k=>k≤g.ay.length∧Mv (R6 g) k) (fun k=>g.ay.length-k) fun k hk=>?_;obtain ⟨hk,he⟩:=hk;refine E3 (fun h'=>?_) fun h'=>?_
 ·have h':k<g.ay.length:=by omega
  have hw:=Ax.node_le hg h';have hq:(g.ay.getD k default).ax.length≤16777216:=hw;have hv:=Dm (fun j=>V2 g k (g.ay.getD k default) ((g.ay.getD k default).ax.getD j default))
  repeat' (first|(refine Gy ?_;conv=>whnf)|(refine Gz ?_;conv=>whnf)|(refine ⟨fun h=>?_,fun h=>?_⟩<;>conv=>whnf)|(refine Ao (Tr (g.ay.getD k default) hw) rfl (I7 ?_);conv=>whnf)|(refine D6 ?_;conv=>whnf)|fail)
  ·exact Af A0 rfl rfl ⟨A6 vb (Cx fun p=>by rw [show Li (g.ay.getD k default)=true from D7 (p.2.2.2 k h').1] at h;exact absurd h Bk),trivial⟩
  ·exact Af A0 rfl rfl ⟨A6 vb (Cx fun p=>C6e h (p.2.2.2 k h').2.1),trivial⟩
  rename_i hno
  have hN:I6 (g.ay.getD k default):=Bp (show Li (g.ay.getD k default)=true by cases hq2:Li (g.ay.getD k default)<;>simp_all only [Bool.not_false,A8i])
  have hK:(g.ay.getD k default).kind=1↔k=0:=C6d h;have hO:=hN.2.2.2.2.2.2.2.2;refine Fs [] (fun j:Nat=>[(47,.c (vi j))]) (fun j=>[⟨0,[.c (Ay g.ay),.c (vi g.aq),.c (vi g.cap)]⟩,⟨1,[.c (vi (g.ay.getD k default).kind),.c (vi (g.ay.getD k default).a),.c (vi (g.ay.getD k default).b),.c (De (g.ay.getD k default).ax)]⟩]) (fun j=>[]) (fun j=>j≤(g.ay.getD k default).ax.length∧Mv (fun j=>V2 g k (g.ay.getD k default) ((g.ay.getD k default).ax.getD j default)) j) (fun j=>(g.ay.getD k default).ax.length-j) fun j hj=>?_;obtain ⟨hj,hej⟩:=hj;refine E3 (fun h2=>?_) fun h2=>?_
  ·have h2:j<(g.ay.getD k default).ax.length:=by first|omega|(simp only [Cp] at h2;omega)
   have hb:=hO _ (Am (d:=default) h2)
   repeat' (first|(refine Gy ?_;conv=>whnf)|(refine Gz ?_;conv=>whnf)|(refine ⟨fun h=>?_,fun h=>?_⟩<;>conv=>whnf)|(refine D6 ?_;conv=>whnf)|fail)
   all_goals try (refine Af A0 rfl rfl ⟨A6 vb (Cx fun p=>?_),trivial⟩;have q:=(p.2.2.2 k h').2.2 _ (Am (d:=default) h2);clear p hej he hv hu hN hK hO;simp only [V2,A1j] at q;simp only [Es] at * <;>omega)
   all_goals
    refine Co [] (j+1) ⟨by omega,Dl hej (by clear hej he hv hu hN hK hO;simp only [V2,A1j];simp only [Es] at * <;>omega)⟩ A7 ⟨rfl,trivial⟩ trivial
  have e:j=(g.ay.getD k default).ax.length:=by first|omega|(simp only [Cp] at h2;omega)
  refine B6 ?_;refine Co [] (k+1) ⟨by omega,Dl he ⟨hN,hK,Io (e▸hej)⟩⟩ A7 ⟨rfl,trivial⟩ trivial
 have e:k=g.ay.length:=by omega
 exact Af A0 rfl rfl ⟨A6 vb (D7 ⟨by simp only [Es] at * <;>omega,by simp only [Es] at * <;>omega,by simp only [Es] at * <;>omega,e▸he⟩),trivial⟩
def B19 {α:Type} (l:List α) (k:Nat) (x:α):List α:=l.take k++x::l.drop k
theorem N1 (l:List Al)(n:Nat):Fc n fun i=>Al.c (l.getD i default):=by
 intro i hi c hc;simp only [Al.c,C7,K0,Ld] at hc
 rcases hc with rfl|rfl|rfl|rfl<;>exact ⟨_,rfl⟩
variable {k : Nat}
theorem B5p {α:Type} [Inhabited α] (e:α→List Ad)(l:List α)(hk:k≤l.length):Hl k (fun i=>e (l.getD i default))=Iw e (l.take k):=by
 rw [←W8,G2,Nat.min_eq_left hk];unfold Hl;simp only [List.flatMap_def]
 congr 1
 apply A8g
 intro i hi;have hi:=Fk.1 hi;rw [show (l.take k).getD i default=l.getD i default by simp [List.getD,Wn,hi]]
theorem D1m {α:Type} [Inhabited α] (e:α→List Ad)(l:List α)(hk:k≤l.length)(pre post:List AV):pre++Iw e l++post=pre++Hl k (fun i=>e (l.getD i default))++(Iw e (l.drop k)++post):=by
 rw [B5p e l hk,Ci,Ci,←Ci (Iw e (l.take k)),←Jn,Qy]
def Uo (l:List Al) (k:Nat):List Al:=l.take k++List.replicate (l.length+1-k) default
variable {l : List Al}
theorem Ib (hk:k≤l.length):(Uo l k).length=l.length+1:=by
 rw [Uo,Dn,G2,Pl];omega
theorem C5i {i:Nat}(hk:k≤l.length)(hi:i<k):(Uo l k).getD i default=l.getD i default:=by
 unfold Uo;simp only [List.getD];rw [F3 (by rw [G2];omega),Wn,Ah hi]
theorem C5h {i:Nat}(hk:k≤l.length)(hi:k≤i):(Uo l k).getD i default=default:=by
 unfold Uo;simp only [List.getD];rw [F8 (by rw [G2];omega),List.getElem?_replicate]
 split<;>rfl
theorem B39 (hk:k<l.length)(pre post:List AV):pre++Iw Al.c (Uo l k)++post=(pre++Iw Al.c (l.take k))++Iw Al.c [(default:Al)]++(Iw Al.c (List.replicate (l.length-k) (default:Al))++post):=by
 rw [Uo,show l.length+1-k=(l.length-k)+1 by omega,List.replicate_succ,show (default:Al)::List.replicate (l.length-k) default=[default]++List.replicate (l.length-k) default from rfl,Jn,Jn]
 simp only [Ci]
theorem Sq {x:Al}(hk:k≤l.length):(B19 l k x).length=l.length+1:=by
 rw [B19,Dn,Ep,G2,Gm];omega
theorem A14 (l:List Al):(Iw Al.c l).length=l.length * 4:=B26 (es:=4) (fun _=>rfl) l
theorem B4n (l:List Al)(k:Nat)(x:Al)(pre post:List AV):pre++Iw Al.c (B19 l k x)++post=(pre++Iw Al.c (l.take k)++Iw Al.c [x])++Iw Al.c (l.drop k)++post:=by
 rw [B19,show x::l.drop k=[x]++l.drop k from rfl,Jn,Jn]
 simp only [Ci]
set_option maxHeartbeats 4000000 in
theorem A5t (l:List Al)(k:Nat)(x:Al)(hk:k≤l.length)(hl:l.length≤16777216):P1 Tryz.prog (fun _=>True) 263 [] [.one (As l),.one (vi k),.one (As [x])] [] (fun _:Unit=>True) (fun _=>[.one (As (B19 l k x))]):=by
 refine A1e A0 false Tryz.func263 rfl Bk fun B hH hp=>?_;conv=>whnf
 refine C60 A0 rfl rfl rfl rfl rfl rfl rfl (l:=(k:Int)) rfl ⟨by omega,by show (k:Int)≤(l.length:Int);omega⟩ (Ft ?_)
 refine C2 (fun he=>?_) fun he=>?_
 ·have he:(k:Int)=l.length:=eq_of_beq he
  obtain rfl:k=l.length:=by omega
  rw [show B19 l l.length x=l++[x] by unfold B19;rw [H5,List.drop_length]]
  refine Bg A0 rfl (As (l++[x])) (An rfl) Ij (by show l.length+1≤_;omega) (Ag ?_)
  exact V0 A0 () trivial rfl rfl I1
 have he:(k:Int)≠l.length:=Nh.1 he;have hkl:k<l.length:=by omega
 refine ⟨by (have:(([x].length:Nat):Int)=1:=rfl;rw [this];show _∧_;omega),?_⟩
 conv=>whnf
 refine A39 0 4 Al.c l rfl A7 (N1 l _) (fun b off cap pre post p1 p2 p3 p4=>?_);refine Qh 0 0 rfl rfl ?_;refine Qh 29 0 rfl rfl ?_;refine D2z A0 rfl rfl rfl rfl rfl (Go.Sx.Ft A0 false ?_);conv=>whnf
 refine C2 (fun hc=>?_) fun hc=>?_
 ·have hc:cap<l.length+1:=by
   have:=Bp hc
   have e1:(([x].length:Nat):Int)=1:=rfl;omega
  have hcl:cap=l.length:=by omega
  refine Lj A0 rfl ⟨by omega,by omega,by omega,fun h=>by (try cases h),by omega⟩ (off * 4) k cap Ef Ef Ef (Go.Sx.Ft A0 false ?_);conv=>whnf
  refine ⟨by (have e1:(([x].length:Nat):Int)=1:=rfl;rw [e1];show _∧_;omega),?_⟩
  conv=>whnf
  refine ⟨by (have e1:(([x].length:Nat):Int)=1:=rfl;rw [e1];show _∧_;omega),?_⟩
  conv=>whnf
  rw [show ((l.length:Int)+(([x].length:Nat):Int))-(k:Int)=((l.length+1-k:Nat):Int) by have e1:(([x].length:Nat):Int)=1:=rfl;omega]
  refine D2x (kb:=2) (k:=l.length+1-k) (row:=fun i=>Al.c (l.getD i default)) A0 rfl rfl rfl rfl rfl rfl rfl rfl rfl rfl rfl rfl pre (Iw Al.c (l.drop k)++post) (by exact D1m Al.c l hk pre post) (by exact p1) rfl Bk (by exact fun _ _=>rfl) (by exact N1 l _) A7 A7 A7 rfl (fun i=>Al.c ((Uo l k).getD i default)) (fun i hi=>by rw [C5i hk hi]) (fun i hi _=>by rw [C5h hk hi];rfl) (Go.Sx.Ft A0 false ?_);conv=>whnf
  rw [show (Ad.sl (k+(l.length+1-k)) 4 fun i=>Al.c ((Uo l k).getD i default))=Mu 4 Al.c (Uo l k) by unfold Mu;rw [Ib hk];congr 1;omega]
  refine A39 3 4 Al.c (Uo l k) rfl (by rw [Ib hk];omega) (N1 _ _) (fun b2 off2 cap2 pre2 post2 q1 q2 q3 q4=>?_);rw [Ib hk] at q2 q4;refine Qh 9 3 rfl rfl ?_;refine Qh 41 3 rfl rfl ?_;refine Lj A0 rfl ⟨by omega,by rw [Ib hk];omega,by rw [Ib hk];omega,fun _=>by rw [Ib hk];omega,by omega⟩ (off2 * 4+k * 4) (l.length+1-k) (cap2-k) Ef (by rw [Ib hk];simp) Ef (Go.Sx.Ft A0 false ?_);conv=>whnf
  refine C4m (kb:=4) A0 rfl rfl rfl rfl rfl rfl rfl rfl rfl rfl (by exact N1 [x] _) (by exact Nat.one_pos) rfl (by show 1≤_;omega) (pre2++Iw Al.c (l.take k)) (Iw Al.c [(default:Al)]) (Iw Al.c (List.replicate (l.length-k) (default:Al))++post2) (by exact B39 hkl pre2 post2) (by rw [Dn,A14,G2,q1];omega) (by rfl) (Go.Sx.Ft A0 false ?_)
  conv=>whnf
  have t1:(l.take k).length=k:=by rw [G2];omega
  have t2:(l.drop k).length=l.length-k:=Gm;have e1:(([x].length:Nat):Int)=1:=rfl;rw [show Hl [x].length (fun i=>Al.c ([x].getD i default))=Iw Al.c [x] from W8 Al.c [x]]
  refine Jd rfl (E4 0 rfl (E4 1 rfl (E4 2 rfl (E4 3 rfl (E4 5 rfl (E4 6 rfl ?_))))));refine Lw (s':=?_) 4 rfl Ak ?_ ?_;rotate_left;refine Go.Sx.Ft A0 false ?_;conv=>whnf
  refine Lj A0 rfl ⟨by omega,by rw [Ib hk];omega,by rw [Ib hk];omega,fun _=>by rw [Ib hk];omega,by omega⟩ (off2 * 4+(k+1) * 4) (l.length-k) (cap2-(k+1)) (by rw [e1];rfl) (by rw [Ib hk,e1];omega) (by rw [e1];rfl) (Go.Sx.Ft A0 false ?_);conv=>whnf
  exact C8
  refine Lw (s':=?_) 7 rfl Ak ?_ ?_;rotate_left;refine Go.Sx.Ft A0 false ?_;conv=>whnf
  refine Lj A0 rfl ⟨by omega,by omega,by omega,fun _=>by omega,by omega⟩ (off * 4+k * 4) (l.length-k) (cap-k) Ef Ef Ef (Go.Sx.Ft A0 false ?_);conv=>whnf
  exact C8
  refine Np [8] [] Ak ?_;refine La (s':=?_) rfl Dt ?_ ?_;rotate_left;refine Go.Sx.Ft A0 false ?_;conv=>whnf
  refine C4n (kb:=4) (kb2:=2) A0 rfl rfl rfl rfl rfl rfl rfl rfl rfl rfl rfl (pre2++Iw Al.c (l.take k)++Iw Al.c [x]) (Iw Al.c (List.replicate (l.length-k) (default:Al))) post2 (pre++Iw Al.c (l.take k)) (Iw Al.c (l.drop k)) post (by simp only [Ci]) (by rw [Dn,Dn,A14,A14,t1,q1];simp;omega) (by rw [A14,A14,t2,Pl]) (by rw [←Qy k l,Jn,Qy];simp only [Ci]) (by rw [Dn,A14,t1,p1]) (by rw [A14,t2,show Nat.min (l.length-k) (l.length-k)=_ from Nat.min_self _]) (by exact C7g Al.c _) (Go.Sx.Ft A0 false ?_)
  conv=>whnf
  exact C8
  refine Lt A0 Ak Dt (GW.out (Go.Sx.Ft A0 false ?_));conv=>whnf
  refine B5a Tryz.prog 6 4 off2 4 Al.c (B19 l k x) pre2 post2 rfl (by exact (B4n l k x pre2 post2).symm) (by exact q1) (fun _=>rfl) (N1 _ _) (by exact q3) (by exact ⟨by rw [Sq hk];exact q2,by rw [Sq hk];exact q4⟩) rfl rfl rfl (by rw [Ib hk,Sq hk]) ?_;exact V0 A0 () trivial rfl rfl I1
 have hc:l.length+1≤cap:=by
  have:=Cy hc
  have e1:(([x].length:Nat):Int)=1:=rfl;omega
 have t1:(l.take k).length=k:=by rw [G2];omega
 have t2:(l.drop k).length=l.length-k:=Gm;have e1:(([x].length:Nat):Int)=1:=rfl;have hp4:4≤post.length:=by have q:=Kl 4 (show 1≤cap-l.length from by omega);omega
 refine ⟨by (rw [e1];show _∧_;omega),?_⟩
 conv=>whnf
 refine Lj A0 rfl (by refine ⟨by omega,by omega,by omega,?_,by omega⟩;intro h;exact absurd h Ef) (off * 4) (l.length+1) cap Ef (by rw [e1];rfl) Ef (Go.Sx.Ft A0 false ?_);conv=>whnf
 refine ⟨by (rw [e1];show _∧_;omega),?_⟩
 conv=>whnf
 refine Lj A0 rfl ⟨by omega,by omega,by omega,fun _=>by omega,by omega⟩ (off * 4+(k+1) * 4) (l.length-k) (cap-(k+1)) (by rw [e1];rfl) (by rw [e1];omega) (by rw [e1];rfl) (D23 0 A0 false ?_);conv=>whnf
 refine C2r (kb:=2) A0 rfl rfl rfl rfl rfl rfl rfl rfl rfl rfl rfl rfl (by exact Nat.one_pos) rfl rfl rfl (by rw [Dn,Dn];omega) (Go.Sx.Ft A0 false ?_);conv=>whnf
 refine Ar ?_
 have k1:l.take (k+1)=l.take k++[l.getD k default]:=by
  rw [B3c hkl]
  simp [List.getD,hkl]
 have c1:pre++Iw Al.c l++post=(pre++Iw Al.c (l.take (k+1)))++(Iw Al.c (l.drop (k+1))++post.take 4)++post.drop 4:=by
  conv=>lhs;rw [←Qy (k+1) l,Jn,←Qy 4 post]
  simp only [Ci]
 have c2:pre++Iw Al.c l++post=(pre++Iw Al.c (l.take k))++Iw Al.c (l.drop k)++post:=by
  conv=>lhs;rw [←Qy k l,Jn]
  simp only [Ci]
 have c3:(pre++Iw Al.c (l.take (k+1)))++Iw Al.c (l.drop k)++post.drop 4=(pre++Iw Al.c (l.take k))++Iw Al.c [l.getD k default]++(Iw Al.c (l.drop k)++post.drop 4):=by
  rw [k1,Jn];simp only [Ci]
 have t3:(l.take (k+1)).length=k+1:=by rw [G2];omega
 have t4:(l.drop (k+1)).length=l.length-(k+1):=Gm;have t5:(post.take 4).length=4:=by rw [G2];omega
 refine Jd rfl (E4 0 rfl (E4 1 rfl (E4 2 rfl (E4 3 rfl (E4 5 rfl (E4 6 rfl ?_))))));refine Lw (s':=?_) 4 rfl Ak ?_ ?_;rotate_left;refine Go.Sx.Ft A0 false ?_;conv=>whnf
 refine Lj A0 rfl ⟨by omega,by omega,by omega,fun _=>by omega,by omega⟩ (off * 4+(k+1) * 4) (l.length-k) (cap-(k+1)) (by rw [e1];rfl) (by rw [e1];omega) (by rw [e1];rfl) (Go.Sx.Ft A0 false ?_);conv=>whnf
 exact C8
 refine Lw (s':=?_) 7 rfl Ak ?_ ?_;rotate_left;refine Go.Sx.Ft A0 false ?_;conv=>whnf
 refine Lj A0 rfl ⟨by omega,by omega,by omega,fun _=>by omega,by omega⟩ (off * 4+k * 4) (l.length+1-k) (cap-k) Ef Ef Ef (Go.Sx.Ft A0 false ?_);conv=>whnf
 exact C8
 refine Np [8] [] Ak ?_;refine La (s':=?_) rfl Dt ?_ ?_;rotate_left;refine Go.Sx.Ft A0 false ?_;conv=>whnf
 refine C4n (kb:=2) (kb2:=2) A0 rfl rfl rfl rfl rfl rfl rfl rfl rfl rfl rfl (pre++Iw Al.c (l.take (k+1))) (Iw Al.c (l.drop (k+1))++post.take 4) (post.drop 4) (pre++Iw Al.c (l.take k)) (Iw Al.c (l.drop k)) post (by exact c1) (by rw [Dn,A14,t3,p1]) (by rw [Dn,A14,A14,t2,t4,t5];omega) (by exact c2) (by rw [Dn,A14,t1,p1]) (by rw [A14,t2,show Nat.min (l.length+1-k) (l.length-k)=l.length-k from Nat.min_eq_right A7]) (by exact C7g Al.c _) (Go.Sx.Ft A0 false ?_)
 conv=>whnf
 exact C8
 refine Lt A0 Ak Dt (GW.out (Go.Sx.Ft A0 false ?_));conv=>whnf
 rw [c3];refine Lj A0 rfl ⟨by omega,by omega,by omega,fun _=>by omega,by omega⟩ (off * 4+k * 4) (l.length+1-k) (cap-k) Ef Ef Ef (Go.Sx.Ft A0 false ?_);conv=>whnf
 refine C4m (kb:=2) A0 rfl rfl rfl rfl rfl rfl rfl rfl rfl rfl (by exact N1 [x] _) (by exact Nat.one_pos) rfl (by show 1≤_;omega) (pre++Iw Al.c (l.take k)) (Iw Al.c [l.getD k default]) (Iw Al.c (l.drop k)++post.drop 4) rfl (by rw [Dn,A14,t1,p1]) (by rfl) (Go.Sx.Ft A0 false ?_)
 conv=>whnf
 rw [show Hl [x].length (fun i=>Al.c ([x].getD i default))=Iw Al.c [x] from W8 Al.c [x]]
 refine B5a Tryz.prog 6 2 off 4 Al.c (B19 l k x) pre (post.drop 4) rfl (by rw [B4n];simp only [Ci]) (by exact p1) (fun _=>rfl) (N1 _ _) (by exact p3) (by exact ⟨by rw [Sq hk];exact hc,by rw [Sq hk,Gm];omega⟩) rfl rfl rfl (by rw [Sq hk]) ?_;exact V0 A0 () trivial rfl rfl I1
end Go.Proofs.YtmhcebdkjgkmlaaGreatDoor
