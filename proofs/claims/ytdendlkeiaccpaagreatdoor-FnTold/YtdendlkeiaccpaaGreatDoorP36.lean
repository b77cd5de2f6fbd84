/- Part 36 of the proof that each of the laws FnTold returns true for every input. No conditions. -/
import Derived.Test.YtdendlkeiaccpaaGreatDoorP34
import Derived.Test.YtdendlkeiaccpaaGreatDoorP18
import Derived.Test.YtdendlkeiaccpaaGreatDoorP6
import Derived.Test.YtdendlkeiaccpaaGreatDoorP35

set_option linter.unusedSimpArgs false
set_option linter.unusedVariables false
set_option maxRecDepth 100000
namespace Go.Proofs.YtdendlkeiaccpaaGreatDoor
open Go.Sx
def Lc (x:A5) (f t:Int):ByteArray:=
 if Do (Di x.graph.workers f t) 0 (x.links.length-1) then
  let l:=x.links.getD (Di x.graph.workers f t).toNat default
  P7 l.queue.length++(⟨#[32]⟩:ByteArray)++P7 l.credits++(⟨#[32]⟩:ByteArray)++P7 l.back
 else (⟨#[]⟩:ByteArray)
theorem Zu (x:A5)(f t:Int)(hx:x.w≤1040000)(ox:x.ok):Bo Tryz.prog 35 [.agg x.c,.one (vi f),.one (vi t)] [.one (vs (Lc x f t))]:=by
 have hl:=A5.links_le hx
 refine Bh A0 false Tryz.func35 rfl Aw fun W=>?_
 conv=>whnf
 have hi:=Og x.graph.workers f t
 repeat' (first|(refine L6 ?_;conv=>whnf)|(refine L7 ?_;conv=>whnf)|(refine ⟨fun h=>?_,fun h=>?_⟩<;>conv=>whnf)|(refine B5 (J1 x.graph f t ox.1.2.1) rfl (A8 ?_))|(refine B5 (Fh _ _ _) rfl (A8 ?_))|(refine Ft ?_;conv=>whnf)|fail)
 ·exact B3 A0 rfl rfl ⟨congrArg vs (by rw [Lc,if_neg];simpa using h),trivial⟩
 have hw:Do (Di x.graph.workers f t) 0 (x.links.length-1)=true:=by simpa using h
 have hb:=Go.Sx.As.1 hw
 have hk:(Di x.graph.workers f t).toNat<x.links.length:=by omega
 have hle:=A5.link_le hx hk
 have hq:(x.links.getD (Di x.graph.workers f t).toNat default).queue.length≤1040000:=by simp only [Bv.w] at hle;omega
 have ho:=ox.2.2.1.2 _ (B8 (d:=default) hk)
 have d1:Ee .i64 ((x.links.getD (Di x.graph.workers f t).toNat default).queue.length:Int):=by show _∧_;omega
 have e1:=D7 d1
 have e2:=D7 ho.2.2.1
 have e3:=D7 ho.2.2.2.1
 (repeat refine An ?_)
 first|(refine B7 5 rfl [0,1,2,5,6,10,11,3,4,7,8,9,12,13,14] A7 (A8 ?_))
 repeat' (first|(refine L6 ?_;conv=>whnf)|(refine L7 ?_;conv=>whnf)|(refine ⟨fun h=>?_,fun h=>?_⟩<;>conv=>whnf)|(refine B5 (Eb _ d1) rfl (A8 ?_))|(refine B5 (Eb _ ho.2.2.1) rfl (A8 ?_))|(refine B5 (Eb _ ho.2.2.2.1) rfl (A8 ?_))|(refine Ft ?_;conv=>whnf)|fail)
 exact B3 A0 rfl rfl ⟨congrArg vs (by rw [Lc,if_pos hw]),trivial⟩
theorem Z3 (x:A5)(f t:Int)(hx:x.w≤1040000)(ox:x.ok):G2 Tryz.prog Tab 34 [.agg x.c,.one (vi f),.one (vi t)] [.one (vs (Lc x f t))]:=by
 have hl:=A5.links_le hx
 refine Kw A0 false Tryz.func34 rfl Aw fun W hW=>?_
 conv=>whnf
 have hi:=Og x.graph.workers f t
 repeat' (first|(refine L6 ?_;conv=>whnf)|(refine L7 ?_;conv=>whnf)|(refine ⟨fun h=>?_,fun h=>?_⟩<;>conv=>whnf)|(refine B5 (Wc x.graph f t) rfl (A8 ?_))|(refine B5 (A3q _ _ _) rfl (A8 ?_))|(refine Ft ?_;conv=>whnf)|fail)
 ·exact B3 A0 rfl rfl ⟨congrArg vs (by rw [Lc,if_neg];simpa using h),trivial⟩
 have hw:Do (Di x.graph.workers f t) 0 (x.links.length-1)=true:=by simpa using h
 have hb:=Go.Sx.As.1 hw
 have hk:(Di x.graph.workers f t).toNat<x.links.length:=by omega
 have hle:=A5.link_le hx hk
 have hq:(x.links.getD (Di x.graph.workers f t).toNat default).queue.length≤1040000:=by simp only [Bv.w] at hle;omega
 have ho:=ox.2.2.1.2 _ (B8 (d:=default) hk)
 have d1:Ee .i64 ((x.links.getD (Di x.graph.workers f t).toNat default).queue.length:Int):=by show _∧_;omega
 have e1:=D7 d1
 have e2:=D7 ho.2.2.1
 have e3:=D7 ho.2.2.2.1
 (repeat refine An ?_)
 first|(refine B7 5 rfl [0,1,2,5,6,10,11,3,4,7,8,9,12,13,14] A7 (A8 ?_))
 repeat' (first|(refine L6 ?_;conv=>whnf)|(refine L7 ?_;conv=>whnf)|(refine ⟨fun h=>?_,fun h=>?_⟩<;>conv=>whnf)|(refine F0 (E9 _ d1) Dk hW rfl (A8 ?_))|(refine F0 (E9 _ ho.2.2.1) Dk hW rfl (A8 ?_))|(refine F0 (E9 _ ho.2.2.2.1) Dk hW rfl (A8 ?_))|(refine Ft ?_;conv=>whnf)|fail)
 exact B3 A0 rfl rfl ⟨congrArg vs (by rw [Lc,if_pos hw]),trivial⟩
theorem B5m (a:Option Addr)(n cp:Nat):Bo Tryz.prog 5 [.one (.val (.slice a n cp))] [.one (vb (decide ((n:Int)>1_048_576)))]:=by
 refine Bh A0 false Tryz.func5 rfl Aw fun W=>?_
 conv=>whnf
 exact B3 A0 rfl rfl ⟨by rfl,trivial⟩
theorem Y6 (l:List ByteArray)(hl:l.length≤1000000):Bo Tryz.prog 38 [.one (G0 l),.one (G0 l)] [.one (vb true)]:=by
 refine Bh A0 false Tryz.func38 rfl Aw fun W=>?_
 conv=>whnf
 refine ⟨fun hn=>have hn:=bne_iff_ne.1 hn;?_,fun hn=>have hn:=bne_eq_false_iff_eq.1 hn;?_⟩<;>conv=>whnf
 ·omega
 refine C0 A0 false [] (fun k:Nat=>[(5,.c (vi k))]) (fun k=>[]) (fun k=>[])
  (fun k=>k≤l.length) (fun k=>l.length-k) 0 (Nat.zero_le _) ⟨G9,trivial⟩ trivial trivial Cr A7 (fun k hk=>?_)
 conv=>whnf
 refine Fi (fun h=>?_) fun h=>?_<;>conv=>whnf
 ·have h:k<l.length:=by omega
  first|(refine B7 6 rfl [0,1,2,3,4,5,6,7,8] A7 (A8 ?_))
  (repeat refine An ?_)
  refine Ui (by rw [Q2];rfl) ?_
  conv=>whnf
  (repeat refine An ?_)
  refine B9 [] (k+1) Ab Ab ⟨rfl,trivial⟩ trivial trivial A7 Cr A7
 refine B3 A0 rfl rfl ?_
 exact Ay
theorem Oa (x:A5):(Iw x).length=x.workers.length+x.tokens.length+(Ic x).length:=by
 simp only [Iw,List.length_append,List.length_map,List.length_range]
set_option maxHeartbeats 4000000 in
theorem B5k (xs:List UInt8):G2 Tryz.prog Tab 4 [.one (Sp xs)] [.one (vb true)]:=by
 refine B22 A0 false Tryz.func4 rfl Aw fun W hW a cp hp=>?_
 conv=>whnf
 have hH:∀w,Ax.rel ⟨W,fun _=>False⟩ w→HT w:=fun _ _=>trivial
 refine B5 (B5m a xs.length cp) rfl (A8 ?_)
 refine ⟨fun hb=>?_,fun hb=>?_⟩<;>conv=>whnf
 ·exact B3 A0 rfl rfl ⟨rfl,trivial⟩
 have hb:(xs.length:Int)≤16777216:=by have:=of_decide_eq_false hb;omega
 let d:Dx:=⟨a,xs.length,cp,fun i=>(xs.getD i default).toNat,fun i=>by have:=(xs.getD i default).toNat_lt;omega,by omega⟩
 have hp:Kc ⟨W,fun _=>False⟩ d.pins:=hp
 refine P2 (B5f d) hH hp rfl (fun r hr=>go A0 false ?_)
 conv=>whnf
 obtain ⟨c,w⟩:=r
 obtain ⟨hcw,hco⟩:Yd c:=hr
 refine P2 (B5c d) hH hp rfl (fun r2 hr2=>go A0 false ?_)
 conv=>whnf
 obtain ⟨u,f,t⟩:=r2
 obtain ⟨huw,huo⟩:Yd u:=hr2
 refine P2 (A9i d) hH hp rfl (fun x hx=>go A0 false ?_)
 conv=>whnf
 refine P2 (B5e d) hH hp rfl (fun e he=>go A0 false ?_)
 conv=>whnf
 obtain ⟨hew,heo⟩:A8l e:=he
 refine F0 (Rj e heo Ab) Dk hW rfl (A8 ?_)
 refine F0 (Qh e heo Ab) Dk hW rfl (A8 ?_)
 have hcl:=N3 hew
 have hol:(Ic e).length≤(Iw e).length:=by rw [Oa];omega
 have hsp:=Oa e
 first|(refine B7 9 rfl [0,1,3,4,2,5,6,7,8,9,10,12,13,14,11,15,16,17,18,19,21,20,22,23,24,25,26,27,28,29,30,31,32,33,34,35,36,37,38,39,40,41,42,43,44,45,46,47,48,49,50,51,52,53,54,55,56,57] A7 (A8 ?_))
 refine F0 (N8 c w Ab hco) Dk hW rfl (A8 ?_)
 refine B5 (Nr c w Ab hco) rfl (A8 ?_)
 (repeat refine An ?_)
 refine Of (Q2 _) ?_
 conv=>whnf
 repeat refine Bj ?_
 refine F0 (Z3 u f t Ab huo) Dk hW rfl (A8 ?_)
 repeat refine Bj ?_
 refine B5 (Zu u f t Ab huo) rfl (A8 ?_)
 repeat refine Bj ?_
 refine Of (Q2 _) ?_
 conv=>whnf
 repeat refine Bj ?_
 refine F0 (Lz x hx) Dk hW rfl (A8 ?_)
 repeat refine Bj ?_
 refine B5 (Qz x hx) rfl (A8 ?_)
 repeat refine Bj ?_
 refine Of (Q2 _) ?_
 conv=>whnf
 repeat refine Bj ?_
 refine B5 (Rz e heo Ab) rfl (A8 ?_)
 repeat refine Bj ?_
 refine B5 (Y6 (Iw e) Ab) rfl (A8 ?_)
 repeat refine Bj ?_
 refine B5 (R1 e heo Ab) rfl (A8 ?_)
 repeat refine Bj ?_
 refine B5 (Y6 (Ic e) Ab) rfl (A8 ?_)
 repeat refine Bj ?_
 refine Of (by rw [beq_iff_eq];omega) ?_
 conv=>whnf
 repeat refine Bj ?_
 have hz:G3 ⟨0,0,7,0⟩=(⟨#[48,32,48,32,55,32,48]⟩:ByteArray):=by kernel_rfl
 refine F0 (Lz ⟨0,0,7,0⟩ ⟨E6 Aw Aw,E6 Aw Aw,E6 Aw Aw,E6 Aw Aw⟩) Dk hW rfl (A8 ?_)
 rw [hz]
 repeat refine Bj ?_
 exact B3 A0 rfl rfl ⟨congrArg vb (Q2 _).symm,trivial⟩
end Go.Proofs.YtdendlkeiaccpaaGreatDoor
