/- Part 35 of the proof that each of the laws FnTold returns true for every input. No conditions. -/
import Derived.Test.YtdendlkeiaccpaaGreatDoorP6
import Derived.Test.YtdendlkeiaccpaaGreatDoorP34
import Derived.Shelf.Strings.OnBuilder
import Derived.Lib.Walk

set_option linter.unusedSimpArgs false
set_option linter.unusedVariables false
set_option maxRecDepth 100000
namespace Go.Proofs.YtdendlkeiaccpaaGreatDoor
open Go.Sx
def A1l:Go.Shelf.Ren:=⟨fun| 156=>104| 165=>142| 166=>143| 169=>144| 240=>177| 241=>178| 276=>204| 277=>205|n=>n,fun| 31=>50| 9=>9| 3=>3| 4=>4| 0=>0| 20=>20| 72=>147| 76=>151| 70=>145| 37=>22| 75=>150| 127=>182| 164=>207| 5=>5| 80=>153|n=>n,fun|n=>n⟩
theorem Z9:Go.Proofs.Lays.n156 Tryz.prog A1l:= {
 mixed:=by kernel_rfl,
 f156:=Tryz.func104.trans (congrArg some A7),
 f165:=Tryz.func142.trans (congrArg some A7),
 f166:=Tryz.func143.trans (congrArg some A7),
 f169:=Tryz.func144.trans (congrArg some A7),
 f240:=Tryz.func177.trans (congrArg some A7),
 f241:=Tryz.func178.trans (congrArg some A7),
 f276:=Tryz.func204.trans (congrArg some A7),
 f277:=Tryz.func205.trans (congrArg some A7),
 t0:=Tryz.underlying0,
 a0:=Tryz.isAgg0,
 z0:=Tryz.sizeOf0,
 v0:=Tryz.zeroValue0,
 t3:=Tryz.underlying3,
 a3:=Tryz.isAgg3,
 z3:=Tryz.sizeOf3,
 v3:=Tryz.zeroValue3,
 t4:=Tryz.underlying4,
 a4:=Tryz.isAgg4,
 z4:=Tryz.sizeOf4,
 v4:=Tryz.zeroValue4,
 t9:=Tryz.underlying9,
 a9:=Tryz.isAgg9,
 z9:=Tryz.sizeOf9,
 v9:=Tryz.zeroValue9,
 t20:=Tryz.underlying20,
 a20:=Tryz.isAgg20,
 z20:=Tryz.sizeOf20,
 v20:=Tryz.zeroValue20,
 t31:=Tryz.underlying50,
 a31:=Tryz.isAgg50,
 z31:=Tryz.sizeOf50,
 v31:=Tryz.zeroValue50,
 t37:=Tryz.underlying22,
 a37:=Tryz.isAgg22,
 z37:=Tryz.sizeOf22,
 v37:=Tryz.zeroValue22,
 t70:=Tryz.underlying145,
 a70:=Tryz.isAgg145,
 z70:=Tryz.sizeOf145,
 v70:=Tryz.zeroValue145,
 t72:=Tryz.underlying147,
 a72:=Tryz.isAgg147,
 z72:=Tryz.sizeOf147,
 v72:=Tryz.zeroValue147,
 t75:=Tryz.underlying150,
 a75:=Tryz.isAgg150,
 z75:=Tryz.sizeOf150,
 v75:=Tryz.zeroValue150,
 t76:=Tryz.underlying151,
 a76:=Tryz.isAgg151,
 z76:=Tryz.sizeOf151,
 v76:=Tryz.zeroValue151,
 t127:=Tryz.underlying182,
 a127:=Tryz.isAgg182,
 z127:=Tryz.sizeOf182,
 v127:=Tryz.zeroValue182,
 t164:=Tryz.underlying207,
 a164:=Tryz.isAgg207,
 z164:=Tryz.sizeOf207,
 v164:=Tryz.zeroValue207}
def A7i:Go.Shelf.Ren:=⟨fun| 156=>104| 165=>142| 166=>143| 169=>144| 240=>177| 241=>178| 276=>204| 277=>205|n=>n,fun| 31=>50| 9=>9| 3=>3| 4=>4| 0=>0| 20=>20| 72=>147| 76=>151| 70=>145| 37=>22| 75=>150| 127=>182| 164=>207| 5=>5| 80=>153|n=>n,fun|n=>n⟩
theorem B0d:Go.Proofs.Builder.Extra Tryz.prog A7i:= {
 sizeBuilder:=by kernel_rfl,
 liesBuilder:=by kernel_rfl,
 t5:=Tryz.underlying5,
 a5:=Tryz.isAgg5,
 z5:=Tryz.sizeOf5,
 v5:=Tryz.zeroValue5,
 infoByte:=by kernel_rfl,
 cellsByte:=by kernel_rfl,
 sizeByte:=by kernel_rfl,
 neB5:=by decide}
theorem P8 (x:A9):x.dones.length≤x.w:=by simp only [A9.w];omega
theorem Vx (x:A9):x.queue.length+x.staged.length+x.inputs.length≤x.w:=by simp only [A9.w];omega
def Ob (d:Ep):ByteArray:=if d.capped then P7 d.epoch++(⟨#[33]⟩:ByteArray) else P7 d.epoch
theorem A3f {d:Ep}(o:d.ok):(Ob d).size≤22:=by
 have h:=D7 (show Ee .i64 d.epoch from o)
 unfold Ob
 split
 ·rw [ByteArray.size_append];have:((⟨#[33]⟩:ByteArray)).size=1:=rfl;omega
 omega
def El (l:List Ep):List ByteArray:=l.map Ob
theorem S6 (l:List Ep)(k:Nat)(h:k<l.length):El (l.take (k+1))=El (l.take k)++[Ob (l.getD k default)]:=B0p _ _ _ h
theorem Uk (l:List Ep)(k:Nat)(h:k<l.length):Gb (El (l.take (k+1)))=if k=0 then Ob (l.getD k default) else Gb (El (l.take k))++(⟨#[32]⟩:ByteArray)++Ob (l.getD k default):=by
 rw [S6 l k h]
 split
 ·rename_i e;subst e;exact A7f _
 rename_i e
 exact A3u _ _ (by
  intro h0
  have:=congrArg List.length h0
  rw [El,List.length_map,List.length_take] at this
  simp only [List.length_nil] at this
  omega)
theorem A3v (l:List Ep)(k:Nat)(h:k<l.length):Gb (El (l.take (k+1)))=(if 0<k then Gb (El (l.take k))++(⟨#[32]⟩:ByteArray) else Gb (El (l.take k)))++Ob (l.getD k default):=by
 rw [Uk l k h]
 by_cases e:k=0
 ·subst e
  rw [if_pos rfl,if_neg Ab]
  exact (ByteArray.empty_append).symm
 rw [if_neg e,if_pos Ab]
theorem Uj (l:List Ep)(ho:∀d∈l,d.ok)(k:Nat)(hk:k≤l.length):(Gb (El (l.take k))).size≤23 * k:=by
 induction k with
 |zero=>exact Nat.le_refl _
 |succ k ih=>
  have hd:=A3f (ho _ (B8 (d:=default) (show k<l.length by omega)))
  have:=ih Ab
  rw [Uk l k Ab]
  split
  ·omega
  rw [ByteArray.size_append,ByteArray.size_append]
  have h1:((⟨#[32]⟩:ByteArray)).size=1:=rfl
  omega
theorem B3l {w:World}{a:Addr}{v:Value}(h:w.cell? a=some v):a.block<w.heap.size:=by
 by_cases hl:a.block<w.heap.size
 ·exact hl
 exfalso
 unfold World.cell? at h
 rw [Array.getElem?_eq_none Ab] at h
 simp at h
theorem B6o (xs:List ByteArray)(hx:xs.length≤1040000)(hs:(Gb xs).size≤140737488355328):Bo Tryz.prog 104 [.one (G0 xs),.one (vs (⟨#[32]⟩:ByteArray))] [.one (vs (Gb xs))]:=by
 refine ⟨⟨_,Tryz.func104,by decide,rfl⟩,fun w vals hl hv=>?_⟩
 match vals,hl with
 | [v,u],_=>
  have h1:u= .string (⟨#[32]⟩:ByteArray):=Zp (A:=fun _=>False) (hv 1 _ rfl)
  have h0:L5 w (fun _=>False) (G0 xs) v:=hv 0 _ rfl
  subst h1
  rcases B38 h0 with ⟨a,c,rfl,rfl⟩|⟨b,o,c,rfl,hc,hcells⟩
  ·refine (Any.strings_Join_none Z9 B0d a c (⟨#[32]⟩:ByteArray) w).mono ?_
   rintro e w' ⟨rfl,rfl⟩
   exact Ny (by first|exact Go.Sx.Below.refl _ _|exact Go.RowKit.Below.refl _ _) rfl
  by_cases hn:xs=[]
  ·subst hn
   refine (Any.strings_Join_none Z9 B0d _ c (⟨#[32]⟩:ByteArray) w).mono ?_
   rintro e w' ⟨rfl,rfl⟩
   exact Ny (by first|exact Go.Sx.Below.refl _ _|exact Go.RowKit.Below.refl _ _) rfl
  have hb:b<w.heap.size:=by
   obtain ⟨x,r,rfl⟩:=List.exists_cons_of_ne_nil hn
   exact B3l (hcells 0 x rfl)
  refine (Any.strings_Join Z9 B0d b o c xs (⟨#[32]⟩:ByteArray) w hcells hb Ab hc (by rw [Gb,bsz,List.size_toArray] at hs;exact hs)).mono ?_
  rintro e w' ⟨rfl,hw⟩
  exact Ny hw rfl
theorem Wn (x:A9)(ox:x.ok)(hx:x.w≤1040000):Bo Tryz.prog 75 [.agg x.c] [.one (vs (Gb (El x.dones)))]:=by
 have hl:x.dones.length≤1040000:=Nat.le_trans (P8 x) hx
 have ho:∀d∈x.dones,d.ok:=ox.2.2.2.2.2.2.2.2
 refine Bh A0 false Tryz.func75 rfl Aw fun W=>?_
 conv=>whnf
 refine C0 A0 false [] (fun k:Nat=>[(3,.c (vs (Gb (El (x.dones.take k))))),(4,.c (vi k))]) (fun k=>[⟨0,[.c (Ah x.queue),.c (Ah x.staged),.c (Ah x.inputs),.c (Ak x.cells),.c (At x.sums),.c (Ek x.black),.c (Ek x.caps),.c (Hv x.dones)]⟩]) (fun k=>[])
  (fun k=>k≤x.dones.length) (fun k=>x.dones.length-k) 0 (Nat.zero_le _) ⟨G9,G9,trivial⟩ Cf trivial Cr A7 (fun k hk=>?_)
 conv=>whnf
 refine Fi (fun h'=>?_) fun h'=>?_<;>conv=>whnf
 ·have h':k<x.dones.length:=by omega
  have hs:=Uj x.dones ho k Ab
  have od:Ee .i64 (x.dones.getD k default).epoch:=ho _ (B8 (d:=default) h')
  have hd:=D7 od
  have hj:=A3v x.dones k h'
  repeat' (first|(refine L6 ?_;conv=>whnf)|(refine L7 ?_;conv=>whnf)|(refine ⟨fun h=>?_,fun h=>?_⟩<;>conv=>whnf)|(refine B5 (Eb _ od) rfl (A8 ?_))|(refine Gx ?_;conv=>whnf)|fail)
  all_goals
   refine B9 [] (k+1) Ab Ab ⟨congrArg (fun z=>AV.c (vs z)) (by rw [hj,Ob];clear hj hs;simp_all [ByteArray.append_assoc]),rfl,trivial⟩ trivial Cf A7 Cr A7
 have e:k=x.dones.length:=by omega
 exact B3 A0 rfl rfl ⟨congrArg vs (by rw [e,List.take_length]),trivial⟩
theorem Pd (x:A9)(ox:x.ok)(hx:x.w≤1040000):(Gb (El x.dones)).size≤24117248:=by
 have hl:x.dones.length≤1040000:=Nat.le_trans (P8 x) hx
 have h:=Uj x.dones ox.2.2.2.2.2.2.2.2 x.dones.length (Nat.le_refl _)
 rw [List.take_length] at h
 omega
theorem Wa (x:A9)(ox:x.ok)(hx:x.w≤1040000):G2 Tryz.prog Tab 74 [.agg x.c] [.one (vs (Gb (El x.dones)))]:=by
 have hl:x.dones.length≤1040000:=Nat.le_trans (P8 x) hx
 have ho:∀d∈x.dones,d.ok:=ox.2.2.2.2.2.2.2.2
 have hf:=Pd x ox hx
 refine Kw A0 false Tryz.func74 rfl Aw fun W hW=>?_
 conv=>whnf
 refine A7o 3 1 (fun i=>(fun b=>[vs b]) (([]:List ByteArray).getD i default)) rfl ?_
 refine C0 A0 false [] (fun k:Nat=>[(10,.c (vi k))]) (fun k=>[⟨0,[.c (Ah x.queue),.c (Ah x.staged),.c (Ah x.inputs),.c (Ak x.cells),.c (At x.sums),.c (Ek x.black),.c (Ek x.caps),.c (Hv x.dones)]⟩]) (fun k=>[⟨1,G0 (El (x.dones.take k))⟩])
  (fun k=>k≤x.dones.length) (fun k=>x.dones.length-k) 0 (Nat.zero_le _) ⟨G9,trivial⟩ Cf ⟨Eu,trivial⟩ Cr A7 (fun k hk=>?_)
 conv=>whnf
 refine Fi (fun h'=>?_) fun h'=>?_<;>conv=>whnf
 ·have h':k<x.dones.length:=by omega
  have od:Ee .i64 (x.dones.getD k default).epoch:=ho _ (B8 (d:=default) h')
  have hd:=D7 od
  have hj:=S6 x.dones k h'
  have hlen:(El (x.dones.take k)).length≤k:=by simp [El];omega
  (repeat refine An ?_)
  refine F0 (E9 _ od) Dk hW rfl (A8 ?_)
  refine ⟨fun hc=>?_,fun hc=>?_⟩<;>conv=>whnf
  ·have hc:(x.dones.getD k default).capped=true:=hc
   (repeat refine An ?_)
   refine B1 A0 rfl rfl rfl rfl rfl rfl rfl rfl rfl rfl rfl (G0 (El (x.dones.take k)++[P7 (x.dones.getD k default).epoch++(⟨#[33]⟩:ByteArray)])) (Aa rfl) Bg Ab (A8 ?_)
   (repeat refine An ?_)
   refine B9 [(1,4)] (k+1) Ab Ab ⟨rfl,trivial⟩ ⟨congrArg G0 (by rw [hj,Ob,if_pos hc]),trivial⟩ Cf A7 Cr A7
  have hc:(x.dones.getD k default).capped=false:=hc
  (repeat refine An ?_)
  refine B1 A0 rfl rfl rfl rfl rfl rfl rfl rfl rfl rfl rfl (G0 (El (x.dones.take k)++[P7 (x.dones.getD k default).epoch])) (Aa rfl) Bg Ab (A8 ?_)
  (repeat refine An ?_)
  refine B9 [(1,4)] (k+1) Ab Ab ⟨rfl,trivial⟩ ⟨congrArg G0 (by rw [hj,Ob,if_neg (by rw [hc];decide)]),trivial⟩ Cf A7 Cr A7
 have e:k=x.dones.length:=by omega
 have e2:x.dones.take k=x.dones:=by rw [e,List.take_length]
 rw [e2]
 refine B5 (B6o (El x.dones) (by simp [El];omega) Ab) rfl (A8 ?_)
 exact B3 A0 rfl rfl ⟨rfl,trivial⟩
def Cp (x:A5) (w:Int):ByteArray:=
 if Do w 0 (x.workers.length-1) then
  (if Gb (El (x.workers.getD w.toNat default).dones)=(⟨#[]⟩:ByteArray) then
   P7 (x.workers.getD w.toNat default).queue.length++(⟨#[32]⟩:ByteArray)++P7 (x.workers.getD w.toNat default).staged.length++(⟨#[32]⟩:ByteArray)++P7 (x.workers.getD w.toNat default).inputs.length
  else P7 (x.workers.getD w.toNat default).queue.length++(⟨#[32]⟩:ByteArray)++P7 (x.workers.getD w.toNat default).staged.length++(⟨#[32]⟩:ByteArray)++P7 (x.workers.getD w.toNat default).inputs.length++(⟨#[32]⟩:ByteArray)++Gb (El (x.workers.getD w.toNat default).dones))
 else (⟨#[]⟩:ByteArray)
theorem Nr (x:A5)(w:Int)(hx:x.w≤1040000)(ox:x.ok):Bo Tryz.prog 33 [.agg x.c,.one (vi w)] [.one (vs (Cp x w))]:=by
 have hl:=A5.workers_le hx
 refine Bh A0 false Tryz.func33 rfl Aw fun W=>?_
 conv=>whnf
 (repeat refine An ?_)
 refine B5 (Fh w 0 (x.workers.length-1)) rfl (A8 ?_)
 by_cases h1:Do w 0 (x.workers.length-1)=true
 ·have h2:=Go.Sx.As.1 h1
  have hk:w.toNat<x.workers.length:=by omega
  have hw:=Go.Sx.A5.worker_le hx hk
  have hy:(x.workers.getD w.toNat default).w≤1040000:=by omega
  have oy:=ox.2.1.2 _ (B8 (d:=default) hk)
  have h3:=Vx (x.workers.getD w.toNat default)
  have d1:Ee .i64 ((x.workers.getD w.toNat default).queue.length:Int):=by show _∧_;omega
  have d2:Ee .i64 ((x.workers.getD w.toNat default).staged.length:Int):=by show _∧_;omega
  have d3:Ee .i64 ((x.workers.getD w.toNat default).inputs.length:Int):=by show _∧_;omega
  have e1:=D7 d1
  have e2:=D7 d2
  have e3:=D7 d3
  have e4:=Pd _ oy hy
  rw [h1]
  refine Ui B2k ?_
  conv=>whnf
  repeat' (first|(refine L6 ?_;conv=>whnf)|(refine L7 ?_;conv=>whnf)|(refine ⟨fun h=>?_,fun h=>?_⟩<;>conv=>whnf)|(refine B5 (Eb _ d1) rfl (A8 ?_))|(refine B5 (Eb _ d2) rfl (A8 ?_))|(refine B5 (Eb _ d3) rfl (A8 ?_))|(refine B5 (Wn _ oy hy) rfl (A8 ?_))|(refine Gx ?_;conv=>whnf)|(refine B7 4 rfl [0,1,2,5,6,7,11,12,13,3,4,8,9,10,14,15,16] A7 (A8 ?_))|fail)
  ·have hn:¬ Gb (El (x.workers.getD w.toNat default).dones)=(⟨#[]⟩:ByteArray):=fun e=>by rw [e] at h;exact absurd h Aw
   exact B3 A0 rfl rfl ⟨congrArg vs (by rw [Cp,if_pos h1,if_neg hn]),trivial⟩
  have hn:Gb (El (x.workers.getD w.toNat default).dones)=(⟨#[]⟩:ByteArray):=by
   have h':(Gb (El (x.workers.getD w.toNat default).dones)==(⟨#[]⟩:ByteArray))=true:=by simpa using h
   exact B4u h'
  exact B3 A0 rfl rfl ⟨congrArg vs (by rw [Cp,if_pos h1,if_pos hn]),trivial⟩
 have h3:Do w 0 (x.workers.length-1)=false:=by simpa using h1
 rw [h3]
 refine Of B2m ?_
 conv=>whnf
 exact B3 A0 rfl rfl ⟨congrArg vs (by rw [Cp,if_neg h1]),trivial⟩
theorem N8 (x:A5)(w:Int)(hx:x.w≤1040000)(ox:x.ok):G2 Tryz.prog Tab 32 [.agg x.c,.one (vi w)] [.one (vs (Cp x w))]:=by
 have hl:=A5.workers_le hx
 refine Kw A0 false Tryz.func32 rfl Aw fun W hW=>?_
 conv=>whnf
 (repeat refine An ?_)
 refine B5 (A3q w 0 (x.workers.length-1)) rfl (A8 ?_)
 by_cases h1:Do w 0 (x.workers.length-1)=true
 ·have h2:=Go.Sx.As.1 h1
  have hk:w.toNat<x.workers.length:=by omega
  have hw:=Go.Sx.A5.worker_le hx hk
  have hy:(x.workers.getD w.toNat default).w≤1040000:=by omega
  have oy:=ox.2.1.2 _ (B8 (d:=default) hk)
  have h3:=Vx (x.workers.getD w.toNat default)
  have d1:Ee .i64 ((x.workers.getD w.toNat default).queue.length:Int):=by show _∧_;omega
  have d2:Ee .i64 ((x.workers.getD w.toNat default).staged.length:Int):=by show _∧_;omega
  have d3:Ee .i64 ((x.workers.getD w.toNat default).inputs.length:Int):=by show _∧_;omega
  have e1:=D7 d1
  have e2:=D7 d2
  have e3:=D7 d3
  have e4:=Pd _ oy hy
  rw [h1]
  refine Ui B2k ?_
  conv=>whnf
  repeat' (first|(refine L6 ?_;conv=>whnf)|(refine L7 ?_;conv=>whnf)|(refine ⟨fun h=>?_,fun h=>?_⟩<;>conv=>whnf)|(refine F0 (E9 _ d1) Dk hW rfl (A8 ?_))|(refine F0 (E9 _ d2) Dk hW rfl (A8 ?_))|(refine F0 (E9 _ d3) Dk hW rfl (A8 ?_))|(refine F0 (Wa _ oy hy) Dk hW rfl (A8 ?_))|(refine Gx ?_;conv=>whnf)|(refine B7 4 rfl [0,1,2,5,6,7,11,12,13,3,4,8,9,10,14,15,16] A7 (A8 ?_))|fail)
  ·have hn:¬ Gb (El (x.workers.getD w.toNat default).dones)=(⟨#[]⟩:ByteArray):=fun e=>by rw [e] at h;exact absurd h Aw
   exact B3 A0 rfl rfl ⟨congrArg vs (by rw [Cp,if_pos h1,if_neg hn];simp only [ByteArray.append_assoc]),trivial⟩
  have hn:Gb (El (x.workers.getD w.toNat default).dones)=(⟨#[]⟩:ByteArray):=by
   have h':(Gb (El (x.workers.getD w.toNat default).dones)==(⟨#[]⟩:ByteArray))=true:=by simpa using h
   exact B4u h'
  exact B3 A0 rfl rfl ⟨congrArg vs (by rw [Cp,if_pos h1,if_pos hn]),trivial⟩
 have h3:Do w 0 (x.workers.length-1)=false:=by simpa using h1
 rw [h3]
 refine Of B2m ?_
 conv=>whnf
 exact B3 A0 rfl rfl ⟨congrArg vs (by rw [Cp,if_neg h1]),trivial⟩
def F9 (t:D0):ByteArray:=
 if t.going then
  (if t.capped then P7 t.at_++(⟨#[32]⟩:ByteArray)++P7 t.sum++(if t.black then (⟨#[32,98,108,97,99,107]⟩:ByteArray) else (⟨#[32,119,104,105,116,101]⟩:ByteArray))++(⟨#[32,99,97,112,112,101,100]⟩:ByteArray) else P7 t.at_++(⟨#[32]⟩:ByteArray)++P7 t.sum++(if t.black then (⟨#[32,98,108,97,99,107]⟩:ByteArray) else (⟨#[32,119,104,105,116,101]⟩:ByteArray)))
 else (⟨#[114,101,115,116]⟩:ByteArray)
theorem Wq (t:D0)(o:t.ok):Bo Tryz.prog 18 [.agg t.c] [.one (vs (F9 t))]:=by
 obtain ⟨g,a,s,b,c⟩:=t
 have o1:Ee .i64 a:=by simp [D0.ok] at o;exact o.1
 have o2:Ee .i64 s:=by simp [D0.ok] at o;exact o.2
 have d1:=D7 o1
 have d2:=D7 o2
 refine Bh A0 false Tryz.func18 rfl Aw fun W=>?_
 conv=>whnf
 repeat' (first|(refine L6 ?_;conv=>whnf)|(refine L7 ?_;conv=>whnf)|(refine ⟨fun h=>?_,fun h=>?_⟩<;>conv=>whnf)|(refine B5 (Eb _ o1) rfl (A8 ?_))|(refine B5 (Eb _ o2) rfl (A8 ?_))|(refine Gx ?_;conv=>whnf)|(refine B7 3 rfl [0,1,4,5,2,3,6,7,8] A7 (A8 ?_))|fail)
 all_goals (refine B3 A0 rfl rfl ⟨congrArg vs ?_,trivial⟩;simp_all [F9])
theorem Wd (t:D0)(o:t.ok):G2 Tryz.prog Tab 17 [.agg t.c] [.one (vs (F9 t))]:=by
 obtain ⟨g,a,s,b,c⟩:=t
 have o1:Ee .i64 a:=by simp [D0.ok] at o;exact o.1
 have o2:Ee .i64 s:=by simp [D0.ok] at o;exact o.2
 have d1:=D7 o1
 have d2:=D7 o2
 refine Kw A0 false Tryz.func17 rfl Aw fun W hW=>?_
 conv=>whnf
 repeat' (first|(refine L6 ?_;conv=>whnf)|(refine L7 ?_;conv=>whnf)|(refine ⟨fun h=>?_,fun h=>?_⟩<;>conv=>whnf)|(refine F0 (E9 _ o1) Dk hW rfl (A8 ?_))|(refine F0 (E9 _ o2) Dk hW rfl (A8 ?_))|(refine Gx ?_;conv=>whnf)|(refine B7 3 rfl [0,1,4,5,2,3,6,7,8] A7 (A8 ?_))|fail)
 all_goals (refine B3 A0 rfl rfl ⟨congrArg vs ?_,trivial⟩;simp_all [F9])
def Iw (x:A5):List ByteArray:=((List.range x.workers.length).map fun (w:Nat)=>Cp x w)++x.tokens.map F9++Ic x
theorem N3 {x:A5}{n:Nat}(h:x.w≤n):(Iw x).length≤n:=by
 have h1:=Ux x 4
 have h2:=Ta x.workers
 rw [←Q4] at h2
 simp only [A5.w,wS] at h
 simp only [Iw,List.length_append,List.length_map,List.length_range]
 have e:(Ic x).length=(Qr x 4).length:=rfl
 omega
theorem V5 {β:Type}(f:Nat→β)(k:Nat):(List.range (k+1)).map f=(List.range k).map f++[f k]:=by
 rw [List.range_succ,List.map_append]
 rfl
set_option maxHeartbeats 1000000 in
theorem Rz (x:A5)(ox:x.ok)(hx:x.w≤1040000):Bo Tryz.prog 39 [.agg x.c] [.one (G0 (Iw x))]:=by
 have hl:=A5.workers_le hx
 have ht:=A5.tokens_le hx
 have hcl:=N3 hx
 simp only [Iw,List.length_append,List.length_map,List.length_range] at hcl
 refine Bh A0 false Tryz.func39 rfl Aw fun W=>?_
 conv=>whnf
 refine Ed 1 (G0 []) rfl De ?_
 refine C0 A0 false [6] (fun k:Nat=>[(4,.c (vi k))]) (fun k=>[⟨0,[.c (Bp x.graph.nodes),.c (vi x.graph.workers),.c (vi x.graph.cap),.c (Av x.workers),.c (Cy x.links),.c (C9 x.tokens),.c (Cj x.news)]⟩]) (fun k=>[⟨1,G0 ((List.range k).map fun (w:Nat)=>Cp x w)⟩])
  (fun k=>k≤x.workers.length) (fun k=>x.workers.length-k) 0 (Nat.zero_le _) ⟨G9,trivial⟩ Cf ⟨Eu,trivial⟩ Cr A7 (fun k hk=>?_)
 conv=>whnf
 conv=>whnf
 refine Fi (fun h=>?_) fun h=>?_<;>conv=>whnf
 ·have h:k<x.workers.length:=by omega
  (repeat refine An ?_)
  refine B5 (Nr x k hx ox) rfl (A8 ?_)
  refine B1 A0 rfl rfl rfl rfl rfl rfl rfl rfl rfl rfl rfl (G0 (((List.range k).map fun (w:Nat)=>Cp x w)++[Cp x k])) (Aa rfl) Bg (by (simp only [List.length_map,List.length_range];omega)) (A8 ?_)
  (repeat refine An ?_)
  refine B9 [(1,3)] (k+1) Ab Ab ⟨rfl,trivial⟩ ⟨congrArg G0 (V5 (fun (w:Nat)=>Cp x w) k).symm,trivial⟩ Cf A7 Cr A7
 have e1:k=x.workers.length:=by omega
 (repeat refine An ?_)
 refine C0 A0 false [] (fun j:Nat=>[(5,.c (vi j))]) (fun j=>[⟨0,[.c (Bp x.graph.nodes),.c (vi x.graph.workers),.c (vi x.graph.cap),.c (Av x.workers),.c (Cy x.links),.c (C9 x.tokens),.c (Cj x.news)]⟩]) (fun j=>[⟨1,G0 (((List.range k).map fun (w:Nat)=>Cp x w)++(x.tokens.take j).map F9)⟩])
  (fun j=>j≤x.tokens.length) (fun j=>x.tokens.length-j) 0 (Nat.zero_le _) ⟨G9,trivial⟩ Cf ⟨Eu,trivial⟩ Cr A7 (fun j hj=>?_)
 conv=>whnf
 conv=>whnf
 refine Fi (fun h2=>?_) fun h2=>?_<;>conv=>whnf
 ·have h2:j<x.tokens.length:=by omega
  (repeat refine An ?_)
  refine B5 (Wq (x.tokens.getD j default) (ox.2.2.2.1.2 _ (B8 (d:=default) h2))) rfl (A8 ?_)
  refine B1 A0 rfl rfl rfl rfl rfl rfl rfl rfl rfl rfl rfl (G0 (((List.range k).map fun (w:Nat)=>Cp x w)++(x.tokens.take j).map F9++[F9 (x.tokens.getD j default)])) (Aa rfl) Bg B2l (A8 ?_)
  (repeat refine An ?_)
  refine B9 [(1,3)] (j+1) Ab Ab ⟨rfl,trivial⟩ ⟨congrArg G0 (by rw [Qm _ h2,←List.append_assoc]),trivial⟩ Cf A7 Cr A7
 have e2:j=x.tokens.length:=by omega
 (repeat refine An ?_)
 refine Cq (R1 x ox hx) rfl (A8 ?_)
 refine B1 A0 rfl rfl rfl rfl rfl rfl rfl rfl rfl rfl rfl (G0 (((List.range k).map fun (w:Nat)=>Cp x w)++(x.tokens.take j).map F9++Ic x)) (O5 1 _ _ _) (fun _=>Xf _) B2l (A8 ?_)
 refine B3 A0 rfl rfl ⟨?_,trivial⟩
 exact congrArg G0 (by rw [e1,e2,List.take_length];rfl)
set_option maxHeartbeats 1000000 in
theorem Rj (x:A5)(ox:x.ok)(hx:x.w≤1040000):G2 Tryz.prog Tab 30 [.agg x.c] [.one (G0 (Iw x))]:=by
 have hl:=A5.workers_le hx
 have ht:=A5.tokens_le hx
 have hcl:=N3 hx
 simp only [Iw,List.length_append,List.length_map,List.length_range] at hcl
 refine Kw A0 false Tryz.func30 rfl Aw fun W hW=>?_
 conv=>whnf
 refine A7o 3 1 (fun i=>[vs (([]:List ByteArray).getD i default)]) rfl ?_
 refine C0 A0 false [4] (fun k:Nat=>[(10,.c (vi k))]) (fun k=>[⟨0,[.c (Bp x.graph.nodes),.c (vi x.graph.workers),.c (vi x.graph.cap),.c (Av x.workers),.c (Cy x.links),.c (C9 x.tokens),.c (Cj x.news)]⟩]) (fun k=>[⟨1,G0 ((List.range k).map fun (w:Nat)=>Cp x w)⟩])
  (fun k=>k≤x.workers.length) (fun k=>x.workers.length-k) 0 (Nat.zero_le _) ⟨G9,trivial⟩ Cf ⟨Eu,trivial⟩ Cr A7 (fun k hk=>?_)
 conv=>whnf
 conv=>whnf
 refine Fi (fun h=>?_) fun h=>?_<;>conv=>whnf
 ·have h:k<x.workers.length:=by omega
  (repeat refine An ?_)
  refine F0 (N8 x k hx ox) Dk hW rfl (A8 ?_)
  conv=>whnf
  refine B1 A0 rfl rfl rfl rfl rfl rfl rfl rfl rfl rfl rfl (G0 (((List.range k).map fun (w:Nat)=>Cp x w)++[Cp x k])) (Aa rfl) Bg (by (simp only [List.length_map,List.length_range];omega)) (A8 ?_)
  (repeat refine An ?_)
  refine B9 [(1,3)] (k+1) Ab Ab ⟨rfl,trivial⟩ ⟨congrArg G0 (V5 (fun (w:Nat)=>Cp x w) k).symm,trivial⟩ Cf A7 Cr A7
 have e1:k=x.workers.length:=by omega
 (repeat refine An ?_)
 refine C0 A0 false [] (fun j:Nat=>[(23,.c (vi j))]) (fun j=>[⟨0,[.c (Bp x.graph.nodes),.c (vi x.graph.workers),.c (vi x.graph.cap),.c (Av x.workers),.c (Cy x.links),.c (C9 x.tokens),.c (Cj x.news)]⟩]) (fun j=>[⟨1,G0 (((List.range k).map fun (w:Nat)=>Cp x w)++(x.tokens.take j).map F9)⟩])
  (fun j=>j≤x.tokens.length) (fun j=>x.tokens.length-j) 0 (Nat.zero_le _) ⟨G9,trivial⟩ Cf ⟨Eu,trivial⟩ Cr A7 (fun j hj=>?_)
 conv=>whnf
 conv=>whnf
 refine Fi (fun h2=>?_) fun h2=>?_<;>conv=>whnf
 ·have h2:j<x.tokens.length:=by omega
  (repeat refine An ?_)
  refine F0 (Wd (x.tokens.getD j default) (ox.2.2.2.1.2 _ (B8 (d:=default) h2))) Dk hW rfl (A8 ?_)
  conv=>whnf
  refine B1 A0 rfl rfl rfl rfl rfl rfl rfl rfl rfl rfl rfl (G0 (((List.range k).map fun (w:Nat)=>Cp x w)++(x.tokens.take j).map F9++[F9 (x.tokens.getD j default)])) (Aa rfl) Bg B2l (A8 ?_)
  (repeat refine An ?_)
  refine B9 [(1,4)] (j+1) Ab Ab ⟨rfl,trivial⟩ ⟨congrArg G0 (by rw [Qm _ h2,←List.append_assoc]),trivial⟩ Cf A7 Cr A7
 have e2:j=x.tokens.length:=by omega
 (repeat refine An ?_)
 refine B49 (Qh x ox hx) Dk hW rfl (A8 ?_)
 refine B1 A0 rfl rfl rfl rfl rfl rfl rfl rfl rfl rfl rfl (G0 (((List.range k).map fun (w:Nat)=>Cp x w)++(x.tokens.take j).map F9++Ic x)) (O5 1 _ _ _) (fun _=>Xf _) B2l (A8 ?_)
 refine B3 A0 rfl rfl ⟨?_,trivial⟩
 exact congrArg G0 (by rw [e1,e2,List.take_length];rfl)
end Go.Proofs.YtdendlkeiaccpaaGreatDoor
