/- Part 36 of the proof that each of the laws FnTotals returns true for every input. No conditions. -/
import Derived.Test.YtdendlkeiaccpaaGreatP35
import Derived.Shelf.SlSortCmp.NoneTotal
import Derived.Test.YtdendlkeiaccpaaGreatP9

set_option linter.unusedSimpArgs false
set_option linter.unusedVariables false
set_option maxRecDepth 100000
namespace Go.Proofs.YtdendlkeiaccpaaGreat
open Go.Sx
def A2w:Go.Shelf.Ren:=⟨fun| 6=>133| 15=>170| 14=>169| 28=>198| 29=>199| 20=>190| 21=>191| 22=>192| 23=>193| 24=>194| 25=>195| 26=>196| 27=>197| 46=>215| 47=>216| 48=>217| 49=>218| 50=>219| 57=>242|n=>n,fun| 22=>27| 24=>60| 25=>133| 3=>3| 39=>136| 0=>0| 53=>207| 55=>209| 4=>4| 46=>201| 45=>200| 50=>183| 5=>5| 9=>9| 66=>217| 70=>221| 76=>231| 77=>232|n=>n,fun|n=>n⟩
theorem A9m:Go.Proofs.SlLaysF0.n6 Tryz.prog A2w:= {
 mixed:=by kernel_rfl,
 f6:=⟨ "slices.SortFunc[[]loop.example/g00973/impl.Record,loop.example/g00973/impl.Record]",by decide,Tryz.func133.trans (congrArg some A7)⟩,
 f14:=⟨ "slices.pdqsortCmpFunc[loop.example/g00973/impl.Record]",by decide,Tryz.func169.trans (congrArg some A7)⟩,
 f15:=Tryz.func170.trans (congrArg some A7),
 f20:=⟨ "slices.insertionSortCmpFunc[loop.example/g00973/impl.Record]",by decide,Tryz.func190.trans (congrArg some A7)⟩,
 f21:=⟨ "slices.heapSortCmpFunc[loop.example/g00973/impl.Record]",by decide,Tryz.func191.trans (congrArg some A7)⟩,
 f22:=⟨ "slices.breakPatternsCmpFunc[loop.example/g00973/impl.Record]",by decide,Tryz.func192.trans (congrArg some A7)⟩,
 f23:=⟨ "slices.choosePivotCmpFunc[loop.example/g00973/impl.Record]",by decide,Tryz.func193.trans (congrArg some A7)⟩,
 f24:=⟨ "slices.reverseRangeCmpFunc[loop.example/g00973/impl.Record]",by decide,Tryz.func194.trans (congrArg some A7)⟩,
 f25:=⟨ "slices.partialInsertionSortCmpFunc[loop.example/g00973/impl.Record]",by decide,Tryz.func195.trans (congrArg some A7)⟩,
 f26:=⟨ "slices.partitionEqualCmpFunc[loop.example/g00973/impl.Record]",by decide,Tryz.func196.trans (congrArg some A7)⟩,
 f27:=⟨ "slices.partitionCmpFunc[loop.example/g00973/impl.Record]",by decide,Tryz.func197.trans (congrArg some A7)⟩,
 f28:=Tryz.func198.trans (congrArg some A7),
 f29:=Tryz.func199.trans (congrArg some A7),
 f46:=⟨ "slices.siftDownCmpFunc[loop.example/g00973/impl.Record]",by decide,Tryz.func215.trans (congrArg some A7)⟩,
 f47:=Tryz.func216.trans (congrArg some A7),
 f48:=Tryz.func217.trans (congrArg some A7),
 f49:=⟨ "slices.medianAdjacentCmpFunc[loop.example/g00973/impl.Record]",by decide,Tryz.func218.trans (congrArg some A7)⟩,
 f50:=⟨ "slices.medianCmpFunc[loop.example/g00973/impl.Record]",by decide,Tryz.func219.trans (congrArg some A7)⟩,
 f57:=⟨ "slices.order2CmpFunc[loop.example/g00973/impl.Record]",by decide,Tryz.func242.trans (congrArg some A7)⟩,
 t0:=Tryz.underlying0,
 a0:=Tryz.isAgg0,
 z0:=Tryz.sizeOf0,
 v0:=Tryz.zeroValue0,
 t3:=Tryz.underlying3,
 a3:=Tryz.isAgg3,
 z3:=Tryz.sizeOf3,
 v3:=Tryz.zeroValue3,
 t4:=Tryz.underlying4,
 a4:=Tryz.isAgg4,
 z4:=Tryz.sizeOf4,
 v4:=Tryz.zeroValue4,
 t5:=Tryz.underlying5,
 a5:=Tryz.isAgg5,
 z5:=Tryz.sizeOf5,
 v5:=Tryz.zeroValue5,
 t9:=Tryz.underlying9,
 a9:=Tryz.isAgg9,
 z9:=Tryz.sizeOf9,
 v9:=Tryz.zeroValue9,
 t22:=Tryz.underlying27,
 a22:=Tryz.isAgg27,
 z22:=Tryz.sizeOf27,
 v22:=Tryz.zeroValue27,
 t25:=Tryz.underlying133,
 a25:=Tryz.isAgg133,
 z25:=Tryz.sizeOf133,
 v25:=Tryz.zeroValue133,
 t39:=Tryz.underlying136,
 a39:=Tryz.isAgg136,
 z39:=Tryz.sizeOf136,
 v39:=Tryz.zeroValue136,
 t45:=Tryz.underlying200,
 a45:=Tryz.isAgg200,
 z45:=Tryz.sizeOf200,
 v45:=Tryz.zeroValue200,
 t46:=Tryz.underlying201,
 a46:=Tryz.isAgg201,
 z46:=Tryz.sizeOf201,
 v46:=Tryz.zeroValue201,
 t50:=Tryz.underlying183,
 a50:=Tryz.isAgg183,
 z50:=Tryz.sizeOf183,
 v50:=Tryz.zeroValue183,
 t53:=Tryz.underlying207,
 a53:=Tryz.isAgg207,
 z53:=Tryz.sizeOf207,
 v53:=Tryz.zeroValue207,
 t55:=Tryz.underlying209,
 a55:=Tryz.isAgg209,
 z55:=Tryz.sizeOf209,
 v55:=Tryz.zeroValue209,
 t66:=Tryz.underlying217,
 a66:=Tryz.isAgg217,
 z66:=Tryz.sizeOf217,
 v66:=Tryz.zeroValue217,
 t70:=Tryz.underlying221,
 a70:=Tryz.isAgg221,
 z70:=Tryz.sizeOf221,
 v70:=Tryz.zeroValue221,
 t76:=Tryz.underlying231,
 a76:=Tryz.isAgg231,
 z76:=Tryz.sizeOf231,
 v76:=Tryz.zeroValue231,
 t77:=Tryz.underlying232,
 a77:=Tryz.isAgg232,
 z77:=Tryz.sizeOf232,
 v77:=Tryz.zeroValue232}
def Kx (r:A9):List Value:=[.int .i64 r.op,.int .i64 r.stamp.epoch,.int .i64 r.stamp.turn,.int .i64 r.key,.int .i64 r.val]
theorem A8v (r:A9):A9.c r=(Kx r).map Ae.val:=rfl
theorem B2d {w w':World}(h:Go.Sx.Fx w.heap.size w w'):∃q os,w'=Go.Sort.grow (w.drewN q) os:=by
 refine ⟨w'.drawn-w.drawn,w'.heap.extract w.heap.size w'.heap.size,?_⟩
 obtain ⟨h1,h2,h3,h4,h5,h6⟩:=h
 cases w with
 |mk heap tape drawn os output=>
  cases w' with
  |mk heap' tape' drawn' os' output'=>
   simp only at h1 h2 h3 h4 h5 h6
   subst h1 h2 h3
   simp only [Go.Sort.grow,World.drewN,World.mk.injEq,true_and,and_true]
   refine ⟨?_,by omega⟩
   apply Array.ext_getElem?
   intro i
   by_cases hi:i<heap.size
   ·rw [Array.getElem?_append_left hi]
    exact h5 i hi
   rw [Array.getElem?_append_right Ab,Array.getElem?_extract]
   by_cases hi2:i<heap'.size
   ·rw [if_pos Ab]
    congr 1
    omega
   rw [if_neg Ab,Array.getElem?_eq_none Ab]
theorem B54:Go.Sort.SWO (ltOf G2):=by
 have e:∀x y,ltOf G2 x y=Ia x y:=fun _ _=>rfl
 refine ⟨fun x=>?_,fun x y z h g=>?_,fun x y z h g=>?_⟩
 ·rw [e,←Bool.not_eq_true,Lc]
  omega
 ·rw [e] at *
  rw [Lc] at *
  omega
 rw [e,←Bool.not_eq_true,Lc] at *
 omega
theorem A3i {xs:List A9}{d':Array A9}(hp:Go.Sort.PermIn 0 xs.toArray.size xs.toArray d')(hs:Go.Sort.SortedIn (ltOf G2) 0 xs.toArray.size d'):d'=(Cv xs).toArray:=by
 have h:=Go.Sort.sorted_unique_holds (lt:=ltOf G2) B54 (fun x y h1 h2=>Uu x y (by show (!Ia y x)=true;rw [show Ia y x=false from h2];rfl) (by show (!Ia x y)=true;rw [show Ia x y=false from h1];rfl)) xs.toArray d' hp hs
 exact Array.ext' (by rw [h];rfl)
theorem A6k {w w':World}{e:Ending}{n:Int}(h:Kf w w' [.one (vi n)] e):e= .returned (.int .i64 n)∧Go.Sx.Fx w.heap.size w w':=by
 obtain ⟨hb,rs,fps,he,hl,ho,_⟩:=h
 match rs,hl with
 | [r],_=>
  have:=ho 0 _ rfl
  simp only [List.getD_cons_zero] at this
  have e1:r= .int .i64 n:=by
   change C1 w' (vi n) r (fps 0) at this
   generalize fps 0=g at this
   cases this;rfl
  subst e1
  exact ⟨he,hb⟩
theorem A1i (w:World)(x:A9):Ib w (fun _=>False) (.agg x.c) (.agg (Kx x).toArray):=by
 refine ⟨Kx x,rfl,rfl,fun i c hc=>?_⟩
 rw [A8v] at hc
 rw [List.getElem?_map] at hc
 cases hv:(Kx x)[i]? with
 |none=>rw [hv] at hc;cases hc
 |some v=>
  rw [hv] at hc
  obtain rfl:Ae.val v=c:=by simpa using hc
  have e:(Kx x).getD i undef=v:=by simp [List.getD,hv]
  rw [e]
  have h1:v.oneCell'=true:=by
   have hm:=List.mem_of_getElem? hv
   simp only [Kx,List.mem_cons,List.not_mem_nil,or_false] at hm
   rcases hm with rfl|rfl|rfl|rfl|rfl<;>rfl
  exact .val v h1
theorem B6g (hcmp : ∀ a b : A9, Bi Tryz.prog 134 [.agg a.c, .agg b.c] [.one (vi (G2 a b))]) (blk off size : Nat) (w : World) : CmpLays Tryz.prog 134 #[] Kx 5 G2 blk off size w := by
  intro m os dk _ x y
  refine ((hcmp x y).2 _ [.agg (Kx x).toArray, .agg (Kx y).toArray] rfl (fun i z hz => ?_)).mono fun e w' hg => ?_
  · match i, hz with
    | 0, hz => obtain rfl : Fo.agg x.c = z := by simpa using hz
               exact A1i _ x
    | 1, hz => obtain rfl : Fo.agg y.c = z := by simpa using hz
               exact A1i _ y
    | i + 2, hz => simp at hz
  · obtain ⟨he, hb⟩ := A6k hg
    exact ⟨he, B2d hb⟩
theorem A9a (xs:List A9)(i:Nat):xs.toArray[i]! =xs.getD i default:=by
 simp [List.getD,List.getElem!_eq_getElem?_getD]
theorem Y8 (x:A9){j:Nat}(hj:j<5):∃v,(Kx x)[j]? =some v∧(Kx x)[j]! =v∧(A9.c x)[j]? =some (.val v)∧v.oneCell'=true:=by
 have e:j=0∨j=1∨j=2∨j=3∨j=4:=by omega
 rcases e with rfl|rfl|rfl|rfl|rfl<;>exact ⟨_,rfl,rfl,rfl,rfl⟩
theorem A0l (xs:List A9){i j:Nat}(hi:i<xs.length)(hj:j<5):(Go.Sort.flatK Kx 5 xs.toArray)[i * 5+j]! =(Kx (xs.getD i default))[j]! :=by
 have h1:(i * 5+j) / 5=i:=by omega
 have h2:(i * 5+j) % 5=j:=by omega
 rw [Go.Sort.get_flatK _ _ _ _ (by simp only [List.size_toArray];omega),h1,h2,A9a]
set_option maxHeartbeats 1000000 in
theorem B53 (hcmp:∀a b:A9,Bi Tryz.prog 134 [.agg a.c,.agg b.c] [.one (vi (G2 a b))])(xs:List A9)(hx:xs.length≤1000000):A7y Tryz.prog 133 (.one (Aa xs)) (.one (Aa (Cv xs))) [.fn 134 []] []:=by
 refine ⟨⟨_,Tryz.func133,by decide,rfl⟩,fun w v fp us ho hnd hl hro=>?_⟩
 match us,hl with
 | [u],_=>
  obtain ⟨vs,hu,hvl,_⟩:Ib w (fun b=>b∈fp) (.fn 134 []) u:=hro 0 _ rfl
  obtain rfl:vs=[]:=List.eq_nil_of_length_eq_zero hvl
  subst hu
  have hnone:∀p:Option Addr,xs.length=0→v= .slice p 0 0→fp=[]→Hh w (.one (Aa xs)) v fp→Calls Tryz.prog 133 [v,.func (.func 134) #[] #[]].toArray w fun e w'=>e= .returned (Hk [])∧Zo (fun b=>b∈fp) w w'∧∃fp',Hh w' (.one (Aa (Cv xs))) v fp'∧fp'.Nodup∧∀b∈fp',b∈fp∨w.heap.size≤b:=fun p h0 hv hf hoa=>by
   obtain rfl:xs=[]:=List.eq_nil_of_length_eq_zero h0
   subst hv hf
   refine (AnyF.slices_SortFunc_none A9m p 0 (.func (.func 134) #[] #[]) w).mono fun e w' hq=>?_
   obtain ⟨he,hq⟩:=hq
   have hb:Go.Sx.Fx w.heap.size w w':=by
    first
    |(obtain rfl:=hq;exact Go.Sx.Fx.refl _ _)
    |(obtain ⟨os,rfl⟩:=hq;exact Tf w 0 os)
    |(obtain ⟨q,os,rfl⟩:=hq;exact Tf w q os)
   refine ⟨he,⟨hb.os,hb.tape,hb.output,hb.size,fun k hk _=>hb.block k hk,hb.drawn⟩,[],?_,List.nodup_nil,fun b hb=>by cases hb⟩
   have e:Cv ([]:List A9)=[]:=List.mergeSort_nil
   rw [e]
   show C1 w' (.sl 0 5 _) (.slice p 0 0) []
   cases p with
   |none=>exact .nil _ _
   |some a=>
    obtain ⟨b,o,sp⟩:=a
    cases hoa with
    |emp=>exact .emp _ _ _ _
  have hoa:=ho
  change C1 w (.sl xs.length 5 fun i=>A9.c (xs.getD i default)) v fp at ho
  generalize hn:xs.length=n at ho
  generalize hrow:(fun i=>A9.c (xs.getD i default))=row at ho
  cases ho with
  |nil=>exact hnone none hn rfl rfl hoa
  |emp es row b o=>exact hnone (some ⟨b,o,none⟩) hn rfl rfl hoa
  |sl n es row b off cap ty cells fps hcap hc hb hs hl' hr=>
   subst hn hrow
   have hbl:b<w.heap.size:=(Array.getElem?_eq_some_iff.1 hb).1
   have hcell:∀i j v,i<xs.length→j<5→(Kx (xs.getD i default))[j]? =some v→cells.getD ((off+i) * 5+j) undef=v∧fps (i * 5+j)=[]:=fun i j v hi hj hv=>by
    have h1:(A9.c (xs.getD i default))[j]? =some (.val v):=by rw [A8v,List.getElem?_map,hv];rfl
    have h2:=hr i j _ hi h1
    generalize cells.getD ((off+i) * 5+j) undef=y at h2 ⊢
    generalize fps (i * 5+j)=g at h2 ⊢
    cases h2
    exact ⟨rfl,rfl⟩
   have hfp:(List.range (xs.length * 5)).flatMap fps=[]:=by
    rw [List.flatMap_eq_nil_iff]
    intro t ht
    have ht:=List.mem_range.1 ht
    obtain ⟨v,hv,_,_,_⟩:=Y8 (xs.getD (t / 5) default) (show t % 5<5 by omega)
    have:=(hcell (t / 5) (t % 5) v Ab Ab hv).2
    rwa [show t / 5 * 5+t % 5=t by omega] at this
   have hH:Go.Sort.HoldsK Kx 5 w b (off * 5) xs.toArray:=by
    intro t ht
    rw [Go.Sort.size_flatK,List.size_toArray] at ht
    obtain ⟨v,hv,hv2,_,_⟩:=Y8 (xs.getD (t / 5) default) (show t % 5<5 by omega)
    have h1:=(hcell (t / 5) (t % 5) v Ab Ab hv).1
    have h2:=A0l xs (i:=t / 5) (j:=t % 5) Ab Ab
    rw [show t / 5 * 5+t % 5=t by omega,hv2] at h2
    rw [show (off+t / 5) * 5+t % 5=off * 5+t by omega] at h1
    have hlt:off * 5+t<cells.size:=by
     have:(off+cap) * 5=off * 5+cap * 5:=Nat.add_mul _ _ _
     omega
    refine ⟨?_,?_⟩
    ·simp only [World.cell?,hb]
     rw [h2,←h1]
     simp [Array.getD,hlt]
    simp only [World.frozen?,hb]
    simp
   refine (AnyQ.slices_SortFunc A9m 5 Tryz.isAgg60 Tryz.sizeOf60 Kx (fun _=>rfl) (fun x v hv=>by simp only [Kx,List.mem_cons,List.not_mem_nil,or_false] at hv;rcases hv with rfl|rfl|rfl|rfl|rfl<;>rfl) G2 B54 134 #[] b (off * 5) cap xs.toArray w (enters_of Tryz.func134 A7 rfl) (B6g hcmp b (off * 5) xs.toArray.size w) hH hbl (by rw [List.size_toArray];omega)).mono fun e w' hq=>?_
   obtain ⟨he,d',q,os,hp,hso,rfl⟩:=hq
   obtain rfl:=A3i hp hso
   have hlen:=Gc xs
   have hz:(Go.Sort.flatK Kx 5 (Cv xs).toArray).size=xs.length * 5:=by rw [Go.Sort.size_flatK,List.size_toArray,hlen]
   have hblk:(sortWorldK Kx 5 w b (off * 5) q (Cv xs).toArray os).heap[b]? =some (.cells (Go.Sort.putCells id (off * 5) (Go.Sort.flatK Kx 5 (Cv xs).toArray) cells) ty (0,0)):=by
    unfold sortWorldK
    rw [Go.Sort.heap_grow_old _ _ (by simp [Go.Sort.putRowK,Go.Sort.putRow,Go.Sort.mapBlock,Go.Sort.ahead];exact hbl)]
    simp [Go.Sort.putRowK,Go.Sort.putRow,Go.Sort.mapBlock,Go.Sort.ahead,Array.getElem?_modify,hb,Go.Sort.onCells]
   refine ⟨he,⟨rfl,rfl,rfl,?_,fun k hk hne=>?_,?_⟩,b::(List.range (xs.length * 5)).flatMap (fun _=>[]),?_,?_,fun c hcm=>?_⟩
   ·show w.heap.size≤((w.heap.modify b _)++os).size
    rw [Array.size_append,Array.size_modify]
    omega
   ·have hkb:b≠k:=fun e=>hne (by rw [←e];exact List.mem_cons_self ..)
    unfold sortWorldK
    rw [Go.Sort.heap_grow_old _ _ (by simp [Go.Sort.putRowK,Go.Sort.putRow,Go.Sort.mapBlock,Go.Sort.ahead];exact hk)]
    simp [Go.Sort.putRowK,Go.Sort.putRow,Go.Sort.mapBlock,Go.Sort.ahead,Array.getElem?_modify,hkb]
   ·show w.drawn≤w.drawn+q
    omega
   ·rw [←hlen] at hcap ⊢
    refine C1.sl _ 5 _ b off cap ty _ (fun _=>[]) hcap hc hblk ?_ (fun i _=>rfl) (fun i j c hi hjc=>?_)
    ·simp only [Go.Sort.putCells,Array.size_mapIdx];exact hs
    have hj:j<5:=(List.getElem?_eq_some_iff.1 hjc).1
    obtain ⟨v,hv,hv2,hv3,hv4⟩:=Y8 ((Cv xs).getD i default) hj
    have hjc:(A9.c ((Cv xs).getD i default))[j]? =some c:=hjc
    rw [hv3] at hjc
    obtain rfl:Ae.val v=c:=by simpa using hjc
    have hlt:(off+i) * 5+j<cells.size:=by
     have h1:(off+cap) * 5=off * 5+cap * 5:=Nat.add_mul _ _ _
     have h2:(off+i) * 5=off * 5+i * 5:=Nat.add_mul _ _ _
     omega
    have hcv:(Go.Sort.putCells id (off * 5) (Go.Sort.flatK Kx 5 (Cv xs).toArray) cells).getD ((off+i) * 5+j) undef=v:=by
     have h2:(off+i) * 5=off * 5+i * 5:=Nat.add_mul _ _ _
     have h3:=A0l (Cv xs) hi hj
     rw [hv2] at h3
     rw [Array.getD_eq_getD_getElem?,Go.Sort.putCells,Array.getElem?_mapIdx,Array.getElem?_eq_getElem hlt]
     simp only [Option.map_some,Option.getD_some,id]
     rw [if_pos ⟨by omega,by rw [hz];omega⟩,show (off+i) * 5+j-off * 5=i * 5+j by omega]
     exact h3
    rw [hcv]
    exact .val v hv4
   ·have e0:(List.range (xs.length * 5)).flatMap (fun _=>([]:List Nat))=[]:=by rw [List.flatMap_eq_nil_iff];intro _ _;rfl
    rw [e0]
    exact List.nodup_cons.2 ⟨by simp,List.nodup_nil⟩
   have e0:(List.range (xs.length * 5)).flatMap (fun _=>([]:List Nat))=[]:=by rw [List.flatMap_eq_nil_iff];intro _ _;rfl
   rw [e0,List.mem_singleton] at hcm
   subst hcm
   exact .inl (List.mem_cons_self ..)
set_option maxHeartbeats 4000000 in
theorem Yg (x:A6)(h:x.w≤16777216)(hS:Bi Tryz.prog 99 [.one (Aa (I4 x))] [.one (Aa (Cv (I4 x)))]):Bi Tryz.prog 70 [.agg x.c] [.one (Aa (Dc x))]:=by
 have hl:=A6.workers_le h
 have hk2:=A6.links_le h
 refine Bd A0 false Tryz.func70 rfl Aw fun W=>?_
 conv=>whnf
 refine B5r 3 5 (fun i=>A9.c (([]:List A9).getD i default)) rfl ?_
 refine Bv A0 false [] (fun k:Nat=>[(11,.c (vi k))]) (fun k=>[⟨0,[.c (Br x.graph.nodes),.c (vi x.graph.workers),.c (vi x.graph.cap),.c (Ar x.workers),.c (Ct x.links),.c (C9 x.tokens),.c (Ch x.news)]⟩]) (fun k=>[⟨1,Aa ((x.workers.take k).flatMap Kc)⟩])
  (fun k=>k≤x.workers.length) (fun k=>x.workers.length-k) 0 (Nat.zero_le _) ⟨F3,trivial⟩ Cf ⟨F2,trivial⟩ Cj A7 (fun k hk=>?_)
 conv=>whnf
 refine Es (fun h'=>?_) fun h'=>?_<;>conv=>whnf
 ·have h':k<x.workers.length:=by omega
  have hb:=A47 x k h h'
  (repeat refine Am ?_)
  refine Je rfl ?_
  refine Bu A0 false 0 rfl rfl A7 rfl (A4 B1) ?_
  refine Bu A0 false 1 rfl rfl A7 rfl (A4 B1) ?_
  refine Bu A0 false 4 rfl rfl A7 rfl (A4 B1) ?_
  refine Dt (s':=?_) 2 rfl A7 ?_ ?_
  rotate_left
  refine A8 ?_
  (repeat refine Am ?_)
  exact Bh
  refine Ek [3,5] A7 ⟨?_,?_,trivial⟩
  focus
   refine A8 ?_
   refine Av A0 rfl rfl rfl rfl rfl rfl rfl rfl rfl rfl rfl (Aa ((x.workers.take k).flatMap Kc++(x.workers.getD k default).queue)) (F8 5 A9.c ((x.workers.take k).flatMap Kc) (x.workers.getD k default).queue) (fun _=>Cd _) (by (simp only [Int.toNat_natCast];omega)) (A8 ?_)
   refine Eu ?_
   refine Dt (s':=?_) 5 rfl A7 ?_ ?_
   rotate_left
   refine A8 ?_
   (repeat refine Am ?_)
   exact Bh
   refine Ek [6] A7 ⟨?_,trivial⟩
   refine A8 ?_
   refine Av A0 rfl rfl rfl rfl rfl rfl rfl rfl rfl rfl rfl (Aa ((x.workers.take k).flatMap Kc++(x.workers.getD k default).queue++(x.workers.getD k default).staged)) (F8 5 A9.c ((x.workers.take k).flatMap Kc++(x.workers.getD k default).queue) (x.workers.getD k default).staged) (fun _=>Cd _) (by (rw [List.length_append];simp only [Int.toNat_natCast];omega)) (A8 ?_)
   refine Eu ?_
   refine Bu A0 false 7 rfl rfl A7 rfl (A4 B1) ?_
   refine Mj A7 (A8 ?_)
  rotate_left 1
  focus
   refine A8 ?_
   (repeat refine Am ?_)
   refine Eu ?_
   refine Ek [3] A7 ⟨?_,trivial⟩
   refine A8 ?_
   refine Av A0 rfl rfl rfl rfl rfl rfl rfl rfl rfl rfl rfl (Aa ((x.workers.take k).flatMap Kc++(x.workers.getD k default).queue)) (F8 5 A9.c ((x.workers.take k).flatMap Kc) (x.workers.getD k default).queue) (fun _=>Cd _) (by (simp only [Int.toNat_natCast];omega)) (A8 ?_)
   refine Eu ?_
   refine Ek [6] A7 ⟨?_,trivial⟩
   refine A8 ?_
   refine Av A0 rfl rfl rfl rfl rfl rfl rfl rfl rfl rfl rfl (Aa ((x.workers.take k).flatMap Kc++(x.workers.getD k default).queue++(x.workers.getD k default).staged)) (F8 5 A9.c ((x.workers.take k).flatMap Kc++(x.workers.getD k default).queue) (x.workers.getD k default).staged) (fun _=>Cd _) (by (rw [List.length_append];simp only [Int.toNat_natCast];omega)) (A8 ?_)
   refine Eu ?_
   refine Bu A0 false 7 rfl rfl A7 rfl (A4 B1) ?_
   refine Mj A7 (A8 ?_)
  all_goals
   (repeat refine Am ?_)
   refine B6 [(1,4)] (k+1) Ab Ab ⟨rfl,trivial⟩ ⟨congrArg Aa (by rw [Jp Kc x.workers k h',List.append_assoc];rfl),trivial⟩ Cf A7 Cj A7
 obtain rfl:k=x.workers.length:=by omega
 rw [List.take_length]
 (repeat refine Am ?_)
 refine Bv A0 false [] (fun j:Nat=>[(26,.c (vi j))]) (fun j=>[⟨0,[.c (Br x.graph.nodes),.c (vi x.graph.workers),.c (vi x.graph.cap),.c (Ar x.workers),.c (Ct x.links),.c (C9 x.tokens),.c (Ch x.news)]⟩]) (fun j=>[⟨1,Aa (x.workers.flatMap Kc++(x.links.take j).flatMap (fun l=>l.queue))⟩])
  (fun j=>j≤x.links.length) (fun j=>x.links.length-j) 0 (Nat.zero_le _) ⟨F3,trivial⟩ Cf ⟨F2,trivial⟩ Cj A7 (fun j hj=>?_)
 conv=>whnf
 refine Es (fun h'=>?_) fun h'=>?_<;>conv=>whnf
 ·have h':j<x.links.length:=by omega
  have hb:=A06 x j h h'
  (repeat refine Am ?_)
  refine Av A0 rfl rfl rfl rfl rfl rfl rfl rfl rfl rfl rfl (Aa (x.workers.flatMap Kc++(x.links.take j).flatMap (fun l=>l.queue)++(x.links.getD j default).queue)) (F8 5 A9.c (x.workers.flatMap Kc++(x.links.take j).flatMap (fun l=>l.queue)) (x.links.getD j default).queue) (fun _=>Cd _) (by (rw [List.length_append];simp only [Int.toNat_natCast];omega)) (A8 ?_)
  (repeat refine Am ?_)
  refine B6 [(1,3)] (j+1) Ab Ab ⟨rfl,trivial⟩ ⟨congrArg Aa (by rw [Jp (fun l:B8=>l.queue) x.links j h',List.append_assoc]),trivial⟩ Cf A7 Cj A7
 obtain rfl:j=x.links.length:=by omega
 rw [List.take_length,←I5]
 (repeat refine Am ?_)
 rw [show Dc x=Cv (I4 x) from rfl]
 refine Cx (hS) rfl (A8 ?_)
 refine B2 A0 rfl rfl ?_
 exact At
set_option maxHeartbeats 4000000 in
theorem W4 (xs:List A9)(hx:xs.length≤100000)(hS:Bi Tryz.prog 99 [.one (Aa xs)] [.one (Aa (Cv xs))]):Bi Tryz.prog 69 [.one (Aa xs)] [.one (Cw (Ef (Cv xs)))]:=by
 have hp:=J4 xs
 have hyl:=Gc xs
 refine Bd A0 false Tryz.func69 rfl Aw fun W=>?_
 conv=>whnf
 refine Az (hS) rfl (A8 ?_)
 generalize Cv xs=ys at *
 refine B5r 3 3 (fun i=>Bq.c (([]:List Bq).getD i default)) rfl ?_
 refine Bv A0 false [] (fun k:Nat=>[(10,.c (vi k))]) (fun k=>[]) (fun k=>[⟨0,Cw (Ef (ys.take k))⟩])
  (fun k=>k≤ys.length) (fun k=>ys.length-k) 0 (Nat.zero_le _) ⟨F3,trivial⟩ trivial ⟨F2,trivial⟩ Cj A7 (fun k hk=>?_)
 conv=>whnf
 refine Es (fun hlt=>?_) fun hlt=>?_<;>conv=>whnf
 ·have hlt:k<ys.length:=by omega
  obtain ⟨h1,h2⟩:=Lp hp k Ab
  have hl:=N2 (ys.take k)
  have ht:(ys.take k).length=k:=by rw [List.length_take];omega
  have hsu:=Lq hlt
  generalize Ef (ys.take k)=t at *
  (repeat refine Am ?_)
  refine Az (A0r (ys.getD k default).stamp) rfl (A8 ?_)
  refine ⟨fun hs=>?_,fun hs=>?_⟩<;>conv=>whnf
  ·have hs:Dp (ys.getD k default).stamp=false:=by simpa using hs
   repeat refine B7 ?_
   (repeat refine Am ?_)
   rw [A38 hs] at hsu
   refine B6 [] (k+1) Ab Ab ⟨rfl,trivial⟩ ⟨congrArg Cw hsu.symm,trivial⟩ trivial A7 Cj A7
  have hs:Dp (ys.getD k default).stamp=true:=by simpa using hs
  repeat refine B7 ?_
  first|(refine B5 7 rfl [0,1,2,3,4,5,6,7,8,9,10,11,12] A7 (A8 ?_))
  refine ⟨fun hg=>?_,fun hg=>?_⟩<;>conv=>whnf
  ·have hg:0<t.length:=by have:=of_decide_eq_true hg;omega
   have ek:((t.length:Int)-1).toNat=t.length-1:=by omega
   repeat refine B7 ?_
   refine ⟨fun hc=>?_,fun hc=>?_⟩<;>conv=>whnf
   ·have hc:stB (t.getD (t.length-1) default).stamp (ys.getD k default).stamp=true:=by rw [←ek];exact hc
    have hst:=Mc.1 hc
    have hm:=h1.ok _ (B9 (d:=(default:Bq)) (show t.length-1<t.length by omega))
    have e2:J7 t (ys.getD k default).stamp=t.set (t.length-1) ⟨(t.getD (t.length-1) default).stamp,(t.getD (t.length-1) default).n+1⟩:=by
     unfold J7
     rw [if_pos hs,if_pos ⟨hg,hst⟩,hst]
    repeat refine B7 ?_
    rw [ek]
    (repeat refine Am ?_)
    refine Al (j:=((t.length:Int)-1)) A0 rfl rfl rfl rfl rfl rfl rfl rfl (Cw (t.set (t.length-1) ⟨(t.getD (t.length-1) default).stamp,(t.getD (t.length-1) default).n+1⟩)) (by (rw [ek];exact C0 (e:=Bq.c) (x:=⟨(t.getD (t.length-1) default).stamp,(t.getD (t.length-1) default).n+1⟩) Ab rfl)) (A8 ?_)
    (repeat refine Am ?_)
    refine B6 [] (k+1) Ab Ab ⟨rfl,trivial⟩ ⟨congrArg Cw (e2.symm.trans hsu.symm),trivial⟩ trivial A7 Cj A7
   have hc:stB (t.getD (t.length-1) default).stamp (ys.getD k default).stamp=false:=by rw [←ek];exact hc
   have e2:=Pm (t:=t) hs (fun p=>by rw [←Bool.not_eq_true,Mc] at hc;exact hc p.2)
   repeat refine B7 ?_
   (repeat refine Am ?_)
   refine Av A0 rfl rfl rfl rfl rfl rfl rfl rfl rfl rfl rfl (Cw (t++[⟨(ys.getD k default).stamp,1⟩])) (Ad rfl) Bj Ab (A8 ?_)
   (repeat refine Am ?_)
   refine B6 [(0,3)] (k+1) Ab Ab ⟨rfl,trivial⟩ ⟨congrArg Cw (e2.symm.trans hsu.symm),trivial⟩ trivial A7 Cj A7
  have hg:t.length=0:=by have:=of_decide_eq_false hg;omega
  have e2:=Pm (t:=t) hs (fun p=>by have:=p.1;omega)
  repeat refine B7 ?_
  (repeat refine Am ?_)
  refine Av A0 rfl rfl rfl rfl rfl rfl rfl rfl rfl rfl rfl (Cw (t++[⟨(ys.getD k default).stamp,1⟩])) (Ad rfl) Bj Ab (A8 ?_)
  (repeat refine Am ?_)
  refine B6 [(0,3)] (k+1) Ab Ab ⟨rfl,trivial⟩ ⟨congrArg Cw (e2.symm.trans hsu.symm),trivial⟩ trivial A7 Cj A7
 obtain rfl:k=ys.length:=by omega
 rw [List.take_length]
 repeat refine B7 ?_
 refine B2 A0 rfl rfl ?_
 exact At
end Go.Proofs.YtdendlkeiaccpaaGreat
