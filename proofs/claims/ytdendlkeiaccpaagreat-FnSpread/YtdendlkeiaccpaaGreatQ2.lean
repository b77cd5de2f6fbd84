/- Part 2 of the proof that each of the laws FnSpread returns true for every input. No conditions. -/
import Derived.Test.YtdendlkeiaccpaaGreatQ1
import GoSem.ClaimChange
import Derived.DataReads

set_option linter.unusedSimpArgs false
set_option linter.unusedVariables false
namespace Go.Sx
variable {P : Program} {T : List (TypeId × TI)}
inductive Cap where
 |one (c:Ai)
 |ptr (cs:List Ai)
inductive Gy where
 |one (c:Ai)
 |agg (cs:List Ai)
 |ptr (cs:List Ai)
 |fn (f:FuncId) (caps:List Cap)
def O5 (w:World) (A:Nat→Prop) (cs:List Ai) (v:Value):Prop:=
 ∃b o cap,v= .pointer (some ⟨b,o,none⟩)∧Qi w A (.sl 1 cs.length fun _=>cs) (.slice (some ⟨b,o,none⟩) 1 cap)
def B6w (w:World) (A:Nat→Prop):Cap→Value→Prop
 | .one c,v=>Qi w A c v
 | .ptr cs,v=>O5 w A cs v
def Ms (w:World) (A:Nat→Prop):Gy→Value→Prop
 | .one c,v=>Qi w A c v
 | .agg cs,v=>∃vs:List Value,v= .agg vs.toArray∧vs.length=cs.length∧∀i c,cs[i]? =some c→Qi w A c (vs.getD i undef)
 | .ptr cs,v=>O5 w A cs v
 | .fn f caps,v=>∃vs:List Value,v= .func (.func f) #[] vs.toArray∧vs.length=caps.length∧∀i c,caps[i]? =some c→B6w w A c (vs.getD i undef)
def Mr (w:World) (x:Gy) (v:Value) (fp:List Nat):Prop:=
 match x with
 | .one c=>D3 w c v fp
 | .agg cs=>∃(vs:List Value) (fps:Nat→List Nat),v= .agg vs.toArray∧vs.length=cs.length∧(∀i c,cs[i]? =some c→D3 w c (vs.getD i undef) (fps i))∧fp=(List.range cs.length).flatMap fps
 | .ptr _=>False
 | .fn _ _=>False
def Kp (rs:List Value):Value:=
 match rs with
 | [v]=>v
 |rs=> .tuple rs.toArray
structure Lr (w w':World) (outs:List Gy) (e:Ending):Prop where
 below:Ju w.heap.size w w'
 res:∃(rs:List Value) (fps:Nat→List Nat),e= .returned (Kp rs)∧rs.length=outs.length∧(∀i y,outs[i]? =some y→Mr w' y (rs.getD i undef) (fps i))∧
  (∀i,i<outs.length→(fps i).Nodup∧∀b∈fps i,w.heap.size≤b)∧∀i j,i<outs.length→j<outs.length→i≠j→∀b∈fps i,b∉fps j
def B3 (P:Program) (f:FuncId) (ins outs:List Gy):Prop:=
 K9 P f∧∀(w:World) (vs:List Value),vs.length=ins.length→(∀i x,ins[i]? =some x→Ms w (fun _=>False) x (vs.getD i undef))→
  Calls P f vs.toArray w fun e w'=>Lr w w' outs e
def A48 (own:List Ow) (x:AV):Option Ai:=
 match x with
 | .c c=>some c
 | .own k=>Cb own k
 |_=>none
def A3m (own:List Ow) (l:List AV):Option (List Ai):=
 match l with
 | []=>some []
 |x::r=>match A48 own x with
  |some c=>match A3m own r with
   |some cs=>some (c::cs)
   |none=>none
  |none=>none
def B3p (s:AS) (x:AV):Option (List Ai):=
 match x with
 | .box k off=>match Nat.beq off 0,Fl s.boxes k with
  |true,some b=>A3m s.own b.cells
  |_,_=>none
 | .el _ _ row i off=>match Nat.beq off 0 with
  |true=>some (row i.toNat)
  |false=>none
 |_=>none
def B2x (s:AS) (x:AV):Option Cap:=
 match A48 s.own x with
 |some c=>some (.one c)
 |none=>match B3p s x with
  |some cs=>some (.ptr cs)
  |none=>none
def A5b (s:AS) (l:List AV):Option (List Cap):=
 match l with
 | []=>some []
 |x::r=>match B2x s x with
  |some c=>match A5b s r with
   |some cs=>some (c::cs)
   |none=>none
  |none=>none
def B2t (s:AS) (x:AV):Option Gy:=
 match x with
 | .agg xs=>match A3m s.own xs with
  |some cs=>some (.agg cs)
  |none=>none
 | .fn f xs=>match A5b s xs with
  |some cs=>some (.fn f cs)
  |none=>none
 |x=>match A48 s.own x with
  |some c=>some (.one c)
  |none=>match B3p s x with
   |some cs=>some (.ptr cs)
   |none=>none
def P9 (s:AS) (l:List AV):Option (List Gy):=
 match l with
 | []=>some []
 |x::r=>match B2t s x with
  |some c=>match P9 s r with
   |some cs=>some (c::cs)
   |none=>none
  |none=>none
theorem Qi.wide {w:World}{A:Nat→Prop}{c:Ai}{v:Value}(h:Qi w A c v):Qi w (fun _=>False) c v:=
 h.move (fun _ _ _=>rfl) (fun _ _ h=>h.elim)
theorem Ul {B:Be}{E:E7}{s:AS}{a:Act}{w:World}(h:s.is B E a w){x:AV}{c:Ai}(hx:A48 s.own x=some c){v:Value}(hd:Dr E w (s.avoid E) s.next x v):Qi w (fun _=>False) c v:=by
 unfold A48 at hx
 split at hx
 ·obtain rfl:=Option.some.inj hx
  cases hd with
  |c hr=>exact hr.wide
 ·cases hd with
  |own hk=>exact (h.own _ (Cp hx)).2.1.rep (fun _ _ h=>h)
 simp at hx
theorem Wi {own:List Ow}{l:List AV}{cs:List Ai}(h:A3m own l=some cs):cs.length=l.length∧∀(i:Nat) (c:Ai),cs[i]? =some c→∃x:AV,l[i]? =some x∧A48 own x=some c:=by
 induction l generalizing cs with
 |nil=>obtain rfl:=Option.some.inj h;simp
 |cons x r ih=>
  unfold A3m at h
  split at h
  ·rename_i c hc
   split at h
   ·rename_i cs' hcs
    obtain rfl:=Option.some.inj h;obtain ⟨h1,h2⟩:=ih hcs;refine ⟨by simp [h1],fun i d hd=>?_⟩
    cases i with
    |zero=>simp only [List.getElem?_cons_zero,Option.some.injEq] at hd;subst hd;exact ⟨x,by simp,hc⟩
    |succ i=>simpa using h2 i d (by simpa using hd)
   simp at h
  simp at h
theorem Pa {s:AS}{l:List AV}{cs:List Gy}(h:P9 s l=some cs):cs.length=l.length∧∀(i:Nat) (c:Gy),cs[i]? =some c→∃x:AV,l[i]? =some x∧B2t s x=some c:=by
 induction l generalizing cs with
 |nil=>obtain rfl:=Option.some.inj h;simp
 |cons x r ih=>
  unfold P9 at h
  split at h
  ·rename_i c hc
   split at h
   ·rename_i cs' hcs
    obtain rfl:=Option.some.inj h;obtain ⟨h1,h2⟩:=ih hcs;refine ⟨by simp [h1],fun i d hd=>?_⟩
    cases i with
    |zero=>simp only [List.getElem?_cons_zero,Option.some.injEq] at hd;subst hd;exact ⟨x,by simp,hc⟩
    |succ i=>simpa using h2 i d (by simpa using hd)
   simp at h
  simp at h
theorem A4e {B:Be}{E:E7}{s:AS}{a:Act}{w:World}(h:s.is B E a w){x:AV}{cs:List Ai}(hx:B3p s x=some cs){v:Value}(hd:Dr E w (s.avoid E) s.next x v):O5 w (fun _=>False) cs v:=by
 unfold B3p at hx
 split at hx
 ·rename_i k off
  split at hx
  ·rename_i b hoff hb
   obtain rfl:=Nat.eq_of_beq_eq_true hoff;obtain ⟨hm,rfl⟩:=F3 hb;obtain ⟨_,vs,ty,h1,h2,h3⟩:=h.boxes b hm;obtain ⟨g1,g2⟩:=Wi hx
   cases hd with
   |box _ hk=>
    refine ⟨_,_,1,rfl,.sl 1 cs.length _ (E.β b.key) 0 1 (fun i j=>vs.getD (i * cs.length+j) undef) (fun _ h=>h) (Nat.le_refl _) (by simp only [maxLen];omega) (fun _ _=>rfl) (fun i j hi hj=>?_) (fun i j c hi hc=>?_)⟩
    ·obtain rfl:i=0:=by omega
     have hj':0+0 * cs.length+j<vs.size:=by omega
     rw [cell_of_row w _ _ vs ty (0,0) h1]
     simp [Array.getD,show j<vs.size by omega]
    obtain rfl:i=0:=by omega
    obtain ⟨y,hy,hyc⟩:=g2 j c hc
    have:=Ul h hyc (h3 j y hy)
    simpa using this
  simp at hx
 ·rename_i n es row i off
  split at hx
  ·rename_i hoff
   obtain rfl:=Nat.eq_of_beq_eq_true hoff;obtain rfl:=Option.some.inj hx
   cases hd with
   |el _ b o cap hs h0 hi=>
    obtain ⟨j,rfl⟩:=Int.eq_ofNat_of_zero_le h0;simp only [Int.toNat_natCast,Int.ofNat_lt] at *
    cases hs with
    |emp=>omega
    |sl _ _ _ _ _ _ u hA hn hc hl hu hr=>
     refine ⟨b,o+j * es+0,1,rfl,.sl 1 (row j).length _ b (o+j * es+0) 1 (fun _ m=>u j m) (fun _ h=>h) (Nat.le_refl _) (by simp only [maxLen];omega) (fun _ _=>rfl) (fun i m hi' hm=>?_) (fun i m c hi' hc'=>?_)⟩
     ·obtain rfl:i=0:=by omega
      have:=hu j m hi (by rw [←hl j hi];exact hm)
      rw [←this]
      congr 2
      omega
     exact (hr j m c hi hc').wide
  simp at hx
 simp at hx
theorem B4k {B:Be}{E:E7}{s:AS}{a:Act}{w:World}(h:s.is B E a w){x:AV}{c:Cap}(hx:B2x s x=some c){v:Value}(hd:Dr E w (s.avoid E) s.next x v):B6w w (fun _=>False) c v:=by
 unfold B2x at hx
 split at hx
 ·rename_i c' hc
  obtain rfl:=Option.some.inj hx;exact Ul h hc hd
 split at hx
 ·rename_i cs hcs
  obtain rfl:=Option.some.inj hx;exact A4e h hcs hd
 simp at hx
theorem B0m {s:AS}{l:List AV}{cs:List Cap}(h:A5b s l=some cs):cs.length=l.length∧∀(i:Nat) (c:Cap),cs[i]? =some c→∃x:AV,l[i]? =some x∧B2x s x=some c:=by
 induction l generalizing cs with
 |nil=>obtain rfl:=Option.some.inj h;simp
 |cons x r ih=>
  unfold A5b at h
  split at h
  ·rename_i c hc
   split at h
   ·rename_i cs' hcs
    obtain rfl:=Option.some.inj h;obtain ⟨h1,h2⟩:=ih hcs;refine ⟨by simp [h1],fun i d hd=>?_⟩
    cases i with
    |zero=>simp only [List.getElem?_cons_zero,Option.some.injEq] at hd;subst hd;exact ⟨x,by simp,hc⟩
    |succ i=>simpa using h2 i d (by simpa using hd)
   simp at h
  simp at h
theorem S3 {B:Be}{E:E7}{s:AS}{a:Act}{w:World}(h:s.is B E a w){x:AV}{c:Gy}(hx:B2t s x=some c){v:Value}(hd:Dr E w (s.avoid E) s.next x v):Ms w (fun _=>False) c v:=by
 unfold B2t at hx
 split at hx
 ·split at hx
  ·rename_i xs cs hcs
   obtain rfl:=Option.some.inj hx;obtain ⟨h1,h2⟩:=Wi hcs
   cases hd with
   |agg vs hl hv=>
    refine ⟨vs,rfl,by omega,fun i c hc=>?_⟩;obtain ⟨y,hy,hyc⟩:=h2 i c hc;exact Ul h hyc (hv i y hy)
  simp at hx
 ·split at hx
  ·rename_i f xs cs hcs
   obtain rfl:=Option.some.inj hx;obtain ⟨h1,h2⟩:=B0m hcs
   cases hd with
   |fn vs hl hv=>
    refine ⟨vs,rfl,by omega,fun i c hc=>?_⟩;obtain ⟨y,hy,hyc⟩:=h2 i c hc;exact B4k h hyc (hv i y hy)
  simp at hx
 split at hx
 ·rename_i c hc
  obtain rfl:=Option.some.inj hx;exact Ul h hc hd
 split at hx
 ·rename_i cs hcs
  obtain rfl:=Option.some.inj hx;exact A4e h hcs hd
 simp at hx
end Go.Sx
namespace Go.Sx
variable {P : Program} {T : List (TypeId × TI)}
def C4y:Cap→AV
 | .one c=> .c c
 | .ptr cs=> .el 1 cs.length (fun _=>cs) 0 0
def Nm:Gy→AV
 | .one c=> .c c
 | .agg cs=> .agg (cs.map AV.ofCell)
 | .ptr cs=> .el 1 cs.length (fun _=>cs) 0 0
 | .fn f caps=> .fn f (caps.map C4y)
def A9g (outs:List Gy):AV:=
 match outs with
 | [o]=>Nm o
 |outs=> .tup (outs.map Nm)
def A45 (c:Ai) (s:AS):AV×AS:=
 match c with
 | .val _=>(.c c,s)
 | .sl _ _ _=>(.own s.next,s.addOwn c)
def Gc (cs:List Ai) (s:AS):List AV×AS:=
 match cs with
 | []=>([],s)
 |c::r=>match A45 c s with
  |(x,s1)=>match Gc r s1 with
   |(xs,s2)=>(x::xs,s2)
def P7 (x:Gy) (s:AS):AV×AS:=
 match x with
 | .one c=>A45 c s
 | .agg cs=>match Gc cs s with
  |(xs,s')=>(.agg xs,s')
 | .ptr _=>(.agg [],s)
 | .fn _ _=>(.agg [],s)
def Ec (l:List Gy) (s:AS):List AV×AS:=
 match l with
 | []=>([],s)
 |c::r=>match P7 c s with
  |(x,s1)=>match Ec r s1 with
   |(xs,s2)=>(x::xs,s2)
def Iq (outs:List Gy) (s:AS):AV×AS:=
 match outs with
 | [o]=>P7 o s
 |outs=>match Ec outs s with
  |(xs,s')=>(.tup xs,s')
structure B2k (B:Be) (A:Nat→Prop) (a:Act) (w:World) (s s':AS) (E E':E7) (fp:List Nat):Prop where
 isA:s'.isA B E' A a w
 keep:∀k,k<s.next→E'.β k=E.β k∧E'.ov k=E.ov k
 next:s.next≤s'.next
 avoid:∀b,s'.avoid E' b→s.avoid E b∨b∈fp
theorem B2p {B : Be} {E : E7} {A : Nat → Prop} {a : Act} {w : World} {s : AS} (h : s.isA B E A a w) {c : Ai} {v : Value} {fp : List Nat} (ho : D3 w c v fp) (hn : fp.Nodup)
    (hA : ∀ b ∈ fp, A b ∧ ¬ s.avoid E b ∧ B.fresh b) : ∃ E', B2k B A a w s (A45 c s).2 E E' fp ∧ Dr E' w A (A45 c s).2.next (A45 c s).1 v := by
  cases ho with
  | val _ hv => exact ⟨E, ⟨h, fun _ _ => ⟨rfl, rfl⟩, Nat.le_refl _, fun b hb => .inl hb⟩, .c (.val v hv)⟩
  | nil es row =>
    obtain ⟨h1, h2⟩ := h.addOwn (.nil es row) hn hA
    exact ⟨_, ⟨h1, fun k hk => by have : k ≠ s.next := by omega
                                  exact E7.withOwn_keep _ _ _ _ this, Nat.le_succ _, fun b hb => by
      rcases hb with ⟨x, hx, rfl⟩ | ⟨y, hy, hb⟩
      · refine .inl (.inl ⟨x, hx, ?_⟩)
        have h1 := (h.boxes x hx).1;have : x.key ≠ s.next := by omega
        exact (E7.withOwn_keep _ _ _ _ this).1.symm
      · rcases List.mem_cons.1 hy with rfl | hy
        · right; simp [E7.withOwn] at hb
        · have : y.key ≠ s.next := by have := (h.own y hy).1; omega
          exact .inl (.inr ⟨y, hy, by simpa [E7.withOwn, this] using hb⟩)⟩, h2⟩
  | emp es row b0 o0 =>
    obtain ⟨h1, h2⟩ := h.addOwn (.emp es row b0 o0) hn hA
    exact ⟨_, ⟨h1, fun k hk => by have : k ≠ s.next := by omega
                                  exact E7.withOwn_keep _ _ _ _ this, Nat.le_succ _, fun b hb => by
      rcases hb with ⟨x, hx, rfl⟩ | ⟨y, hy, hb⟩
      · refine .inl (.inl ⟨x, hx, ?_⟩)
        have h1 := (h.boxes x hx).1;have : x.key ≠ s.next := by omega
        exact (E7.withOwn_keep _ _ _ _ this).1.symm
      · rcases List.mem_cons.1 hy with rfl | hy
        · right; simp [E7.withOwn] at hb
        · have : y.key ≠ s.next := by have := (h.own y hy).1; omega
          exact .inl (.inr ⟨y, hy, by simpa [E7.withOwn, this] using hb⟩)⟩, h2⟩
  | sl n es row b off cap ty cells fps hn' hc hb hs hl hr =>
    obtain ⟨h1, h2⟩ := h.addOwn (.sl n es row b off cap ty cells fps hn' hc hb hs hl hr) hn hA
    exact ⟨_, ⟨h1, fun k hk => by have : k ≠ s.next := by omega
                                  exact E7.withOwn_keep _ _ _ _ this, Nat.le_succ _, fun b hb => by
      rcases hb with ⟨x, hx, rfl⟩ | ⟨y, hy, hb⟩
      · refine .inl (.inl ⟨x, hx, ?_⟩)
        have h1 := (h.boxes x hx).1;have : x.key ≠ s.next := by omega
        exact (E7.withOwn_keep _ _ _ _ this).1.symm
      · rcases List.mem_cons.1 hy with rfl | hy
        · right; simpa [E7.withOwn] using hb
        · have : y.key ≠ s.next := by have := (h.own y hy).1; omega
          exact .inl (.inr ⟨y, hy, by simpa [E7.withOwn, this] using hb⟩)⟩, h2⟩
theorem Zh {B:Be}{A:Nat→Prop}{a:Act}{w:World}:∀(cs:List Ai) (vs:List Value) (fps:Nat→List Nat) (s:AS) (E:E7),s.isA B E A a w→vs.length=cs.length→
  (∀i c,cs[i]? =some c→D3 w c (vs.getD i undef) (fps i))→((List.range cs.length).flatMap fps).Nodup→
  (∀b∈(List.range cs.length).flatMap fps,A b∧¬ s.avoid E b∧B.fresh b)→
  ∃E',B2k B A a w s (Gc cs s).2 E E' ((List.range cs.length).flatMap fps)∧(Gc cs s).1.length=cs.length∧
   ∀i x,(Gc cs s).1[i]? =some x→Dr E' w A (Gc cs s).2.next x (vs.getD i undef):=by
 intro cs
 induction cs with
 |nil=>intro vs fps s E h _ _ _ _;exact ⟨E,⟨h,fun _ _=>⟨rfl,rfl⟩,Nat.le_refl _,fun b hb=> .inl hb⟩,rfl,by simp [Gc]⟩
 |cons c cs ih=>
  intro vs fps s E h hl hr hn hA
  match vs,hl with
  |v::vs,hl=>
   have hfl:(List.range (c::cs).length).flatMap fps=fps 0++(List.range cs.length).flatMap (fun i=>fps (i+1)):=by
    simp [List.range_succ_eq_map,List.flatMap_map,List.flatMap_cons]
   rw [hfl] at hn hA ⊢;obtain ⟨n1,n2,n3⟩:=List.nodup_append.1 hn;obtain ⟨E1,A1,D1⟩:=B2p h (by simpa using hr 0 c rfl) n1 (fun b hb=>hA b (List.mem_append_left _ hb))
   obtain ⟨E2,A2,L2,D2⟩:=ih vs (fun i=>fps (i+1)) (A45 c s).2 E1 A1.isA (by simpa using hl) (fun i d hd=>by simpa using hr (i+1) d (by simpa using hd)) n2 (fun b hb=>by
    obtain ⟨g1,g2,g3⟩:=hA b (List.mem_append_right _ hb);refine ⟨g1,fun hav=>?_,g3⟩
    rcases A1.avoid b hav with h|h
    ·exact g2 h
    exact n3 b h b hb rfl)
   refine ⟨E2,⟨A2.isA,fun k hk=>?_,Nat.le_trans A1.next A2.next,fun b hb=>?_⟩,by simp [Gc,L2],fun i x hx=>?_⟩
   ·have h1:=A1.keep k hk
    have h2:=A2.keep k (Nat.lt_of_lt_of_le hk A1.next);exact ⟨h2.1.trans h1.1,h2.2.trans h1.2⟩
   ·rcases A2.avoid b hb with h|h
    ·rcases A1.avoid b h with h|h
     ·exact .inl h
     exact .inr (List.mem_append_left _ h)
    exact .inr (List.mem_append_right _ h)
   cases i with
   |zero=>
    obtain rfl:(A45 c s).1=x:=by simpa [Gc] using hx
    simpa [Gc] using D1.move A2.next A2.keep (fun _ _ _=>rfl) (fun _ _ hb=>hb)
   |succ i=>simpa [Gc] using D2 i x (by simpa [Gc] using hx)
theorem B4c {B:Be}{A:Nat→Prop}{a:Act}{w:World}(y:Gy)(v:Value)(fp:List Nat)(s:AS)(E:E7)(h:s.isA B E A a w)(ho:Mr w y v fp)(hn:fp.Nodup)
  (hA:∀b∈fp,A b∧¬ s.avoid E b∧B.fresh b):∃E',B2k B A a w s (P7 y s).2 E E' fp∧Dr E' w A (P7 y s).2.next (P7 y s).1 v:=by
 cases y with
 |one c=>exact B2p h ho hn hA
 |agg cs=>
  obtain ⟨vs,fps,rfl,hl,hr,rfl⟩:=ho;obtain ⟨E',h1,h2,h3⟩:=Zh cs vs fps s E h hl hr hn hA;exact ⟨E',h1,.agg vs (by rw [h2];exact hl) h3⟩
 |ptr cs=>exact ho.elim
 |fn f caps=>exact ho.elim
theorem Mu {B:Be}{A:Nat→Prop}{a:Act}{w:World}:∀(l:List Gy) (vs:List Value) (fps:Nat→List Nat) (s:AS) (E:E7),s.isA B E A a w→vs.length=l.length→
  (∀i y,l[i]? =some y→Mr w y (vs.getD i undef) (fps i))→(∀i,i<l.length→(fps i).Nodup)→(∀i j,i<l.length→j<l.length→i≠j→∀b∈fps i,b∉fps j)→
  (∀i,i<l.length→∀b∈fps i,A b∧¬ s.avoid E b∧B.fresh b)→
  ∃E',B2k B A a w s (Ec l s).2 E E' ((List.range l.length).flatMap fps)∧(Ec l s).1.length=l.length∧
   ∀i x,(Ec l s).1[i]? =some x→Dr E' w A (Ec l s).2.next x (vs.getD i undef):=by
 intro l
 induction l with
 |nil=>intro vs fps s E h _ _ _ _ _;exact ⟨E,⟨h,fun _ _=>⟨rfl,rfl⟩,Nat.le_refl _,fun b hb=> .inl hb⟩,rfl,by simp [Ec]⟩
 |cons c cs ih=>
  intro vs fps s E h hl hr hn hd hA
  match vs,hl with
  |v::vs,hl=>
   have hfl:(List.range (c::cs).length).flatMap fps=fps 0++(List.range cs.length).flatMap (fun i=>fps (i+1)):=by
    simp [List.range_succ_eq_map,List.flatMap_map,List.flatMap_cons]
   rw [hfl];obtain ⟨E1,A1,D1⟩:=B4c c v (fps 0) s E h (by simpa using hr 0 c rfl) (hn 0 C8) (hA 0 C8)
   obtain ⟨E2,A2,L2,D2⟩:=ih vs (fun i=>fps (i+1)) (P7 c s).2 E1 A1.isA (by simpa using hl) (fun i d hd=>by simpa using hr (i+1) d (by simpa using hd)) (fun i hi=>hn (i+1) (by simpa using hi))
    (fun i j hi hj hne=>hd (i+1) (j+1) (by simpa using hi) (by simpa using hj) Ad) (fun i hi b hb=>by
    obtain ⟨g1,g2,g3⟩:=hA (i+1) (by simpa using hi) b hb;refine ⟨g1,fun hav=>?_,g3⟩
    rcases A1.avoid b hav with h|h
    ·exact g2 h
    exact hd 0 (i+1) C8 (by simpa using hi) Ad b h hb)
   refine ⟨E2,⟨A2.isA,fun k hk=>?_,Nat.le_trans A1.next A2.next,fun b hb=>?_⟩,by simp [Ec,L2],fun i x hx=>?_⟩
   ·have h1:=A1.keep k hk
    have h2:=A2.keep k (Nat.lt_of_lt_of_le hk A1.next);exact ⟨h2.1.trans h1.1,h2.2.trans h1.2⟩
   ·rcases A2.avoid b hb with h|h
    ·rcases A1.avoid b h with h|h
     ·exact .inl h
     exact .inr (List.mem_append_left _ h)
    exact .inr (List.mem_append_right _ h)
   cases i with
   |zero=>
    obtain rfl:(P7 c s).1=x:=by simpa [Ec] using hx
    simpa [Ec] using D1.move A2.next A2.keep (fun _ _ _=>rfl) (fun _ _ hb=>hb)
   |succ i=>simpa [Ec] using D2 i x (by simpa [Ec] using hx)
theorem Jz {E:E7}{A:Nat→Prop}{N:Nat}{w:World}(l:List Gy)(xs:List AV)(rs:List Value)(hl:rs.length=l.length)(hx:xs.length=l.length)
  (hd:∀i x,xs[i]? =some x→Dr E w A N x (rs.getD i undef)):
  Dr E w A N (match xs with| [x]=>x|xs=> .tup xs) (Kp rs):=by
 match xs,rs,hx,hl with
 | [],[],_,_=>exact .tup [] rfl C8
 | [x],[v],_,_=>exact hd 0 x rfl
 |x::y::xs,u::v::rs,hx,hl=>exact .tup (u::v::rs) (by simp at hx hl ⊢;omega) hd
 | [],_::_,hx,hl=>simp at hx hl;omega
 | [_],[],hx,hl=>simp at hx hl;omega
 | [_],_::_::_,hx,hl=>simp at hx hl;omega
 |_::_::_,[],hx,hl=>simp at hx hl;omega
 |_::_::_,[_],hx,hl=>simp at hx hl;omega
theorem Wh (outs:List Gy)(s:AS):Iq outs s=((match (Ec outs s).1 with| [x]=>x|xs=> .tup xs),(Ec outs s).2):=by
 match outs with
 | []=>rfl
 | [o]=>simp [Iq,Ec]
 |o1::o2::r=>simp [Iq,Ec]
theorem B7e {B:Be}{Q:Exit→Act→World→Prop}{q:Bool}{f:FuncId}{xs:List AV}{dst:Option Tmp}{K:List KI}{s:AS}{ins outs:List Gy}(hf:B3 P f ins outs)(hx:P9 s xs=some ins)
  (h:G P B Q K ((Iq outs s).2.put dst (Iq outs s).1)):B2l P B Q q f xs dst K s:=by
 refine ⟨hf.1,fun E a w hs vs hl hv=>?_⟩;obtain ⟨h1,h2⟩:=Pa hx;refine (hf.2 w vs Ad (fun i x hi=>?_)).mono (fun e w' hg=>?_)
 ·obtain ⟨y,hy,hc⟩:=h2 i x hi
  exact S3 hs hc (hv i y hy)
 obtain ⟨hb,rs,fps,rfl,hrl,hro,hfr,hdis⟩:=hg;have hA:=hs.call hb
 obtain ⟨E',hAd,hL,hD⟩:=Mu outs rs fps s E hA hrl hro (fun i hi=>(hfr i hi).1) hdis (fun i hi b hb'=>by
  have hge:=(hfr i hi).2 b hb';refine ⟨.inr hge,fun hav=>?_,.inl (Nat.le_trans hs.base.size hge)⟩
  have:=hs.avoid_lt hav
  omega)
 have hres:=Jz outs (Ec outs s).1 rs hrl hL hD;rw [Wh] at h;exact ⟨_,rfl,fun _=> .of_below hb,h E' _ w' ((hAd.isA.put dst hres).is)⟩
theorem C0y {B:Be}{Q:Exit→Act→World→Prop}{q:Bool}{f:FuncId}{xs:List AV}{dst:Option Tmp}{K:List KI}{s:AS}{ins outs:List Gy}(hf:B3 P f ins outs)(hx:P9 s xs=some ins)
  (h:G P B Q K (s.put dst (A9g outs))):B2l P B Q q f xs dst K s:=by
 refine ⟨hf.1,fun E a w hs vs hl hv=>?_⟩;obtain ⟨h1,h2⟩:=Pa hx;refine (hf.2 w vs Ad (fun i x hi=>?_)).mono (fun e w' hg=>?_)
 ·obtain ⟨y,hy,hc⟩:=h2 i x hi
  exact S3 hs hc (hv i y hy)
 obtain ⟨hb,rs,fps,rfl,hrl,hro,hfr,hdis⟩:=hg;have hI:=(hs.call hb).is
 have hno:∀i,i<outs.length→∀b∈fps i,¬ s.avoid E b:=fun i hi b hb' hav=>by
  have:=hs.avoid_lt hav
  have:=(hfr i hi).2 b hb'
  omega
 have hone:∀i y,outs[i]? =some y→Dr E w' (s.avoid E) s.next (Nm y) (rs.getD i undef):=by
  intro i y hy;have hi:i<outs.length:=(List.getElem?_eq_some_iff.1 hy).1;have ho:=hro i y hy
  cases y with
  |one c=>exact .c (D3.rep ho (hno i hi))
  |agg cs=>
   obtain ⟨us,gps,hu,hul,hur,hfp⟩:=ho;rw [hu];refine .agg us (by simp [hul]) (fun j x hj=>?_);simp only [List.getElem?_map,Option.map_eq_some_iff] at hj;obtain ⟨c,hc,rfl⟩:=hj;have hj:j<cs.length:=(List.getElem?_eq_some_iff.1 hc).1;exact .c ((hur j c hc).rep (fun b hb'=>hno i hi b (by rw [hfp];exact Ek hj hb')))
  |ptr cs=>exact ho.elim
  |fn f caps=>exact ho.elim
 have hres:Dr E w' (s.avoid E) s.next (A9g outs) (Kp rs):=by
  have:=Jz (E:=E) (A:=s.avoid E) (N:=s.next) (w:=w') outs (outs.map Nm) rs hrl C8 (fun i x hi=>by
   simp only [List.getElem?_map,Option.map_eq_some_iff] at hi;obtain ⟨y,hy,rfl⟩:=hi
   exact hone i y hy)
  match outs,this with
  | [],this=>exact this
  | [o],this=>exact this
  |o1::o2::r,this=>exact this
 exact ⟨_,rfl,fun _=> .of_below hb,h E _ w' (hI.put dst hres)⟩
theorem O5.den {E:E7}{w:World}{A A':Nat→Prop}{N:Nat}{cs:List Ai}{v:Value}(h:O5 w A cs v)(hA:∀b,A' b→A b):Dr E w A' N (.el 1 cs.length (fun _=>cs) 0 0) v:=by
 obtain ⟨b,o,cap,rfl,hr⟩:=h
 have:=Dr.el (E:=E) (N:=N) (i:=0) 0 b o cap (hr.move (A':=A') (fun _ _ _=>rfl) (fun b _ hb=>hA b hb)) B5 B5
 simpa using this
def start (n:Nat) (ins:List Gy):AS:= {next:=0,slots:=ins.map Nm++List.replicate (n-ins.length) .any,boxes:=[],own:=[]}
theorem enter {f:FuncId}{fn:Func}{c:Code}{ins outs:List Gy}(hf:P.funcs[f]? =some fn)(hb:fn.body=some c)(hn:(fn.name== "runtime.NumGoroutine")=false)
  (h:∀W,G P ⟨W,fun _=>False⟩ (bodyPost P fn fun e w'=>Lr W w' outs e) [.code c] (start fn.ntmps ins)):B3 P f ins outs:=by
 refine ⟨⟨fn,hf,hn,by simp [hb]⟩,fun w vs hl hv=>calls_of_wp hf hb ?_⟩
 refine h w ⟨fun _=> .slice none 0 0,fun _=>[]⟩ _ w ?_
 have nav:∀b,¬ (start fn.ntmps ins).avoid ⟨fun _=> .slice none 0 0,fun _=>[]⟩ b:=by
  rintro b (⟨x,hx,_⟩|⟨y,hy,_⟩)
  ·simp [start] at hx
  simp [start] at hy
 have nb:∀x,x∉(start fn.ntmps ins).boxes:=by simp [start]
 have no:∀x,x∉(start fn.ntmps ins).own:=by simp [start]
 refine ⟨rfl,by simp [start],by simp [start,hl],fun i x hx=>?_,fun x hx=>absurd hx (nb x),fun x hx=>absurd hx (nb x),by simp [start],fun y hy=>absurd hy (no y),by simp [start],fun y hy=>absurd hy (no y),fun x hx=>absurd hx (nb x),fun _ _=>rfl,
  ⟨rfl,rfl,rfl,Nat.le_refl _,fun _ _ _=>rfl,Nat.le_refl _⟩,fun b hb=>absurd hb (nav b)⟩
 simp only [start] at hx
 by_cases hi:i<ins.length
 ·rw [List.getElem?_append_left (by simpa using hi)] at hx
  simp only [List.getElem?_map,Option.map_eq_some_iff] at hx;obtain ⟨y,hy,rfl⟩:=hx;have hr:=hv i y hy;have hiv:i<vs.length:=by omega
  have e:(vs.toArray++Array.replicate (fn.ntmps-vs.toArray.size) undef).getD i undef=vs.getD i undef:=by
   simp [Array.getD,List.getD,hiv,show i<vs.length+(fn.ntmps-vs.length) by omega]
  rw [e]
  cases y with
  |one c=>exact .c (hr.move (fun _ _ _=>rfl) (fun b _ hb=>absurd hb (nav b)))
  |agg cs=>
   obtain ⟨us,hu,hul,hur⟩:=hr;rw [hu];refine .agg us (by simp [hul]) (fun j x hj=>?_);simp only [List.getElem?_map,Option.map_eq_some_iff] at hj;obtain ⟨c,hc,rfl⟩:=hj;exact .c ((hur j c hc).move (fun _ _ _=>rfl) (fun b _ hb=>absurd hb (nav b)))
  |ptr cs=>exact hr.den (fun b hb=>absurd hb (nav b))
  |fn f caps=>
   obtain ⟨us,hu,hul,hur⟩:=hr;rw [hu];refine .fn us (by simp [hul]) (fun j x hj=>?_);simp only [List.getElem?_map,Option.map_eq_some_iff] at hj;obtain ⟨c,hc,rfl⟩:=hj;have hr:=hur j c hc
   cases c with
   |one c=>exact .c (Qi.move hr (fun _ _ _=>rfl) (fun b _ hb=>absurd hb (nav b)))
   |ptr cs=>exact O5.den hr (fun b hb=>absurd hb (nav b))
 rw [List.getElem?_append_right (by simp;omega)] at hx
 obtain rfl:AV.any=x:=by
  have:=List.mem_of_getElem? hx
  simpa using (List.eq_of_mem_replicate this).symm
 exact .any _
end Go.Sx
namespace Go.Sx
variable {P : Program} {T : List (TypeId × TI)}
def Rq (T:List (TypeId×TI)) (rs:List ResultVar) (s:AS):Option (List AV):=
 match rs with
 | []=>some []
 | .tmp t::r=>match Rq T r s with
  |some xs=>some (Hs s.slots t::xs)
  |none=>none
 | .cell t ty::r=>
  match find T ty,Hs s.slots t with
  |some i,.box k off=>
   match Fl s.boxes k with
   |some b=>match Nat.ble (off+i.size) b.cells.length,Rq T r s with
    |true,some xs=>some (Le i b.cells off::xs)
    |_,_=>none
   |none=>none
  |_,_=>none
def A81 (own:List Ow) (x:AV) (out:Ai):Prop:=
 match x with
 | .own k=>match Cb own k with
  |some c=>c=out
  |none=>False
 | .c (.val (.slice none n c))=>out= .val (.slice none n c)∨(n=0∧c=0∧∃es row,out= .sl 0 es row)
 | .c (.val v)=>out= .val v
 |_=>False
def J7 (x:AV):List Nat:=
 match x with
 | .own k=>[k]
 |_=>[]
def A1o (own:List Ow) (xs:List AV) (outs:List Ai):Prop:=
 match xs,outs with
 | [],[]=>True
 |x::xs,o::outs=>A81 own x o∧A1o own xs outs
 |_,_=>False
def B9h (own:List Ow) (x:AV) (out:Gy):Prop:=
 match out with
 | .one c=>A81 own x c
 | .agg cs=>match x with
  | .agg xs=>A1o own xs cs
  |_=>False
 | .ptr _=>False
 | .fn _ _=>False
def Oy (own:List Ow) (xs:List AV) (outs:List Gy):Prop:=
 match xs,outs with
 | [],[]=>True
 |x::xs,o::outs=>B9h own x o∧Oy own xs outs
 |_,_=>False
def E9 (x:AV):List Nat:=
 match x with
 | .agg xs=>xs.flatMap J7
 |x=>J7 x
def Gv (l:List Nat):Bool:=
 match l with
 | []=>true
 |x::r=>!(r.any (Nat.beq x))&&Gv r
theorem Eu {l:List Nat}(h:Gv l=true):l.Nodup:=by
 induction l with
 |nil=>simp
 |cons x r ih=>
  simp only [Gv,Bool.and_eq_true,Bool.not_eq_true',List.any_eq_false] at h;exact List.nodup_cons.2 ⟨fun hm=>h.1 x hm C8,ih h.2⟩
theorem Cw {α β:Type}{f:α→List β}{l:List α}:(l.flatMap f).Nodup↔(∀x∈l,(f x).Nodup)∧l.Pairwise fun a b=>∀z∈f a,z∉f b:=by
 induction l with
 |nil=>simp
 |cons x l ih=>
  simp only [List.flatMap_cons,List.nodup_append,ih,List.mem_cons,forall_eq_or_imp,List.pairwise_cons,List.mem_flatMap]
  constructor
  ·rintro ⟨h1,⟨h2,h3⟩,h4⟩
   exact ⟨⟨h1,h2⟩,fun y hy z hz hz'=>h4 z hz z ⟨y,hy,hz'⟩ rfl,h3⟩
  rintro ⟨⟨h1,h2⟩,h3,h4⟩
  exact ⟨h1,⟨h2,h4⟩,fun z hz z' ⟨y,hy,hz'⟩ e=>h3 y hy z hz (e▸hz')⟩
theorem A6c {B:Be}{E:E7}{s:AS}{a:Act}{w:World}(h:s.is B E a w){x:AV}{o:Ai}(ho:A81 s.own x o){v:Value}(hd:Dr E w (s.avoid E) s.next x v):
  D3 w o v ((J7 x).flatMap E.fp)∧∀k∈J7 x,∃y∈s.own,y.key=k:=by
 unfold A81 at ho
 split at ho
 ·rename_i k
  split at ho
  ·rename_i c hc
   subst ho;have hm:=Cp hc
   cases hd with
   |own hk=>
    refine ⟨by simpa [J7] using (h.own _ hm).2.1,fun j hj=>?_⟩;simp only [J7,List.mem_singleton] at hj;subst hj;exact ⟨_,hm,rfl⟩
  exact ho.elim
 ·rename_i n c
  have e:=Bo hd;subst e
  rcases ho with rfl|⟨rfl,rfl,es,row,rfl⟩
  ·exact ⟨.val _ rfl,by simp [J7]⟩
  exact ⟨.nil es row,by simp [J7]⟩
 ·rename_i v' _
  subst ho;have e:=Bo hd;subst e;refine ⟨.val _ ?_,by simp [J7]⟩
  cases hd with
  |c hr=>exact hr.one
 exact ho.elim
theorem B5q {own:List Ow}{xs:List AV}{outs:List Ai}(h:A1o own xs outs):xs.length=outs.length∧∀(i:Nat) (o:Ai),outs[i]? =some o→∃x:AV,xs[i]? =some x∧A81 own x o:=by
 induction xs generalizing outs with
 |nil=>cases outs<;>simp_all [A1o]
 |cons x xs ih=>
  cases outs with
  |nil=>simp [A1o] at h
  |cons o outs=>
   obtain ⟨h1,h2⟩:=ih h.2;refine ⟨by simp [h1],fun i c hc=>?_⟩
   cases i with
   |zero=>simp only [List.getElem?_cons_zero,Option.some.injEq] at hc;subst hc;exact ⟨x,by simp,h.1⟩
   |succ i=>simpa using h2 i c (by simpa using hc)
theorem Mo {own:List Ow}{xs:List AV}{outs:List Gy}(h:Oy own xs outs):xs.length=outs.length∧∀(i:Nat) (o:Gy),outs[i]? =some o→∃x:AV,xs[i]? =some x∧B9h own x o:=by
 induction xs generalizing outs with
 |nil=>cases outs<;>simp_all [Oy]
 |cons x xs ih=>
  cases outs with
  |nil=>simp [Oy] at h
  |cons o outs=>
   obtain ⟨h1,h2⟩:=ih h.2;refine ⟨by simp [h1],fun i c hc=>?_⟩
   cases i with
   |zero=>simp only [List.getElem?_cons_zero,Option.some.injEq] at hc;subst hc;exact ⟨x,by simp,h.1⟩
   |succ i=>simpa using h2 i c (by simpa using hc)
theorem B75 {xs:List AV}(fp:Nat→List Nat):(xs.flatMap J7).flatMap fp=(List.range xs.length).flatMap fun i=>(J7 (Hs xs i)).flatMap fp:=by
 induction xs with
 |nil=>simp
 |cons x xs ih=>
  simp only [List.flatMap_cons,List.flatMap_append,ih,List.length_cons,List.range_succ_eq_map,List.flatMap_map];rfl
theorem Jo {B:Be}{E:E7}{s:AS}{a:Act}{w:World}(h:s.is B E a w){x:AV}{o:Gy}(ho:B9h s.own x o){v:Value}(hd:Dr E w (s.avoid E) s.next x v):
  Mr w o v ((E9 x).flatMap E.fp)∧∀k∈E9 x,∃y∈s.own,y.key=k:=by
 cases o with
 |one c=>
  have hk:E9 x=J7 x:=by cases x<;>first|rfl|simp [B9h,A81] at ho
  rw [hk];exact A6c h ho hd
 |agg cs=>
  cases x<;>simp only [B9h] at ho
  rename_i xs
  obtain ⟨h1,h2⟩:=B5q ho
  cases hd with
  |agg vs hl hv=>
   refine ⟨⟨vs,fun i=>(J7 (Hs xs i)).flatMap E.fp,rfl,by omega,fun i c hc=>?_,?_⟩,fun k hk=>?_⟩
   ·obtain ⟨y,hy,hyo⟩:=h2 i c hc
    have:=(A6c h hyo (hv i y hy)).1
    have e:Hs xs i=y:=by rw [Dc,hy];rfl
    simp only [e];exact this
   ·rw [←h1];exact B75 E.fp
   obtain ⟨y,hy,hyk⟩:=List.mem_flatMap.1 hk;obtain ⟨i,hi⟩:=List.mem_iff_getElem?.1 hy;have hil:i<cs.length:=by rw [←h1];exact (List.getElem?_eq_some_iff.1 hi).1
   obtain ⟨y',hy',hyo⟩:=h2 i _ (List.getElem?_eq_getElem hil);obtain rfl:y'=y:=by rw [hi] at hy';exact (Option.some.inj hy').symm
   exact (A6c h hyo (hv i _ hi)).2 k hyk
 |ptr cs=>exact ho.elim
 |fn f caps=>exact ho.elim
def C2m (tmps:Array Value) (r:ResultVar):Sem Value:=
 match r with
 | .tmp t=>pure (tmps.getD t undef)
 | .cell a t=>do loadVar t (←asAddr (tmps.getD a undef))
theorem Q6 (fn:Func)(tmps:Array Value):results fn tmps=(do let vs ←fn.results.mapM (C2m tmps);pure (if h:vs.size=1 then vs[0] else .tuple vs)):=by
 unfold results
 congr 1
theorem Vp (hT:Cs P T){B:Be}{E:E7}{s:AS}{a:Act}{w:World}(h:s.is B E a w):∀(rs:List ResultVar) (xs:List AV),Rq T rs s=some xs→
  ∃vs:List Value,(rs.mapM (C2m a.tmps)).run P w= .ok vs w∧vs.length=xs.length∧xs.length=rs.length∧∀i x,xs[i]? =some x→Dr E w (s.avoid E) s.next x (vs.getD i undef):=by
 intro rs
 induction rs with
 |nil=>intro xs hx;obtain rfl:=Option.some.inj hx;exact ⟨[],rfl,rfl,rfl,by simp⟩
 |cons r rs ih=>
  intro xs hx
  cases r with
  |tmp t=>
   unfold Rq at hx
   split at hx
   ·rename_i ys hys
    obtain rfl:=Option.some.inj hx;obtain ⟨vs,h1,h2,h3,h4⟩:=ih ys hys;refine ⟨a.tmps.getD t undef::vs,by simp only [List.mapM_cons,C2m,Sem.run_bind,Sem.run_pure,Result.andThen_ok,h1],by simp [h2],by simp [h3],fun i x hi=>?_⟩
    cases i with
    |zero=>
     simp only [List.getElem?_cons_zero,Option.some.injEq] at hi;subst hi;exact h.ev (.tmp t)
    |succ i=>simpa using h4 i x (by simpa using hi)
   simp at hx
  |cell t ty=>
   unfold Rq at hx
   split at hx
   ·rename_i i k off hi hn
    split at hx
    ·rename_i b hb
     split at hx
     ·rename_i ys hle hys
      obtain rfl:=Option.some.inj hx;obtain ⟨vs,h1,h2,h3,h4⟩:=ih ys hys;obtain ⟨v,g1,g2⟩:=h.load (hT ty i hi) hb (Nat.le_of_ble_eq_true hle);have hev:=h.ev (.tmp t);simp only [AS.ev,hn,Act.eval] at hev;generalize hv:a.tmps.getD t undef=u at hev
      cases hev with
      |box _ hk=>
       refine ⟨v::vs,?_,by simp [h2],by simp [h3],fun j x hj=>?_⟩
       ·have g1:=g1 w (Ez.refl w)
        simp only [Instr.loadAt,Instr.sureAddr,Sem.run_bind,Sem.run_pure,Result.andThen_ok] at g1;simp only [List.mapM_cons,C2m,Sem.run_bind,hv,asAddr,Sem.run_pure,Result.andThen_ok,g1,h1]
       cases j with
       |zero=>
        simp only [List.getElem?_cons_zero,Option.some.injEq] at hj;subst hj;exact g2
       |succ j=>simpa using h4 j x (by simpa using hj)
     simp at hx
    simp at hx
   simp at hx
theorem Sh (vs:List Value):(if h:vs.toArray.size=1 then vs.toArray[0] else .tuple vs.toArray)=Kp vs:=by
 match vs with
 | []=>rfl
 | [v]=>rfl
 |u::v::r=>simp [Kp]
theorem C4b (hT:Cs P T){W:World}{fn:Func}{outs:List Gy}{s:AS}{xs:List AV}(hx:Rq T fn.results.toList s=some xs)(hk:Gv (xs.flatMap E9)=true)(ho:Oy s.own xs outs):
  C0u ⟨W,fun _=>False⟩ (bodyPost P fn fun e w'=>Lr W w' outs e) s:=by
 intro E a w h;obtain ⟨vs,h1,h2,h3,h4⟩:=Vp hT h fn.results.toList xs hx;obtain ⟨g1,g2⟩:=Mo ho;refine ⟨h.defers,Kp vs,?_,?_,vs,fun i=>(E9 (Hs xs i)).flatMap E.fp,rfl,by omega,fun i y hy=>?_,fun i hi=>?_,fun i j hi hj hne b hb hb'=>?_⟩
 ·rw [Q6,Array.mapM_eq_mapM_toList]
  simp only [map_eq_pure_bind,Sem.run_bind,h1,Result.andThen_ok,Sem.run_pure];exact congrArg (fun v=>Result.ok v w) (Sh vs)
 ·have hB:=h.base
  exact ⟨hB.os,hB.tape,hB.output,hB.size,fun k hk=>hB.block k hk (fun h=>h),hB.drawn⟩
 ·obtain ⟨x,hx',hxo⟩:=g2 i y hy
  have:=(Jo h hxo (h4 i x hx')).1
  have e:Hs xs i=x:=by rw [Dc,hx'];rfl
  simp only [e];exact this
 ·have hi':i<xs.length:=by omega
  have hnd:=Eu hk;have hxi:=List.getElem?_eq_getElem hi';obtain ⟨x,hx',hxo⟩:=g2 i _ (List.getElem?_eq_getElem hi);have hkeys:=(Jo h hxo (h4 i x hx')).2
  show ((E9 (Hs xs i)).flatMap E.fp).Nodup∧∀b∈(E9 (Hs xs i)).flatMap E.fp,W.heap.size≤b
  rw [show Hs xs i=x by rw [Dc,hx'];rfl]
  constructor
  ·have hsub:(E9 x).Nodup:=(Cw.1 hnd).1 x (List.mem_of_getElem? hx')
   refine Cw.2 ⟨fun k hk'=>?_,?_⟩
   ·obtain ⟨y,hy,rfl⟩:=hkeys k hk'
    exact (h.own y hy).2.2
   refine List.Pairwise.imp_of_mem ?_ hsub;intro k j hk' hj' hne b hb hb';obtain ⟨y,hy,rfl⟩:=hkeys k hk';obtain ⟨z,hz,rfl⟩:=hkeys j hj';exact h.sep y hy z hz hne b hb hb'
  intro b hb;obtain ⟨k,hk',hb⟩:=List.mem_flatMap.1 hb;obtain ⟨y,hy,rfl⟩:=hkeys k hk'
  rcases h.fresh b (.inr ⟨y,hy,hb⟩) with h|h
  ·exact h
  exact h.elim
 have hi':i<xs.length:=by omega
 have hj':j<xs.length:=by omega
 have hnd:=Eu hk;obtain ⟨x,hx',hxo⟩:=g2 i _ (List.getElem?_eq_getElem hi);obtain ⟨z,hz',hzo⟩:=g2 j _ (List.getElem?_eq_getElem hj)
 change b∈(E9 (Hs xs i)).flatMap E.fp at hb
 change b∈(E9 (Hs xs j)).flatMap E.fp at hb'
 rw [show Hs xs i=x by rw [Dc,hx'];rfl] at hb
 rw [show Hs xs j=z by rw [Dc,hz'];rfl] at hb'
 obtain ⟨k,hk1,hb⟩:=List.mem_flatMap.1 hb;obtain ⟨l,hl1,hb'⟩:=List.mem_flatMap.1 hb';obtain ⟨y1,hy1,rfl⟩:=(Jo h hxo (h4 i x hx')).2 k hk1;obtain ⟨y2,hy2,rfl⟩:=(Jo h hzo (h4 j z hz')).2 l hl1
 by_cases e:y1.key=y2.key
 ·have hpw:=(Cw.1 hnd).2
  have e1:xs[i]=x:=by rw [List.getElem?_eq_getElem hi'] at hx';exact Option.some.inj hx'
  have e2:xs[j]=z:=by rw [List.getElem?_eq_getElem hj'] at hz';exact Option.some.inj hz'
  rcases Nat.lt_or_gt_of_ne hne with hlt|hlt
  ·have:=List.pairwise_iff_getElem.1 hpw i j hi' hj' hlt
   rw [e1,e2] at this;exact this _ hk1 (e▸hl1)
  have:=List.pairwise_iff_getElem.1 hpw j i hj' hi' hlt
  rw [e1,e2] at this;exact this _ hl1 (e▸hk1)
 exact h.sep y1 hy1 y2 hy2 e b hb hb'
def low0 (n:Nat) (x:AV):Bool:=
 match x with
 | .any=>true
 | .c _=>true
 | .own k=>Nat.blt k n
 | .box k _=>Nat.blt k n
 | .el _ _ _ _ _=>true
 | .oel k _ _ _=>Nat.blt k n
 |_=>false
def A47 (f:AV→Bool) (l:List AV):Bool:=
 match l with
 | []=>true
 |x::r=>f x&&A47 f r
def low1 (n:Nat) (x:AV):Bool:=
 match x with
 | .agg xs=>A47 (low0 n) xs
 | .fn _ xs=>A47 (low0 n) xs
 |x=>low0 n x
def low2 (n:Nat) (x:AV):Bool:=
 match x with
 | .tup xs=>A47 (low1 n) xs
 |x=>low1 n x
def C1t (n:Nat) (l:List Bx):Bool:=
 match l with
 | []=>true
 |b::r=>Nat.blt b.key n&&A47 (low2 n) b.cells&&C1t n r
def C1v (n:Nat) (l:List Ow):Bool:=
 match l with
 | []=>true
 |b::r=>Nat.blt b.key n&&C1v n r
theorem Qw {f:AV→Bool}{l:List AV}(h:A47 f l=true){x:AV}(hx:x∈l):f x=true:=by
 induction l with
 |nil=>simp at hx
 |cons y r ih=>
  simp only [A47,Bool.and_eq_true] at h
  rcases List.mem_cons.1 hx with rfl|hx
  ·exact h.1
  exact ih h.2 hx
theorem B8u {n:Nat}{l:List Bx}(h:C1t n l=true){b:Bx}(hb:b∈l):b.key<n∧A47 (low2 n) b.cells=true:=by
 induction l with
 |nil=>simp at hb
 |cons x r ih=>
  unfold C1t at h;simp only [Bool.and_eq_true] at h
  rcases List.mem_cons.1 hb with rfl|hb
  ·exact ⟨Ir h.1.1,h.1.2⟩
  exact ih h.2 hb
theorem B8w {n:Nat}{l:List Ow}(h:C1v n l=true){b:Ow}(hb:b∈l):b.key<n:=by
 induction l with
 |nil=>simp at hb
 |cons x r ih=>
  unfold C1v at h;simp only [Bool.and_eq_true] at h
  rcases List.mem_cons.1 hb with rfl|hb
  ·exact Ir h.1
  exact ih h.2 hb
def Inv {J:Type} (B:Be) (hd:J→AS) (φ:J→Prop) (μ:J→Nat) (m:Nat) (a:Act) (w:World):Prop:=∃j,φ j∧μ j<m∧∃E,(hd j).is B E a w
theorem A0h (p:Nat→Prop)(h:∃n,p n):∃m,p m∧∀k,p k→m≤k:=by
 obtain ⟨n,hn⟩:=h
 induction n using Nat.strongRecOn with
 |ind n ih=>
  by_cases e:∃k,k<n∧p k
  ·obtain ⟨k,hk,hp⟩:=e
   exact ih k hk hp
  exact ⟨n,hn,fun k hk=>Nat.le_of_not_lt (fun hlt=>e ⟨k,hlt,hk⟩)⟩
theorem B5g {J:Type}{B:Be}{Q:Exit→Act→World→Prop}{c:Code}{K:List KI}{s:AS}(hd:J→AS)(φ:J→Prop)(μ:J→Nat)(j0:J)(h0:φ j0)(init:∀E a w,s.is B E a w→∃E',(hd j0).is B E' a w)
  (body:∀j,φ j→G P B Q (.code c:: .loop (Inv B hd φ μ (μ j))::K) (hd j)):G P B Q (.code (.loop c)::K) s:=by
 intro E a w hs
 let S:Act→World→Nat→Prop:=fun a w m=>∃j,φ j∧μ j=m∧∃E,(hd j).is B E a w
 obtain ⟨E',h'⟩:=init E a w hs;refine wp_loop (fun a w=>∃m,S a w m) (fun a w=>Classical.epsilon fun m=>S a w m∧∀k,S a w k→m≤k) ⟨μ j0,j0,h0,rfl,E',h'⟩ ?_;intro a w hI;obtain ⟨⟨j,hj,hm,E,hE⟩,hmin⟩:=Classical.epsilon_spec (A0h _ hI);have hb:=body j hj E a w hE;refine Code.wp_mono (fun e a' w' hq=>?_) hb
 cases e with
 |normal=>
  obtain ⟨j',hj',hlt,E',hE'⟩:=(hq:Inv B hd φ μ (μ j) a' w');have hS:S a' w' (μ j'):=⟨j',hj',rfl,E',hE'⟩;refine ⟨⟨_,hS⟩,?_⟩;obtain ⟨_,hmin'⟩:=Classical.epsilon_spec (A0h _ ⟨_,hS⟩)
  have:=hmin' _ hS
  have e2:=hm
  show (Classical.epsilon fun m=>S a' w' m∧∀k,S a' w' k→m≤k)<(Classical.epsilon fun m=>S a w m∧∀k,S a w k→m≤k)
  rw [←e2];exact Nat.lt_of_le_of_lt this hlt
 |exit id=>exact hq
 |goto l=>exact hq
 |ret=>exact hq
 |panic c=>exact hq
 |outgrown=>exact hq
theorem Cs.nil:Cs P []:=fun t i h=>by simp [find] at h
theorem Cs.cons {t:TypeId}{i:TI}{T:List (TypeId×TI)}(h:TI.of P t=some i)(hT:Cs P T):Cs P ((t,i)::T):=by
 intro u j hj;unfold find at hj
 split at hj
 ·rename_i e
  obtain rfl:=Nat.eq_of_beq_eq_true e;obtain rfl:=Option.some.inj hj;exact h
 exact hT u j hj
end Go.Sx
namespace Go.Sx
variable {P : Program} {T : List (TypeId × TI)}
structure B4a (X:Nat→Prop) (w w':World):Prop where
 os:w'.os=w.os
 tape:w'.tape=w.tape
 output:w'.output=w.output
 size:w.heap.size≤w'.heap.size
 block:∀k,k<w.heap.size→¬ X k→w'.heap[k]? =w.heap[k]?
 drawn:w.drawn≤w'.drawn
structure Src (w:World) (v:Value) (n es:Nat) (row:Nat→List Ai) (news:List Value) (fps:Nat→List Nat):Prop where
 len:news.length=n * es
 rows:∀i,i<n→(row i).length=es
 shape:(v= .slice none 0 0∧n=0)∨(∃a,v= .slice (some a) 0 0∧n=0)∨(∃b o c,v= .slice (some ⟨b,o,none⟩) n c∧∀j,j<n * es→w.cell? ⟨b,o+j,none⟩=some (news.getD j undef))∨
  ∃s:ByteArray,v= .string s∧es=1∧n=s.size∧news=s.data.toList.map fun b=> .int .u8 b.toNat
 rep:∀i j c,i<n→(row i)[j]? =some c→D3 w c (news.getD (i * es+j) undef) (fps (i * es+j))
theorem Src.lenOf {w:World}{v:Value}{n es:Nat}{row:Nat→List Ai}{news:List Value}{fps:Nat→List Nat}(h:Src w v n es row news fps)(w':World):(Builtin.lenOf v).run P w'= .ok n w':=by
 rcases h.shape with ⟨rfl,rfl⟩|⟨a,rfl,rfl⟩|⟨b,o,c,rfl,_⟩|⟨s,rfl,_,rfl,_⟩<;>rfl
theorem Src.first {w:World}{v:Value}{n es:Nat}{row:Nat→List Ai}{news:List Value}{fps:Nat→List Nat}(h:Src w v n es row news fps){w':World}(hw:∀a,w'.cell? a=w.cell? a):
  (Builtin.firstCells es n v).run P w'= .ok news.toArray w':=by
 rcases h.shape with ⟨rfl,rfl⟩|⟨a,rfl,rfl⟩|⟨b,o,c,rfl,hc⟩|⟨s,rfl,rfl,rfl,rfl⟩
 ·have:news=[]:=List.eq_nil_of_length_eq_zero (by simpa using h.len)
  subst this;rfl
 ·have:news=[]:=List.eq_nil_of_length_eq_zero (by simpa using h.len)
  subst this
  simp [Builtin.firstCells,loadCells,loadCellsFrom]
 ·refine run_firstCells_some (P:=P) w' es n ⟨b,o,none⟩ n c news h.len (fun j v hv=>?_)
  have hj:j<n * es:=by rw [←h.len];exact (List.getElem?_eq_some_iff.1 hv).1
  rw [Hh,hw,hc j hj]
  simp [List.getD,hv]
 have e:s.extract 0 s.size=s:=by
  apply ByteArray.ext
  simp
 simp only [Builtin.firstCells,e,Sem.run_pure]
 congr 1
 obtain ⟨⟨l⟩⟩:=s
 simp
theorem Src.one {w:World}{v:Value}{n es:Nat}{row:Nat→List Ai}{news:List Value}{fps:Nat→List Nat}(h:Src w v n es row news fps):∀u∈news,u.oneCell'=true:=by
 intro u hu;obtain ⟨j,hj⟩:=List.mem_iff_getElem?.1 hu;have hjl:j<n * es:=by rw [←h.len];exact (List.getElem?_eq_some_iff.1 hj).1
 have he:0<es:=Nat.pos_of_ne_zero (fun h=>by subst h;simp at hjl);have hi:j / es<n:=Nat.div_lt_of_lt_mul (by rw [Nat.mul_comm];exact hjl);have hm:j % es<(row (j / es)).length:=by rw [h.rows _ hi];exact Nat.mod_lt _ he
 have:=(h.rep (j / es) (j % es) _ hi (List.getElem?_eq_getElem hm)).one
 rw [show j / es * es+j % es=j by rw [Nat.mul_comm,Nat.div_add_mod]] at this
 simpa [List.getD,hj] using this
theorem Ku (z:Array Value)(n:Nat):(Builtin.zeroCells z n).size=n * z.size:=by simp [Builtin.zeroCells]
structure A7a (w w':World) (fp fp2:List Nat) (c:Ai) (v:Value) (fp':List Nat):Prop where
 own:D3 w' c v fp'
 nodup:fp'.Nodup
 sub:∀b∈fp',b∈fp∨b∈fp2∨w.heap.size≤b
 kept:B4a (fun b=>b∈fp) w w'
theorem B40 (w:World)(a:Addr):w.drew.cell? a=w.cell? a:=rfl
def B6r (n1 n2:Nat) (row1 row2 row:Nat→List Ai):Prop:=(∀i,i<n1→row i=row1 i)∧∀i,i<n2→row (n1+i)=row2 i
theorem A75 (l m:List Value)(j:Nat)(d:Value):(l++m).getD j d=if j<l.length then l.getD j d else m.getD (j-l.length) d:=by
 simp only [List.getD]
 split
 ·rw [List.getElem?_append_left (by assumption)]
 rw [List.getElem?_append_right Ad]
theorem St {α β:Type}{l:List α}{f g:α→List β}(h:∀x∈l,f x=g x):l.flatMap f=l.flatMap g:=by
 induction l with
 |nil=>rfl
 |cons x l ih=>simp only [List.flatMap_cons,h x C8,ih (fun y hy=>h y (by simp [hy]))]
theorem B3n {w:World}{n1 n2 es:Nat}{row1 row2 row:Nat→List Ai}{olds news:List Value}{fps1 fps2:Nat→List Nat}(l1:olds.length=n1 * es)(_l2:news.length=n2 * es)
  (r1:∀i,i<n1→(row1 i).length=es)(r2:∀i,i<n2→(row2 i).length=es)(hj:B6r n1 n2 row1 row2 row)
  (h1:∀i j c,i<n1→(row1 i)[j]? =some c→D3 w c (olds.getD (i * es+j) undef) (fps1 (i * es+j)))
  (h2:∀i j c,i<n2→(row2 i)[j]? =some c→D3 w c (news.getD (i * es+j) undef) (fps2 (i * es+j)))
  (hn1:((List.range (n1 * es)).flatMap fps1).Nodup)(hn2:((List.range (n2 * es)).flatMap fps2).Nodup)(hd:∀b∈(List.range (n1 * es)).flatMap fps1,b∉(List.range (n2 * es)).flatMap fps2)
  (b off cap:Nat)(ty:TypeId)(cells:Array Value)(hb:w.heap[b]? =some (.cells cells ty (0,0)))(hcap:n1+n2≤cap)(hm:cap≤maxLen)(hsz:(off+cap) * es≤cells.size)
  (hcells:∀k,k<(n1+n2) * es→cells.getD (off * es+k) undef=(olds++news).getD k undef)
  (hb1:b∉(List.range (n1 * es)).flatMap fps1)(hb2:b∉(List.range (n2 * es)).flatMap fps2):
  ∃fp',D3 w (.sl (n1+n2) es row) (.slice (some ⟨b,off * es,none⟩) (n1+n2) cap) fp'∧fp'.Nodup∧∀x∈fp',x=b∨x∈(List.range (n1 * es)).flatMap fps1∨x∈(List.range (n2 * es)).flatMap fps2:=by
 have flat:(List.range ((n1+n2) * es)).flatMap (fun k=>if k<n1 * es then fps1 k else fps2 (k-n1 * es))=(List.range (n1 * es)).flatMap fps1++(List.range (n2 * es)).flatMap fps2:=by
  rw [Nat.add_mul,List.range_add,List.flatMap_append,List.flatMap_map]
  congr 1
  ·refine St (fun k hk=>?_)
   rw [if_pos (List.mem_range.1 hk)]
  refine St (fun k _=>?_);rw [if_neg Ad,Nat.add_sub_cancel_left]
 refine ⟨b::(List.range ((n1+n2) * es)).flatMap (fun k=>if k<n1 * es then fps1 k else fps2 (k-n1 * es)),.sl (n1+n2) es row b off cap ty cells _ hcap hm hb hsz (fun i hi=>?_) (fun i j c hi hc=>?_),?_,fun x hx=>?_⟩
 ·by_cases h:i<n1
  ·rw [hj.1 i h];exact r1 i h
  obtain ⟨m,rfl⟩:∃m,i=n1+m:=⟨i-n1,by omega⟩;rw [hj.2 m Ad];exact r2 m Ad
 ·have hjl:j<es:=by
   have:=(List.getElem?_eq_some_iff.1 hc).1
   by_cases h:i<n1
   ·rw [hj.1 i h,r1 i h] at this;exact this
   obtain ⟨m,rfl⟩:∃m,i=n1+m:=⟨i-n1,by omega⟩;rw [hj.2 m Ad,r2 m Ad] at this;exact this
  have hk:=Fz hi hjl;rw [show (off+i) * es+j=off * es+(i * es+j) by rw [Nat.add_mul,Nat.add_assoc],hcells _ hk,A75,l1]
  by_cases h:i<n1
  ·have:=Fz h hjl
   rw [if_pos this,if_pos this];exact h1 i j c h (by rw [←hj.1 i h];exact hc)
  obtain ⟨m,rfl⟩:∃m,i=n1+m:=⟨i-n1,by omega⟩;have e:(n1+m) * es+j=n1 * es+(m * es+j):=by rw [Nat.add_mul,Nat.add_assoc]
  rw [e,if_neg Ad,if_neg Ad,Nat.add_sub_cancel_left];exact h2 m j c Ad (by rw [←hj.2 m Ad];exact hc)
 ·rw [flat,List.nodup_cons,List.nodup_append]
  refine ⟨fun h=>?_,hn1,hn2,fun x hx y hy e=>hd x hx (e▸hy)⟩
  rcases List.mem_append.1 h with h|h
  ·exact hb1 h
  exact hb2 h
 rw [flat] at hx
 rcases List.mem_cons.1 hx with h|h
 ·exact .inl h
 exact .inr (List.mem_append.1 h)
theorem A16 {t t2 e e2 ty:TypeId}{ie:TI}(hu:P.underlying t=some (.slice e))(hu2:P.underlying t2=some (.slice e2)∨P.underlying t2=some .string)(he:TI.of P e=some ie){w:World}{n1 n2:Nat}{row1 row2 row:Nat→List Ai}{v1 v2:Value}{fp1:List Nat}{news:List Value}{fps2:Nat→List Nat}
  (h1:D3 w (.sl n1 ie.size row1) v1 fp1)(hnd:fp1.Nodup)(h2:Src w v2 n2 ie.size row2 news fps2)(hn2:((List.range (n2 * ie.size)).flatMap fps2).Nodup)
  (hdis:∀b∈fp1,b∉(List.range (n2 * ie.size)).flatMap fps2)(hlt2:∀b∈(List.range (n2 * ie.size)).flatMap fps2,b<w.heap.size)(hj:B6r n1 n2 row1 row2 row)(_hpos:0<ie.size)
  (h63:n1+n2≤maxLen)(hbytes:(n1+n2) * ie.bytes≤140737488355328):
  ∃v' w' fp',(Builtin.append_ #[t,t2] ty #[v1,v2]).run P w= .ok v' w'∧A7a w w' fp1 ((List.range (n2 * ie.size)).flatMap fps2) (.sl (n1+n2) ie.size row) v' fp':=by
 obtain ⟨f,d,z,S⟩:=TI.of_spec he;have hzs:z.cells.size=ie.size:=by have:=S.zlen;rw [←S.cells] at this;simpa using this
 have hsmall:n1+n2≤9223372036854775807:=by simp only [maxLen] at h63;omega
 have lenv1:∀w',(Builtin.lenOf v1).run P w'= .ok n1 w':=by intro w';cases h1<;>rfl
 have grow:∀(old:Nat) (olds:List Value) (fps1:Nat→List Nat),old<n1+n2→olds.length=n1 * ie.size→
   (∀i,i<n1→(row1 i).length=ie.size)→(∀i j c,i<n1→(row1 i)[j]? =some c→D3 w c (olds.getD (i * ie.size+j) undef) (fps1 (i * ie.size+j)))→
   ((List.range (n1 * ie.size)).flatMap fps1).Nodup→(∀b∈(List.range (n1 * ie.size)).flatMap fps1,b∈fp1)→
   ∃fp',A7a w (w.drew.alloc (.cells (olds.toArray++news.toArray++Builtin.zeroCells z.cells (grownCap w (n1+n2) old e-(n1+n2))) e)) fp1 ((List.range (n2 * ie.size)).flatMap fps2) (.sl (n1+n2) ie.size row)
    (.slice (some ⟨w.heap.size,0,none⟩) (n1+n2) (grownCap w (n1+n2) old e)) fp':=by
  intro old olds fps1 hold l1 r1 g1 nd1 sub1;have hge:=grownCap_ge w (n1+n2) old e;have hcm:=grownCap_le_maxLen w (n1+n2) old e h63;generalize grownCap w (n1+n2) old e=cap at *;have hlt1:∀b∈(List.range (n1 * ie.size)).flatMap fps1,b<w.heap.size:=fun b hb=>h1.lt b (sub1 b hb);have hk:∀b,b<w.heap.size→(w.drew.alloc (.cells (olds.toArray++news.toArray++Builtin.zeroCells z.cells (cap-(n1+n2))) e)).heap[b]? =w.heap[b]? :=fun b hb=>Fv w.drew _ b hb
  have hsz:(olds.toArray++news.toArray++Builtin.zeroCells z.cells (cap-(n1+n2))).size=cap * ie.size:=by
   simp only [Array.size_append,List.size_toArray,Ku,hzs,l1,h2.len,←Nat.add_mul]
   congr 1
   omega
  obtain ⟨fp',k1,k2,k3⟩:=B3n (w:=w.drew.alloc (.cells (olds.toArray++news.toArray++Builtin.zeroCells z.cells (cap-(n1+n2))) e)) (row:=row) l1 h2.len r1 h2.rows hj
   (fun i j c hi hc=>(g1 i j c hi hc).move (fun b hb=>hk b ((g1 i j c hi hc).lt b hb)))
   (fun i j c hi hc=>(h2.rep i j c hi hc).move (fun b hb=>hk b ((h2.rep i j c hi hc).lt b hb)))
   nd1 hn2 (fun b hb=>hdis b (sub1 b hb)) w.heap.size 0 cap e _ (heap_alloc_new w.drew _) hge hcm (by rw [hsz];simp) (fun k hk'=>by
    rw [←Cg];simp only [Array.toList_append,Nat.zero_mul,Nat.zero_add]
    rw [A75,if_pos (by simp [l1,h2.len,←Nat.add_mul];exact hk')])
   (fun h=>Nat.lt_irrefl _ (hlt1 _ h)) (fun h=>Nat.lt_irrefl _ (hlt2 _ h))
  simp only [Nat.zero_mul] at k1;refine ⟨fp',k1,k2,fun b hb=>?_,⟨rfl,rfl,rfl,by simp,fun k hk' _=>hk k hk',Nat.le_succ _⟩⟩
  rcases k3 b hb with rfl|h|h
  ·exact .inr (.inr (Nat.le_refl _))
  ·exact .inl (sub1 b h)
  exact .inr (.inl h)
 have hfits:∀old,old<n1+n2→Builtin.nextslicecap (n1+n2) old * f.bytes≤281474976710656:=fun old ho=>by rw [S.bytes];exact growslice_fits ho hbytes
 generalize hc1:Ai.sl n1 ie.size row1=c1 at h1
 cases h1 with
 |val x h=>simp at hc1
 |nil es row'=>
  simp only [Ai.sl.injEq] at hc1;obtain ⟨rfl,rfl,rfl⟩:=hc1
  by_cases h0:n2=0
  ·subst h0
   have hnews:news=[]:=List.eq_nil_of_length_eq_zero (by simpa using h2.len);refine ⟨.slice none 0 0,w,[],?_,⟨.nil _ _,by simp,by simp,⟨rfl,rfl,rfl,Nat.le_refl _,fun _ _ _=>rfl,Nat.le_refl _⟩⟩⟩
   have hl:=h2.lenOf (P:=P) w;have hf:=h2.first (P:=P) (w':=w) (fun _=>rfl)
   rcases hu2 with hu2|hu2<;>simp [Builtin.append_,run_underlying hu,run_underlying hu2,C0 he,hl,hf,hnews]
  obtain ⟨fp',k⟩:=grow 0 [] (fun _=>[]) Ad C8 (fun i hi=>by omega) (fun i j c hi=>by omega) C8 C8;have hl:=h2.lenOf (P:=P) w;have hf:=h2.first (P:=P) (w':=w.drew) (fun _=>rfl);refine ⟨_,_,fp',?_,k⟩;have hz':=hfits 0 Ad;have h63':¬ (9223372036854775807<(n2:Int)):=by omega
  simp only [Nat.zero_add] at hz' ⊢;have h48':¬ (281474976710656<Builtin.nextslicecap n2 0 * f.bytes):=by omega
  rcases hu2 with hu2|hu2<;>simp [Builtin.append_,run_underlying hu,run_underlying hu2,C0 he,hl,h0,h63',typeInfo,S.hf,h48',Question.forced,run_firstCells_none,hf,zeroValue,S.hz,newRow,grownCap]
 |emp es row' b0 o0=>
  simp only [Ai.sl.injEq] at hc1;obtain ⟨rfl,rfl,rfl⟩:=hc1
  by_cases h0:n2=0
  ·subst h0
   have hnews:news=[]:=List.eq_nil_of_length_eq_zero (by simpa using h2.len);refine ⟨.slice (some ⟨b0,o0,none⟩) 0 0,w,[],?_,⟨.emp _ _ b0 o0,by simp,by simp,⟨rfl,rfl,rfl,Nat.le_refl _,fun _ _ _=>rfl,Nat.le_refl _⟩⟩⟩
   have hl:=h2.lenOf (P:=P) w;have hf:=h2.first (P:=P) (w':=w) (fun _=>rfl)
   rcases hu2 with hu2|hu2<;>simp [Builtin.append_,run_underlying hu,run_underlying hu2,C0 he,hl,hf,hnews,storeCells]
  obtain ⟨fp',k⟩:=grow 0 [] (fun _=>[]) Ad C8 (fun i hi=>by omega) (fun i j c hi=>by omega) C8 C8;have hl:=h2.lenOf (P:=P) w;have hf:=h2.first (P:=P) (w':=w.drew) (fun _=>rfl);have hfo:=run_firstCells_some (P:=P) w.drew ie.size 0 ⟨b0,o0,none⟩ 0 0 [] C8 (fun j v hv=>by simp at hv);refine ⟨_,_,fp',?_,k⟩;have hz':=hfits 0 Ad;have h63':¬ (9223372036854775807<(n2:Int)):=by omega
  simp only [Nat.zero_add] at hz' ⊢;have h48':¬ (281474976710656<Builtin.nextslicecap n2 0 * f.bytes):=by omega
  rcases hu2 with hu2|hu2<;>simp [Builtin.append_,run_underlying hu,run_underlying hu2,C0 he,hl,h0,h63',typeInfo,S.hf,h48',Question.forced,hfo,hf,zeroValue,S.hz,newRow,grownCap]
 |sl n es row' b off cap ty' cells fps hn hc hb hs hll hr=>
  simp only [Ai.sl.injEq] at hc1;obtain ⟨rfl,rfl,rfl⟩:=hc1;obtain ⟨hb0,hnd1⟩:=List.nodup_cons.1 hnd;have Xt:∀k,k<n1 * ie.size→cells.getD (off * ie.size+k) undef=(((List.range (n1 * ie.size)).map fun k=>cells.getD (off * ie.size+k) undef)).getD k undef:=fun k hk=>by simp [List.getD,hk]
  have hreal:∀i j c,i<n1→(row1 i)[j]? =some c→D3 w c ((((List.range (n1 * ie.size)).map fun k=>cells.getD (off * ie.size+k) undef)).getD (i * ie.size+j) undef) (fps (i * ie.size+j)):=by
   intro i j c hi hcj;have hjl:j<ie.size:=by have:=(List.getElem?_eq_some_iff.1 hcj).1;rw [hll i hi] at this;exact this
   rw [←Xt _ (Fz hi hjl)]
   have:=hr i j c hi hcj
   rwa [show (off+i) * ie.size+j=off * ie.size+(i * ie.size+j) by rw [Nat.add_mul,Nat.add_assoc]] at this
  have hl:=h2.lenOf (P:=P) w
  by_cases hroom:n1+n2≤cap
  ·
   have hf:=h2.first (P:=P) (w':=w) (fun _=>rfl)
   have hfit:(off+n1) * ie.size+news.length≤cells.size:=by
    rw [h2.len,←Nat.add_mul];exact Nat.le_trans (Nat.mul_le_mul_right _ Ad) hs
   have hst:=run_storeCells_at P b ((off+n1) * ie.size) ty' news 0 cells w hb (by simpa using hfit) h2.one;simp only [Nat.add_zero] at hst;have hk:∀x,x≠b→(w.setRow b (cells.toList.take ((off+n1) * ie.size)++news++cells.toList.drop ((off+n1) * ie.size+news.length)).toArray).heap[x]? =w.heap[x]? :=fun x hx=>Fg w b x _ hx
   have hb2:b∉(List.range (n2 * ie.size)).flatMap fps2:=hdis b C8
   obtain ⟨fp',k1,k2,k3⟩:=B3n (w:=w.setRow b (cells.toList.take ((off+n1) * ie.size)++news++cells.toList.drop ((off+n1) * ie.size+news.length)).toArray) (row:=row)
    (olds:=(List.range (n1 * ie.size)).map fun k=>cells.getD (off * ie.size+k) undef) C8 h2.len hll h2.rows hj
    (fun i j c hi hcj=>(hreal i j c hi hcj).move (fun x hx=>hk x (fun e=>by
     have hjl:j<ie.size:=by have:=(List.getElem?_eq_some_iff.1 hcj).1;rw [hll i hi] at this;exact this
     exact hb0 (e▸Ek (Fz hi hjl) hx))))
    (fun i j c hi hcj=>(h2.rep i j c hi hcj).move (fun x hx=>hk x (fun e=>by
     have hjl:j<ie.size:=by have:=(List.getElem?_eq_some_iff.1 hcj).1;rw [h2.rows i hi] at this;exact this
     exact hb2 (e▸Ek (Fz hi hjl) hx))))
    hnd1 hn2 (fun x hx=>hdis x (List.mem_cons_of_mem _ hx)) b off cap ty' _ (setRow_heap w b cells _ ty' (0,0) hb) hroom hc (by
     simp only [List.size_toArray,List.length_append,List.length_take,List.length_drop,Array.length_toList]
     omega)
    (fun k hk'=>by
     rw [←Cg];simp only [List.getD];have e1:(List.take ((off+n1) * ie.size) cells.toList).length=(off+n1) * ie.size:=by simp;omega
     have e2:(off+n1) * ie.size=off * ie.size+n1 * ie.size:=Nat.add_mul _ _ _
     by_cases hkn:k<n1 * ie.size
     ·rw [List.append_assoc,List.getElem?_append_left (by rw [e1];omega),List.getElem?_append_left (by simp;exact hkn)]
      have:off * ie.size+k<cells.size:=by omega
      simp [hkn,show off * ie.size+k<(off+n1) * ie.size by omega,Array.getD,this]
     rw [List.append_assoc,List.getElem?_append_right (by rw [e1];omega),e1,List.getElem?_append_left (by rw [h2.len];rw [Nat.add_mul] at hk';omega),
      List.getElem?_append_right (by simp;omega)]
     simp only [List.length_map,List.length_range]
     rw [show off * ie.size+k-(off+n1) * ie.size=k-n1 * ie.size by omega])
    hb0 hb2
   refine ⟨_,_,fp',?_,k1,k2,fun x hx=>?_,⟨rfl,rfl,rfl,by simp,fun k _ hk'=>hk k (fun e=>hk' (by simp [e])),by first|exact Nat.le_refl _|exact Nat.le_succ _⟩⟩
   ·have hadd:((⟨b,off * ie.size,none⟩:Addr).add (n1 * ie.size))=⟨b,(off+n1) * ie.size,none⟩:=by rw [Hh,Nat.add_mul]
    rcases hu2 with hu2|hu2<;>simp [Builtin.append_,run_underlying hu,run_underlying hu2,C0 he,hl,hroom,hf,hadd,hst]
   rcases k3 x hx with rfl|h|h
   ·exact .inl C8
   ·exact .inl (List.mem_cons_of_mem _ h)
   exact .inr (.inl h)
  obtain ⟨fp',k⟩:=grow cap ((List.range (n1 * ie.size)).map fun k=>cells.getD (off * ie.size+k) undef) fps Ad C8 hll hreal hnd1 (fun x hx=>List.mem_cons_of_mem _ hx);have hf:=h2.first (P:=P) (w':=w.drew) (fun _=>rfl)
  have hfo:=run_firstCells_some (P:=P) w.drew ie.size n1 ⟨b,off * ie.size,none⟩ n1 cap ((List.range (n1 * ie.size)).map fun k=>cells.getD (off * ie.size+k) undef) C8 (fun j v hv=>by
   have hjl:j<n1 * ie.size:=by simpa using (List.getElem?_eq_some_iff.1 hv).1
   have hlt:off * ie.size+j<cells.size:=by
    have:=Nat.mul_le_mul_right ie.size (show off+n1≤off+cap by omega)
    rw [Nat.add_mul] at this;omega
   rw [Hh,B40,cell_of_row w b _ cells ty' (0,0) hb];simp only [List.getElem?_map,hjl,Option.map_some,Option.some.injEq,List.getElem?_range] at hv;rw [←hv]
   simp [Array.getD,hlt])
  refine ⟨_,_,fp',?_,k⟩;have h63':¬ (9223372036854775807<((n1:Int)+(n2:Int))):=by omega
  have hz':=hfits cap Ad;have h48':¬ (281474976710656<Builtin.nextslicecap (n1+n2) cap * f.bytes):=by omega
  rcases hu2 with hu2|hu2<;>simp [Builtin.append_,run_underlying hu,run_underlying hu2,C0 he,hl,hroom,h63',typeInfo,S.hf,h48',Question.forced,hfo,hf,zeroValue,S.hz,newRow,grownCap]
  all_goals (congr 2;apply Array.ext';simp [List.append_assoc])
end Go.Sx
namespace Go.Sx
variable {P : Program} {T : List (TypeId × TI)}
def Wb (k:Nat) (l:List Nat):Bool:=
 match l with
 | []=>false
 |x::r=>Nat.beq x k||Wb k r
theorem Gt {k:Nat}{l:List Nat}:Wb k l=true↔k∈l:=by
 induction l with
 |nil=>simp [Wb]
 |cons x r ih=>
  simp only [Wb,Bool.or_eq_true,ih,List.mem_cons]
  constructor
  ·rintro (h|h)
   ·exact .inl (Nat.eq_of_beq_eq_true h).symm
   exact .inr h
  rintro (rfl|h)
  ·exact .inl C8
  exact .inr h
def Bz (ks:List Nat) (l:List Ow):List Ow:=
 match l with
 | []=>[]
 |o::r=>match Wb o.key ks with
  |true=>Bz ks r
  |false=>o::Bz ks r
theorem Cr {ks:List Nat}{l:List Ow}{o:Ow}:o∈Bz ks l↔o∈l∧o.key∉ks:=by
 induction l with
 |nil=>simp [Bz]
 |cons x r ih=>
  unfold Bz
  split
  ·rename_i h
   have:=Gt.1 h
   rw [ih,List.mem_cons];exact ⟨fun h=>⟨.inr h.1,h.2⟩,fun h=>⟨h.1.resolve_left (fun e=>h.2 (e▸this)),h.2⟩⟩
  rename_i h
  have:x.key∉ks:=fun hm=>by rw [Gt.2 hm] at h;simp at h
  rw [List.mem_cons,ih,List.mem_cons];exact ⟨fun h=>by rcases h with rfl|h;exact ⟨.inl rfl,this⟩;exact ⟨.inr h.1,h.2⟩,fun h=>h.1.imp id (fun h'=>⟨h',h.2⟩)⟩
theorem Y5 {ks:List Nat}{l:List Ow}(h:(l.map (·.key)).Nodup):((Bz ks l).map (·.key)).Nodup:=by
 induction l with
 |nil=>simp [Bz]
 |cons x r ih=>
  simp only [List.map_cons,List.nodup_cons] at h;unfold Bz
  split
  ·exact ih h.2
  simp only [List.map_cons,List.nodup_cons];refine ⟨fun hm=>h.1 ?_,ih h.2⟩
  obtain ⟨o,ho,e⟩:=List.mem_map.1 hm;exact List.mem_map.2 ⟨o,(Cr.1 ho).1,e⟩
theorem AS.is.drop {s:AS}{B:Be}{E:E7}{a:Act}{w:World}(h:s.is B E a w)(ks:List Nat):({s with own:=Bz ks s.own}:AS).isA B E (s.avoid E) a w:=by
 have av:∀b,({s with own:=Bz ks s.own}:AS).avoid E b→s.avoid E b:=by
  rintro b (h|⟨y,hy,hb⟩)
  ·exact .inl h
  exact .inr ⟨y,(Cr.1 hy).1,hb⟩
 exact ⟨h.defers,h.links,h.size,h.slots,h.boxes,h.boxes2,h.keys,fun y hy=>h.own y (Cr.1 hy).1,Y5 h.ownkeys,
  fun y hy z hz=>h.sep y (Cr.1 hy).1 z (Cr.1 hz).1,fun x hx y hy=>h.sepB x hx y (Cr.1 hy).1,h.one,h.base,fun b hb=>h.fresh b (av b hb),av⟩
theorem AS.isA.kept {s:AS}{B:Be}{E:E7}{A X:Nat→Prop}{a:Act}{w w':World}(h:s.isA B E A a w)(hk:B4a X w w')(hX:∀b,X b→A b∧¬ s.avoid E b∧B.fresh b):
  s.isA B E (fun b=>A b∨w.heap.size≤b) a w':=by
 have mv:∀x v,Dr E w A s.next x v→Dr E w' (fun b=>A b∨w.heap.size≤b) s.next x v:=fun x v hx=>
  hx.move (Nat.le_refl _) (fun _ _=>⟨rfl,rfl⟩) (fun b hA hl=>hk.block b hl (fun hx=>hA (hX b hx).1)) (fun b hl hA=>by
   rcases hA with h|h
   ·exact h
   omega)
 refine ⟨h.defers,h.links,h.size,fun i x hx=>mv _ _ (h.slots i x hx),fun x hx=>?_,h.boxes2,h.keys,fun y hy=>?_,h.ownkeys,h.sep,h.sepB,h.one,?_,h.fresh,fun b hb=> .inl (h.sub b hb)⟩
 ·obtain ⟨h1,vs,ty,h2,h3,h4⟩:=h.boxes x hx
  refine ⟨h1,vs,ty,?_,h3,fun i y hy=>mv _ _ (h4 i y hy)⟩;rw [hk.block _ (Array.getElem?_eq_some_iff.1 h2).1 (fun hX'=>(hX _ hX').2.1 (.inl ⟨x,hx,rfl⟩))];exact h2
 ·obtain ⟨h1,h2,h3⟩:=h.own y hy
  exact ⟨h1,h2.move (fun b hb=>hk.block b (h2.lt b hb) (fun hX'=>(hX b hX').2.1 (.inr ⟨y,hy,hb⟩))),h3⟩
 have hB:=h.base;refine ⟨hk.os.trans hB.os,hk.tape.trans hB.tape,hk.output.trans hB.output,Nat.le_trans hB.size hk.size,fun k hl hm=>?_,Nat.le_trans hB.drawn hk.drawn⟩
 rw [hk.block k (Nat.lt_of_lt_of_le hl hB.size) (fun hX'=>by
  rcases (hX k hX').2.2 with h|h
  ·omega
  exact hm h)]
 exact hB.block k hl hm
def B2z (own:List Ow) (x:AV) (es:Nat):Option (Nat×(Nat→List Ai)×List Nat):=
 match x with
 | .own k=>match Cb own k with
  |some (.sl n e row)=>match Nat.beq e es with
   |true=>some (n,row,[k])
   |false=>none
  |_=>none
 | .c (.val (.slice none 0 0))=>some (0,fun _=>[],[])
 |_=>none
def B32 (own:List Ow) (x:AV) (es:Nat):Option (Nat×(Nat→List Ai)×List Nat):=
 match x with
 | .own k=>match Cb own k with
  |some (.sl n e row)=>match Nat.beq e es with
   |true=>some (n,row,[k])
   |false=>none
  |_=>none
 | .c (.val (.slice none 0 0))=>some (0,fun _=>[],[])
 | .c (.sl n e row)=>match Nat.beq e es with
  |true=>some (n,row,[])
  |false=>none
 | .c (.val (.string b))=>match Nat.beq es 1 with
  |true=>some (b.size,fun i=>[.val (.int .u8 (b.data.getD i 0).toNat)],[])
  |false=>none
 |_=>none
def Ug (n1 n2 es:Nat) (row1 row2:Nat→List Ai) (c:Ai):Prop:=∃row,c= .sl (n1+n2) es row∧B6r n1 n2 row1 row2 row
def F5 (n:Nat) (row:Nat→List Ai):Prop:=∀i,i<n→∀c∈row i,∃x,c= .val x
theorem B41 {B:Be}{E:E7}{s:AS}{a:Act}{w:World}(h:s.is B E a w){x:AV}{v:Value}(hd:Dr E w (s.avoid E) s.next x v){n es:Nat}{row:Nat→List Ai}{ks:List Nat}
  (hx:B2z s.own x es=some (n,row,ks)):∃row' fp,D3 w (.sl n es row') v fp∧(∀i,i<n→row' i=row i)∧fp.Nodup∧fp=ks.flatMap E.fp∧∀k∈ks,∃y∈s.own,y.key=k:=by
 unfold B2z at hx
 split at hx
 ·rename_i k
  split at hx
  ·rename_i n' e' row' hg
   split at hx
   ·rename_i he
    obtain rfl:=Nat.eq_of_beq_eq_true he;simp only [Option.some.injEq,Prod.mk.injEq] at hx;obtain ⟨rfl,rfl,rfl⟩:=hx;have hm:=Cp hg
    cases hd with
    |own hk=>
     obtain ⟨_,h2,h3⟩:=h.own _ hm;exact ⟨_,_,h2,fun _ _=>rfl,h3,by simp,fun j hj=>by simp at hj;subst hj;exact ⟨_,hm,rfl⟩⟩
   simp at hx
  simp at hx
 ·simp only [Option.some.injEq,Prod.mk.injEq] at hx
  obtain ⟨rfl,rfl,rfl⟩:=hx;have e:=Bo hd;subst e;exact ⟨_,[],.nil es _,fun _ _=>rfl,by simp,by simp,by simp⟩
 simp at hx
theorem Iy {α:Type}(l:List α):l.flatMap (fun _=>([]:List Nat))=[]:=by
 induction l with
 |nil=>rfl
 |cons x l ih=>simp
theorem B6b {B:Be}{E:E7}{s:AS}{a:Act}{w:World}(h:s.is B E a w){x:AV}{v:Value}(hd:Dr E w (s.avoid E) s.next x v){n es:Nat}{row:Nat→List Ai}{ks:List Nat}
  (hx:B32 s.own x es=some (n,row,ks))(hf:ks=[]→F5 n row):∃news fps,Src w v n es row news fps∧((List.range (n * es)).flatMap fps).Nodup∧(∀b∈(List.range (n * es)).flatMap fps,b∈ks.flatMap E.fp)∧
   ∀k∈ks,∃y∈s.own,y.key=k:=by
 have nilc:∀(row:Nat→List Ai),Src w (.slice none 0 0) 0 es row [] (fun _=>[]):=fun row=>⟨by simp,fun i hi=>by omega,.inl ⟨rfl,rfl⟩,fun i j c hi=>by omega⟩
 unfold B32 at hx
 split at hx
 ·rename_i k
  split at hx
  ·rename_i n' e' row' hg
   split at hx
   ·rename_i he
    obtain rfl:=Nat.eq_of_beq_eq_true he;simp only [Option.some.injEq,Prod.mk.injEq] at hx;obtain ⟨rfl,rfl,rfl⟩:=hx;have hm:=Cp hg
    cases hd with
    |own hk=>
     obtain ⟨_,h2,h3⟩:=h.own _ hm;have keys:∀j∈[k],∃y∈s.own,y.key=j:=fun j hj=>by simp at hj;subst hj;exact ⟨_,hm,rfl⟩
     simp only at h2 h3
     generalize hv:E.ov k=v,hfp:E.fp k=fp at h2;rw [hfp] at h3
     cases h2 with
     |nil=>exact ⟨[],fun _=>[],nilc _,by simp,by simp,keys⟩
     |emp _ _ b0 o0=>exact ⟨[],fun _=>[],⟨by simp,fun i hi=>by omega,.inr (.inr (.inl ⟨b0,o0,0,rfl,fun j hj=>by simp at hj⟩)),fun i j c hi=>by omega⟩,by simp,by simp,keys⟩
     |sl _ _ _ b off cap ty cells fps hn hc hb hs hl hr=>
      obtain ⟨h4,h5⟩:=List.nodup_cons.1 h3;refine ⟨(List.range (n' * e')).map fun k=>cells.getD (off * e'+k) undef,fps,⟨by simp,hl,.inr (.inr (.inl ⟨b,off * e',cap,rfl,fun j hj=>?_⟩)),fun i j c hi hcj=>?_⟩,h5,fun x hx=>?_,keys⟩
      ·have hlt:off * e'+j<cells.size:=by
        have:=Nat.mul_le_mul_right e' (show off+n'≤off+cap by omega)
        rw [Nat.add_mul] at this;omega
       rw [cell_of_row w b _ cells ty (0,0) hb]
       simp [List.getD,hj,Array.getD,hlt]
      ·have hjl:j<e':=by have:=(List.getElem?_eq_some_iff.1 hcj).1;rw [hl i hi] at this;exact this
       have:=hr i j c hi hcj
       rw [show (off+i) * e'+j=off * e'+(i * e'+j) by rw [Nat.add_mul,Nat.add_assoc]] at this
       simpa [List.getD,Fz hi hjl] using this
      simp [hfp,hx]
   simp at hx
  simp at hx
 ·simp only [Option.some.injEq,Prod.mk.injEq] at hx
  obtain ⟨rfl,rfl,rfl⟩:=hx;have e:=Bo hd;subst e;exact ⟨[],fun _=>[],nilc _,by simp,by simp,by simp⟩
 ·rename_i n' e' row'
  split at hx
  ·rename_i he
   obtain rfl:=Nat.eq_of_beq_eq_true he;simp only [Option.some.injEq,Prod.mk.injEq] at hx;obtain ⟨rfl,rfl,rfl⟩:=hx;have hf:=hf rfl
   cases hd with
   |c hr=>
    cases hr with
    |nil=>exact ⟨[],fun _=>[],nilc _,by simp,by simp,by simp⟩
    |emp _ _ a=>exact ⟨[],fun _=>[],⟨by simp,fun i hi=>by omega,.inr (.inl ⟨a,rfl,rfl⟩),fun i j c hi=>by omega⟩,by simp,by simp,by simp⟩
    |sl _ _ _ b off cap u hA hn hc hl hu hr=>
     refine ⟨(List.range (n' * e')).map fun k=>u (k / e') (k % e'),fun _=>[],⟨by simp,hl,.inr (.inr (.inl ⟨b,off,cap,rfl,fun j hj=>?_⟩)),fun i j c hi hcj=>?_⟩,by rw [Iy];exact List.nodup_nil,by rw [Iy];simp,by simp⟩
     ·have he:0<e':=Nat.pos_of_ne_zero (fun h=>by subst h;simp at hj)
      have hi:j / e'<n':=Nat.div_lt_of_lt_mul (by rw [Nat.mul_comm];exact hj)
      have:=hu (j / e') (j % e') hi (Nat.mod_lt _ he)
      rw [show off+j / e' * e'+j % e'=off+j by rw [Nat.add_assoc,Nat.mul_comm (j / e'),Nat.div_add_mod]] at this
      simp [List.getD,hj,this]
     have hjl:j<e':=by have:=(List.getElem?_eq_some_iff.1 hcj).1;rw [hl i hi] at this;exact this
     have he:0<e':=by omega
     have h1:(i * e'+j) / e'=i:=by rw [Nat.mul_comm,Nat.mul_add_div he,Nat.div_eq_of_lt hjl];omega
     have h2:(i * e'+j) % e'=j:=by rw [Nat.mul_comm,Nat.mul_add_mod];exact Nat.mod_eq_of_lt hjl
     obtain ⟨x,rfl⟩:=hf i hi c (List.mem_of_getElem? hcj);have hone:=(hr i j _ hi hcj).one;have hval:u i j=x:=by have:=hr i j _ hi hcj;cases this;rfl
     simp only [List.getD,List.getElem?_map,List.getElem?_range,Fz hi hjl,Option.map_some,Option.getD_some,h1,h2];rw [hval] at hone ⊢;exact .val x hone
  simp at hx
 ·rename_i b
  split at hx
  ·rename_i he
   obtain rfl:=Nat.eq_of_beq_eq_true he;simp only [Option.some.injEq,Prod.mk.injEq] at hx;obtain ⟨rfl,rfl,rfl⟩:=hx;have e:=Bo hd;subst e;refine ⟨b.data.toList.map fun b=> .int .u8 b.toNat,fun _=>[],⟨by rw [List.length_map,Nat.mul_one];exact Array.length_toList,fun _ _=>rfl,.inr (.inr (.inr ⟨b,rfl,rfl,rfl,rfl⟩)),fun i j c hi hcj=>?_⟩,by rw [Iy];exact List.nodup_nil,by rw [Iy];simp,by simp⟩
   obtain rfl:j=0:=by
    have:=(List.getElem?_eq_some_iff.1 hcj).1
    simpa using this
   simp only [List.getElem?_cons_zero,Option.some.injEq] at hcj;subst hcj;have hi':i<b.data.size:=hi
   have e:(b.data.toList.map fun b=>Value.int .u8 b.toNat).getD (i * 1+0) undef= .int .u8 (b.data.getD i 0).toNat:=by
    rw [Nat.mul_one,Nat.add_zero,List.getD,List.getElem?_map,Array.getElem?_toList,Array.getElem?_eq_getElem hi',Array.getD_eq_getD_getElem?,Array.getElem?_eq_getElem hi'];rfl
   rw [e];exact .val _ rfl
  simp at hx
 simp at hx
theorem B66 (hT:Cs P T){B:Be}{Q:Exit→Act→World→Prop}{q:Bool}{all:Array Oper}{o:Oper}{rest:List Oper}{K:List KI}{s:AS}{x y:Operand}{t t' e e2:TypeId}{i j:TI}
  (hg:o.guard=none)(ho:o.op= .call {callee:= .builtin .append,args:= #[x,y],argTypes:= #[t,t']})(htt:P.underlying t'=some (.slice e2)∨P.underlying t'=some .string)
  (hi:find T t=some i)(he:i.elem=some e)(hj:find T e=some j)(hp:Nat.blt 0 j.size=true)
  {n1 n2:Nat}{row1 row2:Nat→List Ai}{ks1 ks2:List Nat}(hd:B2z s.own (s.ev x) j.size=some (n1,row1,ks1))(hs:B32 s.own (s.ev y) j.size=some (n2,row2,ks2))
  (hk:Gv (ks1++ks2)=true)(c:Ai)(hc:Ug n1 n2 j.size row1 row2 c)(hf:ks2=[]→F5 n2 row2)
  (hb:n1+n2≤549755813888∧Nat.ble j.bytes 256=true)
  (h:G P B Q (.ops q all rest::K) (({s with own:=⟨s.next,c⟩::Bz (ks1++ks2) s.own,next:=s.next+1}:AS).put o.dst (.own s.next))):G P B Q (.ops q all (o::rest)::K) s:=by
 refine H5 hg (by rw [ho];simp [Eb]) (fun E a w hs'=>?_);obtain ⟨row1',fp,h1,h2,h3,h4,h5⟩:=B41 hs' (hs'.ev x) hd;obtain ⟨news,fps2,g1,g2,g3,g4⟩:=B6b hs' (hs'.ev y) hs hf;obtain ⟨row,rfl,hJ⟩:=hc;have hnd:=Eu hk;obtain ⟨hnd1,hnd2,hnd3⟩:=List.nodup_append.1 hnd
 have hdis:∀b∈fp,b∉(List.range (n2 * j.size)).flatMap fps2:=by
  intro b hb hb';rw [h4] at hb;obtain ⟨k,hk1,hb1⟩:=List.mem_flatMap.1 hb;obtain ⟨l,hl1,hb2⟩:=List.mem_flatMap.1 (g3 b hb');obtain ⟨y1,hy1,rfl⟩:=h5 k hk1;obtain ⟨y2,hy2,rfl⟩:=g4 l hl1;exact hs'.sep y1 hy1 y2 hy2 (hnd3 _ hk1 _ hl1) b hb1 hb2
 have hlt2:∀b∈(List.range (n2 * j.size)).flatMap fps2,b<w.heap.size:=by
  intro b hb;obtain ⟨l,hl1,hb2⟩:=List.mem_flatMap.1 (g3 b hb);obtain ⟨y2,hy2,rfl⟩:=g4 l hl1;exact (hs'.own y2 hy2).2.1.lt b hb2
 obtain ⟨hb1,hb2⟩:=hb;have hb2:=Nat.le_of_ble_eq_true hb2
 obtain ⟨v',w',fp',hrun,hA⟩:=A16 (P:=P) (ty:=o.type) (row:=row) (Cm (hT t i hi) he) htt (hT e j hj) h1 h3 g1 g2 hdis hlt2 ⟨fun i hi=>(hJ.1 i hi).trans (h2 i hi).symm,hJ.2⟩ (Ir hp)
  (by simp only [maxLen];omega) (Nat.le_trans (Nat.mul_le_mul hb1 hb2) Ad)
 have hI:=hs'.drop (ks1++ks2)
 have key:∀b,(b∈fp∨b∈(List.range (n2 * j.size)).flatMap fps2)→s.avoid E b∧¬ ({s with own:=Bz (ks1++ks2) s.own}:AS).avoid E b:=by
  intro b hb
  have:∃k∈ks1++ks2,∃y∈s.own,y.key=k∧b∈E.fp k:=by
   rcases hb with hb|hb
   ·rw [h4] at hb
    obtain ⟨k,hk1,hb1⟩:=List.mem_flatMap.1 hb;obtain ⟨y1,hy1,e⟩:=h5 k hk1;exact ⟨k,List.mem_append_left _ hk1,y1,hy1,e,hb1⟩
   obtain ⟨l,hl1,hb2⟩:=List.mem_flatMap.1 (g3 b hb);obtain ⟨y2,hy2,e⟩:=g4 l hl1;exact ⟨l,List.mem_append_right _ hl1,y2,hy2,e,hb2⟩
  obtain ⟨k,hk1,y,hy,rfl,hb⟩:=this;refine ⟨.inr ⟨y,hy,hb⟩,?_⟩
  rintro (⟨z,hz,rfl⟩|⟨z,hz,hb'⟩)
  ·exact hs'.sepB z hz y hy hb
  obtain ⟨hz1,hz2⟩:=Cr.1 hz;exact hs'.sep y hy z hz1 (fun e=>hz2 (e▸hk1)) b hb hb'
 have hI2:=hI.kept hA.kept (fun b hb=>⟨(key b (.inl hb)).1,(key b (.inl hb)).2,hs'.fresh b (key b (.inl hb)).1⟩)
 obtain ⟨k1,k2⟩:=hI2.addOwn hA.own hA.nodup (fun b hb=>by
  rcases hA.sub b hb with h|h|h
  ·exact ⟨.inl (key b (.inl h)).1,(key b (.inl h)).2,hs'.fresh b (key b (.inl h)).1⟩
  ·exact ⟨.inl (key b (.inr h)).1,(key b (.inr h)).2,hs'.fresh b (key b (.inr h)).1⟩
  refine ⟨.inr h,fun hav=>?_,.inl (Nat.le_trans hs'.base.size h)⟩
  have:=hs'.avoid_lt (hI.sub b hav)
  omega)
 have hput:=(k1.put o.dst k2).is;refine ⟨v',w',.inl ?_,fun hk=>(by rw [ho] at hk;simp [Eb] at hk),h _ _ _ hput⟩;obtain ⟨dst,op',ty,pos,after,guard⟩:=o
 simp only at ho
 subst ho
 simp only at hrun
 simp [execOp,resolve,invoke,builtin,hrun]
end Go.Sx
namespace Go.Sx
variable {P : Program} {T : List (TypeId × TI)}
def E7.setFp (E:E7) (n:Nat) (fp:List Nat):E7:= {E with fp:=fun k=>if k=n then fp else E.fp k}
theorem AS.isA.addAt {s:AS}{B:Be}{E:E7}{A:Nat→Prop}{a:Act}{w:World}(h:s.isA B E A a w){k:Nat}(hk:k<s.next)(hn:∀y∈s.own,y.key≠k){c:Ai}{fp:List Nat}
  (ho:D3 w c (E.ov k) fp)(hnd:fp.Nodup)(hA:∀b∈fp,A b∧¬ s.avoid E b∧B.fresh b):({s with own:=⟨k,c⟩::s.own}:AS).isA B (E.setFp k fp) A a w:=by
 have kfp:∀y∈s.own,(E.setFp k fp).fp y.key=E.fp y.key:=fun y hy=>by simp [E7.setFp,hn y hy]
 have kfn:(E.setFp k fp).fp k=fp:=by simp [E7.setFp]
 have av:∀b,({s with own:=⟨k,c⟩::s.own}:AS).avoid (E.setFp k fp) b→b∈fp∨s.avoid E b:=by
  rintro b (⟨x,hx,rfl⟩|⟨y,hy,hb⟩)
  ·exact .inr (.inl ⟨x,hx,rfl⟩)
  rcases List.mem_cons.1 hy with rfl|hy
  ·rw [kfn] at hb;exact .inl hb
  rw [kfp y hy] at hb;exact .inr (.inr ⟨y,hy,hb⟩)
 have mv:∀x v',Dr E w A s.next x v'→Dr (E.setFp k fp) w A s.next x v':=fun x v' hx=>hx.move (Nat.le_refl _) (fun _ _=>⟨rfl,rfl⟩) (fun _ _ _=>rfl) (fun _ _ hb=>hb);refine ⟨h.defers,h.links,h.size,fun i x hx=>mv _ _ (h.slots i x hx),fun x hx=>?_,h.boxes2,h.keys,fun y hy=>?_,?_,?_,?_,h.one,h.base,fun b hb=>?_,fun b hb=>?_⟩
 ·obtain ⟨h1,vs,ty,h2,h3,h4⟩:=h.boxes x hx
  exact ⟨h1,vs,ty,h2,h3,fun i y hy=>mv _ _ (h4 i y hy)⟩
 ·rcases List.mem_cons.1 hy with rfl|hy
  ·exact ⟨hk,by rw [kfn];exact ho,by rw [kfn];exact hnd⟩
  obtain ⟨h1,h2,h3⟩:=h.own y hy;rw [kfp y hy];exact ⟨h1,h2,h3⟩
 ·simp only [List.map_cons,List.nodup_cons]
  refine ⟨fun hm=>?_,h.ownkeys⟩;obtain ⟨y,hy,e⟩:=List.mem_map.1 hm;exact hn y hy e
 ·intro y hy z hz hne b hb hb'
  rcases List.mem_cons.1 hy with rfl|hy<;>rcases List.mem_cons.1 hz with rfl|hz
  ·exact hne rfl
  ·rw [kfn] at hb
   rw [kfp z hz] at hb';exact (hA b hb).2.1 (.inr ⟨z,hz,hb'⟩)
  ·rw [kfp y hy] at hb
   rw [kfn] at hb';exact (hA b hb').2.1 (.inr ⟨y,hy,hb⟩)
  rw [kfp y hy] at hb;rw [kfp z hz] at hb';exact h.sep y hy z hz hne b hb hb'
 ·intro x hx y hy hb
  rcases List.mem_cons.1 hy with rfl|hy
  ·rw [kfn] at hb
   exact (hA _ hb).2.1 (.inl ⟨x,hx,rfl⟩)
  rw [kfp y hy] at hb;exact h.sepB x hx y hy hb
 ·rcases av b hb with hb|hb
  ·exact (hA b hb).2.2
  exact h.fresh b hb
 rcases av b hb with hb|hb
 ·exact (hA b hb).1
 exact h.sub b hb
def Qm (own:List Ow) (l:List AV):Option (List Ai×List Nat):=
 match l with
 | []=>some ([],[])
 | .c (.val v)::r=>match Qm own r with
  |some (cs,ks)=>some (.val v::cs,ks)
  |none=>none
 | .own k::r=>match Cb own k,Qm own r with
  |some c,some (cs,ks)=>some (c::cs,k::ks)
  |_,_=>none
 |_=>none
def Ds (l:List Ai) (off:Nat) (xs:List Ai):List Ai:=l.take off++xs++l.drop (off+xs.length)
def Qj (n es:Nat) (row:Nat→List Ai) (j off:Nat) (cs:List Ai) (c:Ai):Prop:=
 ∃row',c= .sl n es row'∧(∀i,i<n→i≠j→row' i=row i)∧row' j=Ds (row j) off cs
theorem A1r {B:Be}{E:E7}{s:AS}{a:Act}{w:World}(h:s.is B E a w):∀{l:List AV} {cs:List Ai} {ks:List Nat},Qm s.own l=some (cs,ks)→ks.Nodup→∀{vs:List Value},vs.length=l.length→
  (∀i x,l[i]? =some x→Dr E w (s.avoid E) s.next x (vs.getD i undef))→
  cs.length=l.length∧(∀k∈ks,∃y∈s.own,y.key=k)∧∃gps:Nat→List Nat,(∀i c,cs[i]? =some c→D3 w c (vs.getD i undef) (gps i))∧((List.range cs.length).flatMap gps).Nodup∧
   ∀b∈(List.range cs.length).flatMap gps,b∈ks.flatMap E.fp:=by
 intro l
 induction l with
 |nil=>
  intro cs ks hc _ vs _ _;simp only [Qm,Option.some.injEq,Prod.mk.injEq] at hc;obtain ⟨rfl,rfl⟩:=hc;exact ⟨rfl,by simp,fun _=>[],by simp,by simp,by simp⟩
 |cons x l ih=>
  intro cs ks hc hnd vs hl hv
  match vs,hl with
  |v::vs,hl=>
   have rest:∀{cs' ks'},Qm s.own l=some (cs',ks')→ks'.Nodup→_:=fun h1 h2=>ih h1 h2 (vs:=vs) (by simpa using hl) (fun i y hy=>by simpa using hv (i+1) y (by simpa using hy))
   have glue:∀(c:Ai) (cs':List Ai) (gps:Nat→List Nat) (g0:List Nat),(List.range (c::cs').length).flatMap (fun i=>match i with| 0=>g0|i+1=>gps i)=g0++(List.range cs'.length).flatMap gps:=by
    intro c cs' gps g0
    simp [List.range_succ_eq_map,List.flatMap_cons,List.flatMap_map]
   unfold Qm at hc
   split at hc
   ·rename_i heq;simp at heq
   ·rename_i v' r heq
    simp only [List.cons.injEq] at heq;obtain ⟨rfl,rfl⟩:=heq
    split at hc
    ·rename_i cs' ks' hr
     simp only [Option.some.injEq,Prod.mk.injEq] at hc;obtain ⟨rfl,rfl⟩:=hc;obtain ⟨h1,h2,gps,h3,h4,h5⟩:=rest hr hnd;have hd:=hv 0 _ rfl;simp only [List.getD_cons_zero] at hd
     refine ⟨by simp [h1],h2,fun i=>match i with| 0=>[]|i+1=>gps i,fun i c hi=>?_,?_,?_⟩
     ·cases i with
      |zero=>
       simp only [List.getElem?_cons_zero,Option.some.injEq] at hi;subst hi;have e:=Bo hd;subst e
       cases hd with
       |c hr'=>exact .val _ hr'.one
      |succ i=>simpa using h3 i c (by simpa using hi)
     ·rw [glue];simpa using h4
     rw [glue];simpa using h5
    simp at hc
   ·rename_i k r heq
    simp only [List.cons.injEq] at heq;obtain ⟨rfl,rfl⟩:=heq
    split at hc
    ·rename_i c' cs' ks' hg hr
     simp only [Option.some.injEq,Prod.mk.injEq] at hc;obtain ⟨rfl,rfl⟩:=hc;obtain ⟨n1,n2⟩:=List.nodup_cons.1 hnd;obtain ⟨h1,h2,gps,h3,h4,h5⟩:=rest hr n2;have hm:=Cp hg;obtain ⟨_,o2,o3⟩:=h.own _ hm;have hd:=hv 0 _ rfl;simp only [List.getD_cons_zero] at hd
     refine ⟨by simp [h1],fun j hj=>?_,fun i=>match i with| 0=>E.fp k|i+1=>gps i,fun i c hi=>?_,?_,?_⟩
     ·rcases List.mem_cons.1 hj with rfl|hj
      ·exact ⟨_,hm,rfl⟩
      exact h2 j hj
     ·cases i with
      |zero=>
       simp only [List.getElem?_cons_zero,Option.some.injEq] at hi;subst hi;generalize v=u at hd
       cases hd with
       |own hk=>simpa using o2
      |succ i=>simpa using h3 i c (by simpa using hi)
     ·rw [glue]
      refine List.nodup_append.2 ⟨o3,h4,fun x hx y hy e=>?_⟩;subst e;obtain ⟨k2,hk2,hx2⟩:=List.mem_flatMap.1 (h5 x hy);obtain ⟨y2,hy2,rfl⟩:=h2 k2 hk2;exact h.sep _ hm y2 hy2 (fun e=>n1 (by simp only at e;rw [e];exact hk2)) x hx hx2
     rw [glue];intro b hb
     rcases List.mem_append.1 hb with hb|hb
     ·exact List.mem_flatMap.2 ⟨k,by simp,hb⟩
     obtain ⟨k2,hk2,hb2⟩:=List.mem_flatMap.1 (h5 b hb);exact List.mem_flatMap.2 ⟨k2,by simp [hk2],hb2⟩
    simp at hc
   simp at hc
theorem B5s {w:World}{n es:Nat}{row:Nat→List Ai}{b off cap:Nat}{ty:TypeId}{cells:Array Value}{fps:Nat→List Nat}(hn:n≤cap)(hc:cap≤maxLen)
  (hb:w.heap[b]? =some (.cells cells ty (0,0)))(hs:(off+cap) * es≤cells.size)(hl:∀i,i<n→(row i).length=es)
  (hr:∀i j c,i<n→(row i)[j]? =some c→D3 w c (cells.getD ((off+i) * es+j) undef) (fps (i * es+j)))
  (hnd:(b::(List.range (n * es)).flatMap fps).Nodup)
  {j o:Nat}(hj:j<n){cs:List Ai}{vs:List Value}{gps:Nat→List Nat}(ho:o+cs.length≤es)(hv:vs.length=cs.length)
  (hg:∀i c,cs[i]? =some c→D3 w c (vs.getD i undef) (gps i))(hgn:((List.range cs.length).flatMap gps).Nodup)(hgd:∀x∈(List.range cs.length).flatMap gps,x∉b::(List.range (n * es)).flatMap fps)
  {c':Ai}(hu:Qj n es row j o cs c'):
  ∃fp',D3 (w.setRow b (cells.toList.take ((off+j) * es+o)++vs++cells.toList.drop ((off+j) * es+o+vs.length)).toArray) c' (.slice (some ⟨b,off * es,none⟩) n cap) fp'∧fp'.Nodup∧
   ∀x∈fp',x∈b::(List.range (n * es)).flatMap fps∨x∈(List.range cs.length).flatMap gps:=by
 obtain ⟨row',rfl,hu1,hu2⟩:=hu;obtain ⟨hb0,hnd1⟩:=List.nodup_cons.1 hnd;have hk:∀x,x≠b→(w.setRow b (cells.toList.take ((off+j) * es+o)++vs++cells.toList.drop ((off+j) * es+o+vs.length)).toArray).heap[x]? =w.heap[x]? :=fun x hx=>Fg w b x _ hx
 have hjes:j * es+es≤n * es:=by rw [←Nat.succ_mul];exact Nat.mul_le_mul_right _ hj
 have hfit:(off+j) * es+o+cs.length≤cells.size:=by
  have h1:(off+j) * es+es≤(off+cap) * es:=by rw [←Nat.succ_mul];exact Nat.mul_le_mul_right _ Ad
  omega
 let F:Nat→List Nat:=fun k=>if j * es+o≤k∧k<j * es+o+cs.length then gps (k-(j * es+o)) else fps k
 have hlen':∀i,i<n→(row' i).length=es:=by
  intro i hi
  by_cases e:i=j
  ·subst e
   rw [hu2]
   simp [Ds,hl i hi]
   omega
  rw [hu1 i hi e];exact hl i hi
 have hget:∀k,k<cells.size→(cells.toList.take ((off+j) * es+o)++vs++cells.toList.drop ((off+j) * es+o+vs.length)).toArray.getD k undef=
   if (off+j) * es+o≤k∧k<(off+j) * es+o+cs.length then vs.getD (k-((off+j) * es+o)) undef else cells.getD k undef:=by
  intro k hk';rw [←Cg,←Cg];simp only [List.getD];have e1:(List.take ((off+j) * es+o) cells.toList).length=(off+j) * es+o:=by simp;omega
  by_cases h1:k<(off+j) * es+o
  ·rw [if_neg Ad,List.append_assoc,List.getElem?_append_left Ad]
   simp [h1]
  by_cases h2:k<(off+j) * es+o+cs.length
  ·rw [if_pos ⟨by omega,h2⟩,List.append_assoc,List.getElem?_append_right Ad,e1,List.getElem?_append_left Ad]
  rw [if_neg Ad,List.getElem?_append_right (by simp only [List.length_append];omega)];simp only [List.length_append,e1,List.getElem?_drop];rw [show (off+j) * es+o+vs.length+(k-((off+j) * es+o+vs.length))=k by omega]
 refine ⟨b::(List.range (n * es)).flatMap F,.sl n es row' b off cap ty _ F hn hc (setRow_heap w b cells _ ty (0,0) hb) (by simp;omega) hlen' (fun i m c hi hcm=>?_),?_,fun x hx=>?_⟩
 ·have hml:m<es:=by have:=(List.getElem?_eq_some_iff.1 hcm).1;rw [hlen' i hi] at this;exact this
  have hkl:(off+i) * es+m<cells.size:=by
   have:=Fz (show off+i<off+cap by omega) hml
   omega
  rw [hget _ hkl]
  by_cases e:i=j
  ·subst e
   rw [hu2] at hcm;have hl1:(List.take o (row i)).length=o:=by simp [hl i hi];omega
   by_cases h1:o≤m∧m<o+cs.length
   ·rw [if_pos Ad]
    have hF:F (i * es+m)=gps (m-o):=by
     simp only [F];rw [if_pos Ad]
     congr 1;omega
    rw [hF,show (off+i) * es+m-((off+i) * es+o)=m-o by omega]
    simp only [Ds] at hcm;rw [List.append_assoc,List.getElem?_append_right Ad,hl1,List.getElem?_append_left Ad] at hcm;exact (hg _ c hcm).move (fun x hx=>hk x (fun e=>hgd x (Ek (by have:=(List.getElem?_eq_some_iff.1 hcm).1;exact this) hx) (by simp [e])))
   rw [if_neg Ad]
   have hF:F (i * es+m)=fps (i * es+m):=by
    simp only [F];rw [if_neg Ad]
   rw [hF]
   have hold:(row i)[m]? =some c:=by
    simp only [Ds] at hcm
    by_cases h2:m<o
    ·rw [List.append_assoc,List.getElem?_append_left Ad,List.getElem?_take,if_pos h2] at hcm
     exact hcm
    rw [List.getElem?_append_right (by simp only [List.length_append];omega)] at hcm;simp only [List.length_append,hl1,List.getElem?_drop] at hcm
    rwa [show o+cs.length+(m-(o+cs.length))=m by omega] at hcm
   exact (hr i m c hi hold).move (fun x hx=>hk x (fun e=>hb0 (e▸Ek (Fz hi hml) hx)))
  have hne:¬ ((off+j) * es+o≤(off+i) * es+m∧(off+i) * es+m<(off+j) * es+o+cs.length):=by
   rintro ⟨h1,h2⟩
   rcases Nat.lt_or_gt_of_ne e with h|h
   ·have:(off+i) * es+es≤(off+j) * es:=by rw [←Nat.succ_mul];exact Nat.mul_le_mul_right _ Ad
    omega
   have:(off+j) * es+es≤(off+i) * es:=by rw [←Nat.succ_mul];exact Nat.mul_le_mul_right _ Ad
   omega
  have hne2:¬ (j * es+o≤i * es+m∧i * es+m<j * es+o+cs.length):=by
   rintro ⟨h1,h2⟩
   rcases Nat.lt_or_gt_of_ne e with h|h
   ·have:i * es+es≤j * es:=by rw [←Nat.succ_mul];exact Nat.mul_le_mul_right _ Ad
    omega
   have:j * es+es≤i * es:=by rw [←Nat.succ_mul];exact Nat.mul_le_mul_right _ Ad
   omega
  rw [if_neg hne];have hF:F (i * es+m)=fps (i * es+m):=by simp only [F];rw [if_neg hne2]
  rw [hF];exact (hr i m c hi (by rw [←hu1 i hi e];exact hcm)).move (fun x hx=>hk x (fun e=>hb0 (e▸Ek (Fz hi hml) hx)))
 ·have hFm:∀k,k<n * es→∀x∈F k,(x∈(List.range (n * es)).flatMap fps∧F k=fps k)∨(x∈(List.range cs.length).flatMap gps∧j * es+o≤k∧k<j * es+o+cs.length):=by
   intro k hk' x hx;simp only [F] at hx ⊢
   by_cases h:j * es+o≤k∧k<j * es+o+cs.length
   ·rw [if_pos h] at hx
    exact .inr ⟨Ek Ad hx,h⟩
   rw [if_neg h] at hx ⊢;exact .inl ⟨Ek hk' hx,rfl⟩
  rw [List.nodup_cons];refine ⟨fun hm=>?_,Cw.2 ⟨fun k hk'=>?_,?_⟩⟩
  ·obtain ⟨k,hk',hx⟩:=List.mem_flatMap.1 hm
   rcases hFm k (List.mem_range.1 hk') b hx with ⟨h,_⟩|⟨h,_⟩
   ·exact hb0 h
   exact hgd b h C8
  ·have hk':=List.mem_range.1 hk'
   simp only [F]
   split
   ·exact (Cw.1 hgn).1 _ (List.mem_range.2 Ad)
   exact (Cw.1 hnd1).1 _ (List.mem_range.2 hk')
  have p1:=(Cw.1 hnd1).2;have p2:=(Cw.1 hgn).2;rw [List.pairwise_iff_getElem] at p1 p2 ⊢;intro k l hk0 hl0 hlt x hx hx';have hk':k<n * es:=by simpa using hk0
  have hl':l<n * es:=by simpa using hl0
  simp only [List.length_range,List.getElem_range] at hx hx' p1 p2
  rcases hFm k hk' x hx with ⟨h1,e1⟩|⟨h1,a1,a2⟩<;>rcases hFm l hl' x hx' with ⟨h2,e2⟩|⟨h2,b1,b2⟩
  ·rw [e1] at hx
   rw [e2] at hx';exact p1 k l hk' hl' hlt x hx hx'
  ·exact hgd x h2 (List.mem_cons_of_mem _ h1)
  ·exact hgd x h1 (List.mem_cons_of_mem _ h2)
  have f1:F k=gps (k-(j * es+o)):=by simp only [F];rw [if_pos ⟨a1,a2⟩]
  have f2:F l=gps (l-(j * es+o)):=by simp only [F];rw [if_pos ⟨b1,b2⟩]
  rw [f1] at hx;rw [f2] at hx';exact p2 (k-(j * es+o)) (l-(j * es+o)) Ad Ad Ad x hx hx'
 rcases List.mem_cons.1 hx with rfl|hx
 ·exact .inl C8
 obtain ⟨k,hk',hx⟩:=List.mem_flatMap.1 hx;simp only [F] at hx
 split at hx
 ·exact .inr (Ek Ad hx)
 exact .inl (List.mem_cons_of_mem _ (Ek (List.mem_range.1 hk') hx))
theorem B2g (hT:Cs P T){B:Be}{Q:Exit→Act→World→Prop}{q:Bool}{all:Array Oper}{o:Oper}{rest:List Oper}{K:List KI}{s:AS}{x y:Operand}{t:TypeId}{i:TI}
  (hg:o.guard=none)(ho:o.op= .store t x y)(hi:find T t=some i){k es off n:Nat}{j:Int}{row:Nat→List Ai}{cs:List Ai}{ks:List Nat}
  (hx:s.ev x= .oel k es j off)(hk:Cb s.own k=some (.sl n es row))(hc:Qm s.own (s.ev y).cellsOf=some (cs,ks))(hkd:Gv (k::ks)=true)
  (hsz:(Nat.beq cs.length i.size&&Nat.ble (off+i.size) es)=true)(c':Ai)(hu:Qj n es row j.toNat off cs c')
  (h:G P B Q (.ops q all rest::K) (({s with own:=⟨k,c'⟩::Bz (k::ks) s.own}:AS).put o.dst .any)):G P B Q (.ops q all (o::rest)::K) s:=by
 refine H5 hg (by rw [ho];simp [Eb]) (fun E a w hs=>?_);simp only [Bool.and_eq_true] at hsz;have hsz1:=Nat.eq_of_beq_eq_true hsz.1;have hsz2:=Nat.le_of_ble_eq_true hsz.2;have hnd:=Eu hkd;obtain ⟨nk,nks⟩:=List.nodup_cons.1 hnd;have hm:=Cp hk;obtain ⟨hklt,o2,o3⟩:=hs.own _ hm
 simp only at o2 o3 hklt
 have hev:=hs.ev x;rw [hx] at hev;generalize hv:a.eval x=v at hev
 have hval:(a.eval y).cells.size=(s.ev y).cellsOf.length∧(∀m z,(s.ev y).cellsOf[m]? =some z→Dr E w (s.avoid E) s.next z ((a.eval y).cells.getD m undef))∧∀z∈(a.eval y).cells.toList,z.oneCell'=true:=by
  refine Np (hs.ev y) ?_ hs.one
  have:∀(l:List AV) cs ks,Qm s.own l=some (cs,ks)→Jm l=true:=by
   intro l
   induction l with
   |nil=>intros;rfl
   |cons z l ih=>
    intro cs ks hc;unfold Qm at hc
    split at hc
    ·rename_i heq;simp at heq
    ·rename_i v' r heq
     simp only [List.cons.injEq] at heq;obtain ⟨rfl,rfl⟩:=heq
     split at hc
     ·rename_i hr;simpa [Jm,AV.cellLike] using ih _ _ hr
     simp at hc
    ·rename_i k' r heq
     simp only [List.cons.injEq] at heq;obtain ⟨rfl,rfl⟩:=heq
     split at hc
     ·rename_i hr;simpa [Jm,AV.cellLike] using ih _ _ hr
     simp at hc
    simp at hc
  exact this _ _ _ hc
 obtain ⟨c1,c2,c3⟩:=hval;obtain ⟨q1,q2,gps,q3,q4,q5⟩:=A1r hs hc nks (vs:=(a.eval y).cells.toList) (by simpa using c1) (fun m z hz=>by rw [Cg];exact c2 m z hz)
 cases hev with
 |oel _ b o' n' cap hkl hov h0 hj=>
  rw [hov] at o2;generalize hfp:E.fp k=fp at o2 o3;obtain ⟨jn,rfl⟩:=Int.eq_ofNat_of_zero_le h0;simp only [Int.toNat_natCast,Int.ofNat_lt] at *
  cases o2 with
  |emp=>exact absurd hj (Nat.not_lt_zero _)
  |sl _ _ _ _ offb _ ty cells fps hn hcp hb hcs hl hr=>
   have hrun0:=run_storeCells_at P b ((offb+jn) * es+off) ty (a.eval y).cells.toList 0 cells w hb (by
    have h1:(offb+jn) * es+es≤(offb+cap) * es:=by rw [←Nat.succ_mul];exact Nat.mul_le_mul_right _ Ad
    simp only [Nat.add_zero,Array.length_toList]
    omega) c3
   simp only [Nat.add_zero] at hrun0
   have hgd:∀z∈(List.range cs.length).flatMap gps,z∉b::(List.range (n * es)).flatMap fps:=by
    intro z hz hz';obtain ⟨k2,hk2,hz2⟩:=List.mem_flatMap.1 (q5 z hz);obtain ⟨y2,hy2,rfl⟩:=q2 k2 hk2;rw [←hfp] at hz';exact hs.sep _ hm y2 hy2 (fun e=>nk (by simp only at e;rw [e];exact hk2)) z hz' hz2
   obtain ⟨fp',w1,w2,w3⟩:=B5s hn hcp hb hcs hl hr o3 hj (o:=off) (cs:=cs) (vs:=(a.eval y).cells.toList) Ad (by rw [Array.length_toList,c1,q1]) q3 q4 hgd hu;have hI:=hs.drop (k::ks)
   have key:∀z,(z∈b::(List.range (n * es)).flatMap fps∨z∈(List.range cs.length).flatMap gps)→s.avoid E z∧¬ ({s with own:=Bz (k::ks) s.own}:AS).avoid E z:=by
    intro z hz
    have:∃k'∈k::ks,∃y∈s.own,y.key=k'∧z∈E.fp k':=by
     rcases hz with hz|hz
     ·exact ⟨k,by simp,_,hm,rfl,by rw [hfp];exact hz⟩
     obtain ⟨k2,hk2,hz2⟩:=List.mem_flatMap.1 (q5 z hz);obtain ⟨y2,hy2,e⟩:=q2 k2 hk2;exact ⟨k2,List.mem_cons_of_mem _ hk2,y2,hy2,e,hz2⟩
    obtain ⟨k',hk1,y',hy,rfl,hz⟩:=this;refine ⟨.inr ⟨y',hy,hz⟩,?_⟩
    rintro (⟨u,hu',rfl⟩|⟨u,hu',hz'⟩)
    ·exact hs.sepB u hu' y' hy hz
    obtain ⟨hz1,hz2⟩:=Cr.1 hu';exact hs.sep y' hy u hz1 (fun e=>hz2 (e▸hk1)) z hz hz'
   have hkept:B4a (fun z=>z=b) w (w.setRow b (cells.toList.take ((offb+jn) * es+off)++(a.eval y).cells.toList++cells.toList.drop ((offb+jn) * es+off+(a.eval y).cells.toList.length)).toArray):=
    ⟨rfl,rfl,rfl,by simp,fun z _ hz=>Fg w b z _ hz,Nat.le_refl _⟩
   have hI2:=hI.kept hkept (fun z hz=>by
    subst hz
    exact ⟨(key z (.inl C8)).1,(key z (.inl C8)).2,hs.fresh z (key z (.inl C8)).1⟩)
   have hI3:=hI2.addAt (k:=k) hklt (fun y' hy=>fun e=>(Cr.1 hy).2 (by rw [e];simp)) (fp:=fp') (by rw [hov];exact w1) w2 (fun z hz=>by
    have:=w3 z hz
    exact ⟨.inl (key z this).1,(key z this).2,hs.fresh z (key z this).1⟩)
   refine ⟨undef,w.setRow b (cells.toList.take ((offb+jn) * es+off)++(a.eval y).cells.toList++cells.toList.drop ((offb+jn) * es+off+(a.eval y).cells.toList.length)).toArray,.inr ⟨?_,rfl⟩,fun hk=>(by rw [ho] at hk;simp [Eb] at hk),h _ _ _ (hI3.put o.dst (.any undef)).is⟩;obtain ⟨dst,op',ty',pos,after,guard⟩:=o
   simp only at ho
   subst ho
   have hrun:(Instr.storeAt t (.pointer (some ⟨b,offb * es+jn * es+off,none⟩)) (a.eval y)).run P w= .ok () (w.setRow b (cells.toList.take ((offb+jn) * es+off)++(a.eval y).cells.toList++cells.toList.drop ((offb+jn) * es+off+(a.eval y).cells.toList.length)).toArray):=by
    rw [show offb * es+jn * es+off=(offb+jn) * es+off by rw [Nat.add_mul]]
    simp [Instr.storeAt,Instr.sureAddr,storeVar,C0 (hT t i hi),c1,←q1,hsz1,hrun0]
   simp only [execOp,hv,Sem.run_bind,hrun,Result.andThen_ok];rfl
end Go.Sx
namespace Go.Sx
variable {P : Program} {T : List (TypeId × TI)}
inductive GW (P:Program) (B:Be) (Q:Exit→Act→World→Prop) (K:List KI) (s:AS):Prop
 |mk (h:G P B Q K s):GW P B Q K s
inductive CW (P:Program) (B:Be) (Q:Exit→Act→World→Prop) (q:Bool) (f:FuncId) (xs:List AV) (dst:Option Tmp) (K:List KI) (s:AS):Prop
 |mk (h:B2l P B Q q f xs dst K s):CW P B Q q f xs dst K s
inductive RW (B:Be) (Q:Exit→Act→World→Prop) (s:AS):Prop
 |mk (h:C0u B Q s):RW B Q s
def vcW (P:Program) (B:Be) (Q:Exit→Act→World→Prop):Out→Prop
 | .at_ K s=>GW P B Q K s
 | .call q f xs dst K s=>CW P B Q q f xs dst K s
 | .ret s=>RW B Q s
 | .ite b t e=>(b=true→vcW P B Q t)∧(b=false→vcW P B Q e)
 | .need p o=>p∧vcW P B Q o
theorem B2j {B:Be}{Q:Exit→Act→World→Prop}(o:Out)(h:vcW P B Q o):vc P B Q o:=by
 induction o with
 |at_ K s=>exact h.rec id
 |call q f xs dst K s=>exact h.rec id
 |ret s=>exact h.rec id
 |ite b t e iht ihe=>exact ⟨fun hb=>iht (h.1 hb),fun hb=>ihe (h.2 hb)⟩
 |need p o ih=>exact ⟨h.1,ih h.2⟩
theorem go (hT:Cs P T)(wr:Bool){B:Be}{Q:Exit→Act→World→Prop}{K:List KI}{s:AS}(h:vcW P B Q (Oz T wr 100000 K s)):GW P B Q K s:=
 ⟨sound hT wr 100000 K s (B2j _ h)⟩
theorem Aw (hT:Cs P T)(wr:Bool){f:FuncId}{fn:Func}{c:Code}{ins outs:List Gy}(hf:P.funcs[f]? =some fn)(hb:fn.body=some c)(hn:(fn.name== "runtime.NumGoroutine")=false)
  (h:∀W,vcW P ⟨W,fun _=>False⟩ (bodyPost P fn fun e w'=>Lr W w' outs e) (Oz T wr 100000 [.code c] (start fn.ntmps ins))):B3 P f ins outs:=
 enter hf hb hn fun W=>(go hT wr (h W)).rec id
theorem Bd {B:Be}{Q:Exit→Act→World→Prop}{q:Bool}{f:FuncId}{xs:List AV}{dst:Option Tmp}{K:List KI}{s:AS}{ins outs:List Gy}(hf:B3 P f ins outs)(hx:P9 s xs=some ins)
  (h:GW P B Q K ((Iq outs s).2.put dst (Iq outs s).1)):CW P B Q q f xs dst K s:=⟨B7e hf hx (h.rec id)⟩
theorem As {B:Be}{Q:Exit→Act→World→Prop}{q:Bool}{f:FuncId}{xs:List AV}{dst:Option Tmp}{K:List KI}{s:AS}{ins outs:List Gy}(hf:B3 P f ins outs)(hx:P9 s xs=some ins)
  (h:GW P B Q K (s.put dst (A9g outs))):CW P B Q q f xs dst K s:=⟨C0y hf hx (h.rec id)⟩
theorem C23 (hm:P.follows .mixedOrders=true){B:Be}{Q:Exit→Act→World→Prop}{id:Nat}{ops:Array Oper}{K:List KI}{s:AS}(ord:List Nat)(hB:B82 ops ord=true)
  (h:GW P B Q (.ops true ops (A59 ops ord)::K) s):GW P B Q (.code (.region id ops true)::K) s:=⟨B4z hm ord hB (h.rec fun h=>h)⟩
theorem Am (hT:Cs P T){W:World}{fn:Func}{outs:List Gy}{s:AS}{xs:List AV}(hx:Rq T fn.results.toList s=some xs)(hk:Gv (xs.flatMap E9)=true)(ho:Oy s.own xs outs):
  RW ⟨W,fun _=>False⟩ (bodyPost P fn fun e w'=>Lr W w' outs e) s:=⟨C4b hT hx hk ho⟩
theorem Bj (hT:Cs P T){B:Be}{Q:Exit→Act→World→Prop}{q:Bool}{all:Array Oper}{o:Oper}{rest:List Oper}{K:List KI}{s:AS}{x y:Operand}{t t' e:TypeId}{i j:TI}
  (hg:o.guard=none)(ho:o.op= .call {callee:= .builtin .append,args:= #[x,y],argTypes:= #[t,t']})(htt:t=t')
  (hi:find T t=some i)(he:i.elem=some e)(hj:find T e=some j)(hp:Nat.blt 0 j.size=true)
  {n1 n2:Nat}{row1 row2:Nat→List Ai}{ks1 ks2:List Nat}(hd:B2z s.own (s.ev x) j.size=some (n1,row1,ks1))(hs:B32 s.own (s.ev y) j.size=some (n2,row2,ks2))
  (hk:Gv (ks1++ks2)=true)(hb':Nat.ble j.bytes 256=true)(c:Ai)(hc:Ug n1 n2 j.size row1 row2 c)(hf:ks2=[]→F5 n2 row2)
  (hb:n1+n2≤549755813888)
  (h:GW P B Q (.ops q all rest::K) (({s with own:=⟨s.next,c⟩::Bz (ks1++ks2) s.own,next:=s.next+1}:AS).put o.dst (.own s.next))):GW P B Q (.ops q all (o::rest)::K) s:=
 ⟨B66 hT hg ho (.inl (Cm (htt▸hT t i hi) he)) hi he hj hp hd hs hk c hc hf ⟨hb,hb'⟩ (h.rec id)⟩
theorem Bv (hT:Cs P T){B:Be}{Q:Exit→Act→World→Prop}{q:Bool}{all:Array Oper}{o:Oper}{rest:List Oper}{K:List KI}{s:AS}{x y:Operand}{t:TypeId}{i:TI}
  (hg:o.guard=none)(ho:o.op= .store t x y)(hi:find T t=some i){k es off n:Nat}{j:Int}{row:Nat→List Ai}{cs:List Ai}{ks:List Nat}
  (hx:s.ev x= .oel k es j off)(hk:Cb s.own k=some (.sl n es row))(hc:Qm s.own (s.ev y).cellsOf=some (cs,ks))(hkd:Gv (k::ks)=true)
  (hsz:(Nat.beq cs.length i.size&&Nat.ble (off+i.size) es)=true)(c':Ai)(hu:Qj n es row j.toNat off cs c')
  (h:GW P B Q (.ops q all rest::K) (({s with own:=⟨k,c'⟩::Bz (k::ks) s.own}:AS).put o.dst .any)):GW P B Q (.ops q all (o::rest)::K) s:=
 ⟨B2g hT hg ho hi hx hk hc hkd hsz c' hu (h.rec id)⟩
def Nh (f:List (Nat×Nat)) (k:Nat):Nat:=
 match f with
 | []=>k
 |(a,b)::r=>match Nat.beq a k with
  |true=>b
  |false=>Nh r k
def ren0 (f:List (Nat×Nat)) (x:AV):AV:=
 match x with
 | .own k=> .own (Nh f k)
 | .box k o=> .box (Nh f k) o
 | .oel k es j o=> .oel (Nh f k) es j o
 |x=>x
def A13 (g:AV→AV) (l:List AV):List AV:=
 match l with
 | []=>[]
 |x::r=>g x::A13 g r
def ren1 (f:List (Nat×Nat)) (x:AV):AV:=
 match x with
 | .agg xs=> .agg (A13 (ren0 f) xs)
 | .fn i xs=> .fn i (A13 (ren0 f) xs)
 |x=>ren0 f x
def ren2 (f:List (Nat×Nat)) (x:AV):AV:=
 match x with
 | .tup xs=> .tup (A13 (ren1 f) xs)
 |x=>ren1 f x
theorem A14 (g:AV→AV)(l:List AV)(i:Nat):(A13 g l)[i]? =l[i]?.map g:=by
 induction l generalizing i with
 |nil=>simp [A13]
 |cons x r ih=>cases i<;>simp [A13,ih]
theorem Rp (g:AV→AV)(l:List AV):(A13 g l).length=l.length:=by
 induction l with
 |nil=>rfl
 |cons x r ih=>simp [A13,ih]
def E7.ren (E:E7) (f:List (Nat×Nat)):E7:=⟨fun k=>E.ov (Nh f k),fun k=>E.fp (Nh f k)⟩
theorem Dr.ren0 {E:E7}{w:World}{A:Nat→Prop}{N M:Nat}{f:List (Nat×Nat)}{x:AV}{v:Value}(h:Dr E w A N (Sx.ren0 f x) v)(hb:Sx.low0 M x=true):Dr (E.ren f) w A M x v:=by
 cases x with
 |any=>exact .any v
 |c c=>cases h with|c h=>exact .c h
 |own k=>cases h with|own hk=>exact Dr.own (E:=E.ren f) (Ir (by simpa [Sx.low0] using hb))
 |box k o=>cases h with|box _ hk=>exact Dr.box (E:=E.ren f) _ (Ir (by simpa [Sx.low0] using hb))
 |el n es row i off=>cases h with|el _ b o cap hs h0 hi=>exact .el _ b o cap hs h0 hi
 |oel k es i off=>cases h with|oel _ b o n cap hk hv h0 hi=>exact .oel (E:=E.ren f) _ b o n cap (Ir (by simpa [Sx.low0] using hb)) hv h0 hi
 |_=>simp [Sx.low0] at hb
theorem Dr.ren1 {E:E7}{w:World}{A:Nat→Prop}{N M:Nat}{f:List (Nat×Nat)}{x:AV}{v:Value}(h:Dr E w A N (Sx.ren1 f x) v)(hb:Sx.low1 M x=true):Dr (E.ren f) w A M x v:=by
 cases x with
 |agg xs=>
  cases h with
  |agg vs hl h=>
   refine .agg vs (by rw [hl,Rp]) (fun i x hx=>?_);exact (h i (Sx.ren0 f x) (by rw [A14,hx];rfl)).ren0 (Qw (by simpa [Sx.low1] using hb) (List.mem_of_getElem? hx))
 |fn g xs=>
  cases h with
  |fn vs hl h=>
   refine .fn vs (by rw [hl,Rp]) (fun i x hx=>?_);exact (h i (Sx.ren0 f x) (by rw [A14,hx];rfl)).ren0 (Qw (by simpa [Sx.low1] using hb) (List.mem_of_getElem? hx))
 |tup xs=>simp [Sx.low1,Sx.low0] at hb
 |_=>exact Dr.ren0 h hb
theorem Dr.ren2 {E:E7}{w:World}{A:Nat→Prop}{N M:Nat}{f:List (Nat×Nat)}{x:AV}{v:Value}(h:Dr E w A N (Sx.ren2 f x) v)(hb:Sx.low2 M x=true):Dr (E.ren f) w A M x v:=by
 cases x with
 |tup xs=>
  cases h with
  |tup vs hl h=>
   refine .tup vs (by rw [hl,Rp]) (fun i x hx=>?_);exact (h i (Sx.ren1 f x) (by rw [A14,hx];rfl)).ren1 (Qw (by simpa [Sx.low2] using hb) (List.mem_of_getElem? hx))
 |_=>exact Dr.ren1 h hb
def Ww (f:List (Nat×Nat)) (xs ys:List AV):Prop:=
 match xs,ys with
 | [],[]=>True
 |x::xs,y::ys=>match y with
  | .any=>Ww f xs ys
  |y=>x=ren2 f y∧Ww f xs ys
 |_,_=>False
theorem A8m {f:List (Nat×Nat)}{xs ys:List AV}(h:Ww f xs ys):ys.length=xs.length∧∀(i:Nat) (y:AV),ys[i]? =some y→y= .any∨xs[i]? =some (ren2 f y):=by
 induction xs generalizing ys with
 |nil=>cases ys<;>simp_all [Ww]
 |cons x xs ih=>
  cases ys with
  |nil=>simp [Ww] at h
  |cons y ys=>
   have key:Ww f xs ys∧(y= .any∨x=ren2 f y):=by cases y<;>simp only [Ww] at h<;>first|exact ⟨h,.inl rfl⟩|exact ⟨h.2,.inr h.1⟩
   obtain ⟨h1,h2⟩:=ih key.1;refine ⟨by simp [h1],fun i z hz=>?_⟩
   cases i with
   |zero=>
    simp only [List.getElem?_cons_zero,Option.some.injEq] at hz;subst hz
    rcases key.2 with e|e
    ·exact .inl e
    exact .inr (by simp [e])
   |succ i=>simpa using h2 i z (by simpa using hz)
def B8o (f:List (Nat×Nat)) (l:List Bx) (m:List Bx):Prop:=
 match m with
 | []=>True
 |b::r=>(match Fl l (Nh f b.key) with
  |some c=>Ww f c.cells b.cells
  |none=>False)∧B8o f l r
def B8r (f:List (Nat×Nat)) (l:List Ow) (m:List Ow):Prop:=
 match m with
 | []=>True
 |b::r=>(match Cb l (Nh f b.key) with
  |some c=>c=b.cell
  |none=>False)∧B8r f l r
theorem Ra {f:List (Nat×Nat)}{l m:List Bx}(h:B8o f l m){b:Bx}(hb:b∈m):∃c∈l,c.key=Nh f b.key∧Ww f c.cells b.cells:=by
 induction m with
 |nil=>simp at hb
 |cons x r ih=>
  obtain ⟨h1,h2⟩:=h
  rcases List.mem_cons.1 hb with rfl|hb
  ·split at h1
   ·rename_i c hc
    obtain ⟨g1,g2⟩:=F3 hc;exact ⟨c,g1,g2,h1⟩
   exact h1.elim
  exact ih h2 hb
theorem Rb {f:List (Nat×Nat)}{l m:List Ow}(h:B8r f l m){b:Ow}(hb:b∈m):(⟨Nh f b.key,b.cell⟩:Ow)∈l:=by
 induction m with
 |nil=>simp at hb
 |cons x r ih=>
  obtain ⟨h1,h2⟩:=h
  rcases List.mem_cons.1 hb with rfl|hb
  ·split at h1
   ·rename_i c hc
    have:=Cp hc
    rw [h1] at this;exact this
   exact h1.elim
  exact ih h2 hb
def B8x (f:List (Nat×Nat)) (l:List Nat):List Nat:=
 match l with
 | []=>[]
 |x::r=>Nh f x::B8x f r
theorem B3e (f:List (Nat×Nat))(l:List Nat):B8x f l=l.map (Nh f):=by
 induction l with
 |nil=>rfl
 |cons x r ih=>simp [B8x,ih]
def B3b (l:List Bx):List Nat:=
 match l with
 | []=>[]
 |x::r=>x.key::B3b r
theorem B8m (l:List Bx):B3b l=l.map (·.key):=by
 induction l with
 |nil=>rfl
 |cons x r ih=>simp [B3b,ih]
def B3c (l:List Ow):List Nat:=
 match l with
 | []=>[]
 |x::r=>x.key::B3c r
theorem B8n (l:List Ow):B3c l=l.map (·.key):=by
 induction l with
 |nil=>rfl
 |cons x r ih=>simp [B3c,ih]
def B3u (f:List (Nat×Nat)) (N:Nat):Bool:=
 match f with
 | []=>true
 |(_,b)::r=>Nat.blt b N&&B3u r N
theorem C2k {f:List (Nat×Nat)}{N k:Nat}(h:B3u f N=true)(hk:k<N):Nh f k<N:=by
 induction f with
 |nil=>exact hk
 |cons p r ih=>
  obtain ⟨a,b⟩:=p;simp only [B3u,Bool.and_eq_true] at h;unfold Nh
  split
  ·exact Ir h.1
  exact ih h.2
def B8p (f:List (Nat×Nat)) (l m:List (Nat×Value)):Prop:=
 match m with
 | []=>True
 |(k,v)::r=>Ed l (Nh f k)=some v∧B8p f l r
theorem Fy {l:List (Nat×Value)}{k:Nat}{v:Value}(h:Ed l k=some v):(k,v)∈l:=by
 induction l with
 |nil=>simp [Ed] at h
 |cons p r ih=>
  obtain ⟨a,u⟩:=p;unfold Ed at h
  split at h
  ·rename_i e
   obtain rfl:=Nat.eq_of_beq_eq_true e;obtain rfl:=Option.some.inj h
   simp
  exact List.mem_cons_of_mem _ (ih h)
theorem B8q {f:List (Nat×Nat)}{l m:List (Nat×Value)}(h:B8p f l m){p:Nat×Value}(hp:p∈m):(Nh f p.1,p.2)∈l:=by
 induction m with
 |nil=>simp at hp
 |cons q r ih=>
  obtain ⟨k,v⟩:=q
  rcases List.mem_cons.1 hp with rfl|hp
  ·exact Fy h.1
  exact ih h.2 hp
def C1u (n:Nat) (l:List (Nat×Value)):Bool:=
 match l with
 | []=>true
 |(k,_)::r=>Nat.blt k n&&C1u n r
theorem B8v {n:Nat}{l:List (Nat×Value)}(h:C1u n l=true){p:Nat×Value}(hp:p∈l):p.1<n:=by
 induction l with
 |nil=>simp at hp
 |cons q r ih=>
  obtain ⟨k,v⟩:=q;simp only [C1u,Bool.and_eq_true] at h
  rcases List.mem_cons.1 hp with rfl|hp
  ·exact Ir h.1
  exact ih h.2 hp
def A56 (f:List (Nat×Nat)) (s t:AS):Bool:=
 Nat.ble t.next s.next&&B3u f s.next&&A47 (low2 t.next) t.slots&&C1t t.next t.boxes&&C1v t.next t.own&&Gv (B8x f (B3b t.boxes))&&Gv (B8x f (B3c t.own))&&C1u t.next t.links
theorem B8s {f:List (Nat×Nat)}{s t:AS}(h1:Ww f s.slots t.slots)(h2:B8o f s.boxes t.boxes)(h3:B8r f s.own t.own)(h5:B8p f s.links t.links)(h4:A56 f s t=true){B:Be}{E:E7}{a:Act}{w:World}(hs:s.is B E a w):
  t.is B (E.ren f) a w:=by
 simp only [A56,Bool.and_eq_true] at h4;obtain ⟨⟨⟨⟨⟨⟨⟨hn,hr⟩,k1⟩,k2⟩,k3⟩,k4⟩,k5⟩,k6⟩:=h4;have hnext:=Nat.le_of_ble_eq_true hn;have k4:(t.boxes.map fun b=>Nh f b.key).Nodup:=by have:=Eu k4;rwa [B3e,B8m,List.map_map] at this
 have k5:(t.own.map fun b=>Nh f b.key).Nodup:=by have:=Eu k5;rwa [B3e,B8n,List.map_map] at this
 have injB:∀x∈t.boxes,∀y∈t.boxes,Nh f x.key=Nh f y.key→x.key=y.key:=by
  intro x hx y hy e;obtain ⟨i,hi,rfl⟩:=List.mem_iff_getElem.1 hx;obtain ⟨j,hj,rfl⟩:=List.mem_iff_getElem.1 hy;have hp:=List.pairwise_iff_getElem.1 k4
  rcases Nat.lt_trichotomy i j with hl|rfl|hl
  ·exact absurd (by rw [List.getElem_map,List.getElem_map];exact e) (hp i j (by simpa using hi) (by simpa using hj) hl)
  ·rfl
  exact absurd (by rw [List.getElem_map,List.getElem_map];exact e.symm) (hp j i (by simpa using hj) (by simpa using hi) hl)
 have injO:∀x∈t.own,∀y∈t.own,Nh f x.key=Nh f y.key→x.key=y.key:=by
  intro x hx y hy e;obtain ⟨i,hi,rfl⟩:=List.mem_iff_getElem.1 hx;obtain ⟨j,hj,rfl⟩:=List.mem_iff_getElem.1 hy;have hp:=List.pairwise_iff_getElem.1 k5
  rcases Nat.lt_trichotomy i j with hl|rfl|hl
  ·exact absurd (by rw [List.getElem_map,List.getElem_map];exact e) (hp i j (by simpa using hi) (by simpa using hj) hl)
  ·rfl
  exact absurd (by rw [List.getElem_map,List.getElem_map];exact e.symm) (hp j i (by simpa using hj) (by simpa using hi) hl)
 have av:∀b,t.avoid (E.ren f) b→s.avoid E b:=by
  rintro b (⟨x,hx,rfl⟩|⟨y,hy,hb⟩)
  ·obtain ⟨c,hc,e,_⟩:=Ra h2 hx
   exact .inl ⟨c,hc,by rw [e];rfl⟩
  exact .inr ⟨_,Rb h3 hy,hb⟩
 have mv:∀x v,low2 t.next x=true→Dr E w (s.avoid E) s.next (ren2 f x) v→Dr (E.ren f) w (t.avoid (E.ren f)) t.next x v:=fun x v hb hx=>
  (hx.ren2 hb).move (Nat.le_refl _) (fun _ _=>⟨rfl,rfl⟩) (fun _ _ _=>rfl) (fun b _ hb=>av b hb)
 obtain ⟨l1,l2⟩:=A8m h1
 refine ⟨hs.defers,fun p hp=>⟨B8v k6 hp,(hs.links _ (B8q h5 hp)).2⟩,by rw [hs.size,l1],fun i x hx=>?_,fun x hx=>?_,fun x hx y hy e=>?_,?_,fun y hy=>?_,?_,fun y hy z hz hne=>?_,fun x hx y hy=>?_,
  fun k hk=>hs.one _ (C2k hr (Nat.lt_of_lt_of_le hk hnext)),hs.base,fun b hb=>hs.fresh b (av b hb)⟩
 ·rcases l2 i x hx with rfl|h'
  ·exact .any _
  exact mv _ _ (Qw k1 (List.mem_of_getElem? hx)) (hs.slots i _ h')
 ·obtain ⟨c,hc,e,hle⟩:=Ra h2 hx
  obtain ⟨_,vs,ty,g2,g3,g4⟩:=hs.boxes c hc;obtain ⟨m1,m2⟩:=A8m hle;obtain ⟨b1,b2⟩:=B8u k2 hx;refine ⟨b1,vs,ty,by rw [e] at g2;exact g2,by omega,fun i y hy=>?_⟩
  rcases m2 i y hy with rfl|h'
  ·exact .any _
  exact mv _ _ (Qw b2 (List.mem_of_getElem? hy)) (g4 i _ h')
 ·obtain ⟨c,hc,e1,_⟩:=Ra h2 hx
  obtain ⟨d,hd,e2,_⟩:=Ra h2 hy;refine injB x hx y hy ?_;rw [←e1,←e2];exact hs.boxes2 c hc d hd (by rw [e1,e2];exact e)
 ·have:=k4
  refine (List.pairwise_map.2 ?_:(t.boxes.map (·.key)).Nodup);exact (List.pairwise_map.1 k4).imp (fun h e=>h (by rw [e]))
 ·obtain ⟨_,g2,g3⟩:=hs.own _ (Rb h3 hy)
  exact ⟨B8w k3 hy,g2,g3⟩
 ·refine (List.pairwise_map.2 ?_:(t.own.map (·.key)).Nodup)
  exact (List.pairwise_map.1 k5).imp (fun h e=>h (by rw [e]))
 ·exact hs.sep _ (Rb h3 hy) _ (Rb h3 hz) (fun e=>hne (injO y hy z hz e))
 obtain ⟨c,hc,e,_⟩:=Ra h2 hx
 have:=hs.sepB c hc _ (Rb h3 hy)
 rw [e] at this;exact this
def Xq (us:List (Nat×AV)) (i:Nat):Option AV:=
 match us with
 | []=>none
 |(k,x)::r=>match Nat.beq k i with
  |true=>some x
  |false=>Xq r i
def B81 (fs:List Nat) (i:Nat):Bool:=
 match fs with
 | []=>false
 |k::r=>match Nat.beq k i with
  |true=>true
  |false=>B81 r i
def upx (x:AV) (i:Nat) (fs:List Nat) (us:List (Nat×AV)):AV:=
 match Xq us i with
 |some y=>y
 |none=>match B81 fs i with
  |true=> .any
  |false=>x
def upL (l:List AV) (i:Nat) (fs:List Nat) (us:List (Nat×AV)):List AV:=
 match l with
 | []=>[]
 |x::r=>upx x i fs us::upL r (i+1) fs us
def upK {α:Type} (l:List AV) (i:Nat) (fs:List Nat) (us:List (Nat×AV)) (k:List AV→α):α:=
 match l with
 | []=>k []
 |x::r=>Jr (i+1) fun j=>match Xq us i with
  |some y=>upK r j fs us fun r=>k (y::r)
  |none=>match B81 fs i with
   |true=>upK r j fs us fun r=>k (.any::r)
   |false=>upK r j fs us fun r=>k (x::r)
theorem C0n {α:Type}(l:List AV)(i:Nat)(fs:List Nat)(us:List (Nat×AV))(k:List AV→α):upK l i fs us k=k (upL l i fs us):=by
 induction l generalizing i k with
 |nil=>rfl
 |cons x r ih=>
  simp only [upK,Hl,upL,upx,ih]
  split
  ·rfl
  split<;>rfl
def AS.upd (s:AS) (fs:List Nat) (us:List (Nat×AV)) (bs:List Bx) (os:List Ow):AS:= {s with slots:=upL s.slots 0 fs us,boxes:=bs,own:=os}
def Xt (f:List (Nat×Nat)) (l:List AV) (us:List (Nat×AV)):Prop:=
 match us with
 | []=>True
 |(i,x)::r=>Hs l i=ren2 f x∧Xt f l r
theorem B5a {f:List (Nat×Nat)}{l:List AV}{us:List (Nat×AV)}(h:Xt f l us){k:Nat}{x:AV}(hm:(k,x)∈us):Hs l k=ren2 f x:=by
 induction us with
 |nil=>simp at hm
 |cons p r ih=>
  obtain ⟨i,y⟩:=p
  rcases List.mem_cons.1 hm with e|hm
  ·simp only [Prod.mk.injEq] at e
   obtain ⟨rfl,rfl⟩:=e;exact h.1
  exact ih h.2 hm
theorem B46 {us:List (Nat×AV)}{i:Nat}{x:AV}(h:Xq us i=some x):(i,x)∈us:=by
 induction us with
 |nil=>simp [Xq] at h
 |cons p r ih=>
  obtain ⟨k,y⟩:=p;unfold Xq at h
  split at h
  ·rename_i e
   obtain rfl:=Nat.eq_of_beq_eq_true e;obtain rfl:=Option.some.inj h
   simp
  exact List.mem_cons_of_mem _ (ih h)
theorem A2q (l:List AV)(i:Nat)(fs:List Nat)(us:List (Nat×AV)):(upL l i fs us).length=l.length:=by
 induction l generalizing i with
 |nil=>rfl
 |cons x r ih=>simp [upL,ih]
def kx (x y:AV) (i:Nat) (fs:List Nat) (us:List (Nat×AV)):AV:=
 match y with
 | .any=> .any
 |_=>match Xq us i with
  |some _=> .any
  |none=>match B81 fs i with
   |true=> .any
   |false=>x
def V5 (xs ys:List AV) (i:Nat) (fs:List Nat) (us:List (Nat×AV)):List AV:=
 match xs,ys with
 |x::xs,y::ys=>kx x y i fs us::V5 xs ys (i+1) fs us
 | [],_=>[]
 |_::_,[]=>[.any]
def V6 (f:List (Nat×Nat)) (ys:List AV) (i:Nat) (fs:List Nat) (us:List (Nat×AV)):List AV:=
 match ys with
 |y::ys=>kx (ren2 f y) y i fs us::V6 f ys (i+1) fs us
 | []=>[]
theorem B8l {f:List (Nat×Nat)}{ys:List AV}{fs:List Nat}{us:List (Nat×AV)}:∀{xs:List AV} {i:Nat},V5 xs ys i fs us=V6 f ys i fs us→
  xs.length=ys.length∧∀(k:Nat) (y:AV),(upL ys i fs us)[k]? =some y→y= .any∨(i+k,y)∈us∨xs[k]? =some (ren2 f y):=by
 induction ys with
 |nil=>
  intro xs i h
  cases xs with
  |nil=>simp [upL]
  |cons x xs=>simp [V5,V6] at h
 |cons y ys ih=>
  intro xs i h
  cases xs with
  |nil=>simp [V5,V6] at h
  |cons x xs=>
   simp only [V5,V6,List.cons.injEq] at h;obtain ⟨h1,h2⟩:=h;obtain ⟨g1,g2⟩:=ih h2;refine ⟨by simp [g1],fun k z hz=>?_⟩
   cases k with
   |zero=>
    simp only [upL,List.getElem?_cons_zero,Option.some.injEq] at hz;unfold upx at hz;unfold kx at h1
    cases hf:Xq us i with
    |some u=>
     rw [hf] at hz;subst hz;exact .inr (.inl (B46 hf))
    |none=>
     rw [hf] at hz
     cases hm:B81 fs i with
     |true=>rw [hm] at hz;exact .inl hz.symm
     |false=>
      rw [hm] at hz;subst hz
      cases y<;>first|exact .inl rfl|(simp only [hf,hm] at h1;right;right;simp [h1])
   |succ k=>
    have:=g2 k z (by simpa [upL] using hz)
    rw [Nat.add_assoc,Nat.add_comm 1 k] at this
    simpa using this
theorem C1q {f:List (Nat×Nat)}{xs ys:List AV}(h:ys.length=xs.length)(hp:∀(i:Nat) (y:AV),ys[i]? =some y→y= .any∨xs[i]? =some (ren2 f y)):Ww f xs ys:=by
 induction xs generalizing ys with
 |nil=>
  cases ys with
  |nil=>trivial
  |cons y ys=>simp at h
 |cons x xs ih=>
  cases ys with
  |nil=>simp at h
  |cons y ys=>
   have h1:=ih (ys:=ys) (by simpa using h) (fun i z hz=>by simpa using hp (i+1) z (by simpa using hz));have h0:=hp 0 y C8
   cases y<;>simp only [Ww]<;>first|exact h1|exact ⟨by simpa using h0,h1⟩
theorem A8n {f:List (Nat×Nat)}{xs ys:List AV}{fs:List Nat}{us:List (Nat×AV)}(hu:Xt f xs us)(hs:V5 xs ys 0 fs us=V6 f ys 0 fs us):Ww f xs (upL ys 0 fs us):=by
 obtain ⟨h1,h2⟩:=B8l hs;refine C1q (by rw [A2q,h1]) (fun i y hy=>?_)
 rcases h2 i y hy with h|h|h
 ·exact .inl h
 ·rw [Nat.zero_add] at h
  have:=B5a hu h
  have hi:i<xs.length:=by rw [h1];have:=(List.getElem?_eq_some_iff.1 hy).1;rwa [A2q] at this
  rw [Dc,List.getElem?_eq_getElem hi] at this
  right
  rw [List.getElem?_eq_getElem hi]
  simpa using this
 exact .inr h
theorem A9d (x:AV):ren0 [] x=x:=by cases x<;>rfl
theorem B3t {g:AV→AV}(hg:∀x,g x=x)(l:List AV):A13 g l=l:=by
 induction l with
 |nil=>rfl
 |cons x r ih=>simp [A13,ih,hg]
theorem A9e (x:AV):ren1 [] x=x:=by cases x<;>simp [ren1,B3t A9d,A9d]
theorem B9w (x:AV):ren2 [] x=x:=by cases x<;>simp [ren2,B3t A9e,A9e]
theorem B5e (l:List AV)(i:Nat)(fs:List Nat)(us:List (Nat×AV)):V5 l l i fs us=V6 [] l i fs us:=by
 induction l generalizing i with
 |nil=>rfl
 |cons x r ih=>simp [V5,V6,ih,B9w]
theorem Bk (hT:Cs P T)(wr:Bool){J:Type}{B:Be}{Q:Exit→Act→World→Prop}{c:Code}{K:List KI}{s:AS}(fs:List Nat)(us:J→List (Nat×AV))(bs:J→List Bx)(os:J→List Ow)
  (φ:J→Prop)(μ:J→Nat)(j0:J)(h0:φ j0)(hu:Xt [] s.slots (us j0))(hb:B8o [] s.boxes (bs j0))(ho:B8r [] s.own (os j0))(hl:B8p [] s.links s.links)(hk:A56 [] s (s.upd fs (us j0) (bs j0) (os j0))=true)
  (body:∀j,φ j→vcW P B Q (upK s.slots 0 fs (us j) fun slots=>Oz T wr 100000 (.code c:: .loop (Inv B (fun j=>s.upd fs (us j) (bs j) (os j)) φ μ (μ j))::K) {s with slots:=slots,boxes:=bs j,own:=os j})):
  GW P B Q (.code (.loop c)::K) s:=
 ⟨B5g (fun j=>s.upd fs (us j) (bs j) (os j)) φ μ j0 h0 (fun E a w hs=>⟨_,B8s (t:=s.upd fs (us j0) (bs j0) (os j0)) (A8n hu (B5e s.slots 0 fs (us j0))) hb ho hl hk hs⟩)
  (fun j hj=>(go hT wr (by have:=body j hj;rw [C0n] at this;exact this)).rec id)⟩
theorem Az (f:List (Nat×Nat)){J:Type}(j:J){B:Be}{Q:Exit→Act→World→Prop}{K:List KI}{s s':AS}{fs:List Nat}{us:J→List (Nat×AV)}{bs:J→List Bx}{os:J→List Ow}
  {φ:J→Prop}{μ:J→Nat}{m:Nat}(hφ:φ j)(hμ:μ j<m)(hu:Xt f s'.slots (us j))(ho:B8r f s'.own (os j))(hb:B8o f s'.boxes (bs j))
  (hs:V5 s'.slots s.slots 0 fs (us j)=V6 f s.slots 0 fs (us j))(hl:B8p f s'.links s.links)
  (hk:A56 f s' (s.upd fs (us j) (bs j) (os j))=true):GW P B Q (.loop (Inv B (fun j=>s.upd fs (us j) (bs j) (os j)) φ μ m)::K) s':=
 ⟨fun E _ _ hs'=>⟨j,hφ,hμ,E.ren f,B8s (t:=s.upd fs (us j) (bs j) (os j)) (A8n hu hs) hb ho hl hk hs'⟩⟩
end Go.Sx
namespace Go.Sx
variable {P : Program}
def A43 (S:TypeId→List Ai→Prop):List TypeId→List Ai→Prop
 | [],cs=>cs=[]
 |t::r,cs=>∃a b,cs=a++b∧S t a∧A43 S r b
def Ij (P:Program):Nat→TypeId→List Ai→Prop
 | 0,_,_=>False
 |f+1,t,cs=>match P.underlying t with
  |some .bool=>∃b,cs=[.val (.bool b)]
  |some (.int k)=>∃n,Gk k n∧cs=[.val (.int k n)]
  |some .string=>∃b:ByteArray,b.size≤maxLen∧cs=[.val (.string b)]
  |some (.slice e)=>∃n row,n≤maxLen∧cs=[.sl n (P.cellsOf e) row]∧∀i,i<n→Ij P f e (row i)
  |some (.struct fs)=>A43 (Ij P f) (fs.toList.map (·.type)) cs
  |_=>False
def Zz (P:Program):Nat→List Field→Option Nat
 |o,[]=>some o
 |o,F::r=>if F.offset=o then Zz P (o+P.cellsOf F.type) r else none
def okT (P:Program):Nat→TypeId→Bool
 | 0,_=>false
 |f+1,t=>match P.underlying t with
  |some .bool=>true
  |some (.int _)=>true
  |some .string=>true
  |some (.slice e)=>Nat.blt 0 (P.cellsOf e)&&okT P f e
  |some (.struct fs)=>Zz P 0 fs.toList==some (P.cellsOf t)&&fs.toList.all fun F=>okT P f F.type
  |_=>false
theorem Wx {α β:Type}{g:α→Option β}{l:List α}{r:List β}(h:l.mapM g=some r):r.length=l.length∧∀(i:Nat) (x:α),l[i]? =some x→∃y,g x=some y∧r[i]? =some y:=by
 induction l generalizing r with
 |nil=>simp at h;subst h;simp
 |cons a l ih=>
  rw [List.mapM_cons] at h
  cases ha:g a with
  |none=>simp [ha] at h
  |some b=>
   cases hb:l.mapM g with
   |none=>simp [ha,hb] at h
   |some bs=>
    simp [ha,hb] at h
    subst h;obtain ⟨h1,h2⟩:=ih hb;refine ⟨by simp [h1],fun i x hx=>?_⟩
    cases i with
    |zero=>simp only [List.getElem?_cons_zero,Option.some.injEq] at hx;subst hx;exact ⟨b,ha,by simp⟩
    |succ i=>simpa using h2 i x (by simpa using hx)
theorem C4q {k:IntKind}{n:Int}(h:(Lit.int k n).wf=true):Gk k n:=by
 simp only [Lit.wf,Bool.and_eq_true,decide_eq_true_eq] at h
 cases k<;>simp only [IntKind.min,IntKind.max,IntKind.signed,IntKind.bits] at h<;>simp only [Gk]<;>simp at h<;>omega
def Ti (w:World) (xs:List Ai) (cs:List Value):Prop:=xs.length=cs.length∧∀(i:Nat) (c:Ai),xs[i]? =some c→Qi w (fun _=>False) c (cs.getD i undef)
theorem Ti.one {w:World}{c:Ai}{v:Value}(h:Qi w (fun _=>False) c v):Ti w [c] [v]:=by
 refine ⟨rfl,fun i x hx=>?_⟩
 cases i with
 |zero=>simp only [List.getElem?_cons_zero,Option.some.injEq] at hx;subst hx;exact h
 |succ i=>simp at hx
theorem Ti.append {w:World}{a b:List Ai}{u v:List Value}(h:Ti w a u)(k:Ti w b v):Ti w (a++b) (u++v):=by
 refine ⟨by simp [h.1,k.1],fun i c hc=>?_⟩
 by_cases hi:i<a.length
 ·rw [List.getElem?_append_left hi] at hc
  have:=h.2 i c hc
  have hi':i<u.length:=by rw [←h.1];exact hi
  simp only [List.getD,List.getElem?_append_left hi'] at this ⊢;exact this
 rw [List.getElem?_append_right Ad] at hc
 have:=k.2 _ c hc
 have hi':u.length≤i:=by rw [←h.1];omega
 rw [h.1] at this;simp only [List.getD,List.getElem?_append_right hi'] at this ⊢;exact this
variable {H : Type} {enc : TypeId × Value → H} {w : World} {base : Nat} {held : Bool}
theorem C0j:∀(fuel:Nat) (t:TypeId) (cs:List Value) (r:DataW H×List MemPlace) (g:Nat),okT P g t=true→DataW.trod enc P w base (fun _=>true) held fuel t cs=some r→
  ∃xs,Ti w xs cs∧Ij P fuel t xs:=by
 intro fuel
 induction fuel with
 |zero=>intro t cs r g _ h;simp [DataW.trod] at h
 |succ fuel ih=>
  intro t cs r g hok h
  cases g with
  |zero=>simp [okT] at hok
  |succ g=>
   unfold okT at hok
   split at hok
   ·rename_i hu
    unfold DataW.trod at h;rw [hu] at h
    split at h<;>simp_all
    rename_i b
    exact ⟨[.val (.bool b)],.one (.val _ rfl),by simp [Ij,hu]⟩
   ·rename_i k hu
    unfold DataW.trod at h;rw [hu] at h
    split at h<;>simp_all
    rename_i n e
    subst e;obtain ⟨⟨_,hw⟩,_⟩:=h;exact ⟨[.val (.int k n)],.one (.val _ rfl),by simp [Ij,hu,C4q hw]⟩
   ·rename_i hu
    unfold DataW.trod at h;rw [hu] at h
    split at h<;>simp_all
    rename_i b
    exact ⟨[.val (.string b)],.one (.val _ rfl),by simp [Ij,hu,h.1]⟩
   ·rename_i e hu
    simp only [Bool.and_eq_true] at hok;obtain ⟨hpos,hok⟩:=hok;have hpos:=Ir hpos;unfold DataW.trod at h;rw [hu] at h
    have key:(cs=[.slice none 0 0])∨∃a len cap,cs=[.slice (some a) len cap]∧len≤cap∧cap≤maxLen∧(0<cap→a.spot=none)∧
      ∀i,i<len→∃vs x,w.cells? base (a.add (i * P.cellsOf e)) (P.cellsOf e)=some vs∧DataW.trod enc P w base (fun _=>true) held fuel e vs=some x:=by
     split at h
     case h_7=>left;rfl
     case h_8 e' a len cap heq=>
      right
      simp only [Option.some.injEq,TypeDesc.slice.injEq] at heq;subst heq;refine ⟨a,len,cap,rfl,?_⟩
      simp only at h
      split at h
      ·rename_i hc
       obtain ⟨hb,hlc,hcm⟩:=hc;obtain ⟨elems,he,h⟩:=Option.bind_eq_some_iff.1 h;obtain ⟨rest,hr,_⟩:=Option.map_eq_some_iff.1 h;obtain ⟨e1,e2⟩:=Wx he;refine ⟨hlc,hcm,fun hcap=>?_,fun i hi=>?_⟩
       ·have spot0:∀vs,w.cells? base (a.add (0 * P.cellsOf e)) (P.cellsOf e)=some vs→a.spot=none:=by
         intro vs hv;obtain ⟨_,hl,hc⟩:=World.cells?_some hv;have h0:=hc 0 hpos;have hlt:0<vs.length:=by omega
         rw [List.getElem?_eq_getElem hlt] at h0
         have:=World.cell?_spot h0
         simpa [Addr.add] using this
        by_cases hl:0<len
        ·obtain ⟨y,hy,_⟩:=e2 0 0 (by simp [hl])
         obtain ⟨vs,hv,hy⟩:=Option.bind_eq_some_iff.1 hy;exact spot0 vs hv
        obtain rfl:len=0:=by omega
        simp only [if_true,Nat.sub_zero,Nat.zero_add] at hr;obtain ⟨_,e4⟩:=Wx hr;obtain ⟨y,hy,_⟩:=e4 0 0 (by simp [hcap]);obtain ⟨vs,hv,hy⟩:=Option.bind_eq_some_iff.1 hy;exact spot0 vs hv
       obtain ⟨y,hy,_⟩:=e2 i i (by simp [hi]);obtain ⟨vs,hv,hy⟩:=Option.bind_eq_some_iff.1 hy;exact ⟨vs,y,hv,hy⟩
      simp at h
     all_goals simp_all
    rcases key with rfl|⟨a,len,cap,rfl,hlc,hcm,hspot,hel⟩
    ·exact ⟨[.sl 0 (P.cellsOf e) fun _=>[]],.one (.nil _ _),by simp only [Ij,hu];exact ⟨0,_,Nat.zero_le _,rfl,fun _ h=>absurd h (Nat.not_lt_zero _)⟩⟩
    by_cases hcap:cap=0
    ·subst hcap
     obtain rfl:len=0:=by omega
     exact ⟨[.sl 0 (P.cellsOf e) fun _=>[]],.one (.emp _ _ _),by simp only [Ij,hu];exact ⟨0,_,Nat.zero_le _,rfl,fun _ h=>absurd h (Nat.not_lt_zero _)⟩⟩
    obtain ⟨b,off,spot⟩:=a;obtain rfl:spot=none:=hspot Ad
    have hex:∀i,∃vs xs,i<len→w.cells? base ((⟨b,off,none⟩:Addr).add (i * P.cellsOf e)) (P.cellsOf e)=some vs∧Ti w xs vs∧Ij P fuel e xs:=by
     intro i
     by_cases hi:i<len
     ·obtain ⟨vs,x,h1,h2⟩:=hel i hi
      obtain ⟨xs,h3,h4⟩:=ih e vs x g hok h2;exact ⟨vs,xs,fun _=>⟨h1,h3,h4⟩⟩
     exact ⟨[],[],fun h=>absurd h hi⟩
    have hex2:∀i,∃p:List Value×List Ai,i<len→w.cells? base ((⟨b,off,none⟩:Addr).add (i * P.cellsOf e)) (P.cellsOf e)=some p.1∧Ti w p.2 p.1∧Ij P fuel e p.2:=
     fun i=>let ⟨vs,xs,h⟩:=hex i;⟨(vs,xs),h⟩
    let p:=fun i=>Classical.choose (hex2 i)
    have hp:∀i,i<len→w.cells? base ((⟨b,off,none⟩:Addr).add (i * P.cellsOf e)) (P.cellsOf e)=some (p i).1∧Ti w (p i).2 (p i).1∧Ij P fuel e (p i).2:=fun i=>Classical.choose_spec (hex2 i);refine ⟨[.sl len (P.cellsOf e) fun i=>(p i).2],.one (.sl len (P.cellsOf e) _ b off cap (fun i j=>(p i).1.getD j undef) (fun _ h=>h) hlc hcm (fun i hi=>?_) (fun i j hi hj=>?_) (fun i j c hi hc=>?_)),?_⟩
    ·obtain ⟨h1,h2,_⟩:=hp i hi
     obtain ⟨_,hl,_⟩:=World.cells?_some h1;rw [h2.1,hl]
    ·obtain ⟨h1,h2,_⟩:=hp i hi
     obtain ⟨_,hl,hc⟩:=World.cells?_some h1;have h0:=hc j hj;have hlt:j<(p i).1.length:=by omega
     have e1:((⟨b,off,none⟩:Addr).add (i * P.cellsOf e)).add j=⟨b,off+i * P.cellsOf e+j,none⟩:=by
      simp only [Addr.add]
      split<;>split<;>simp_all<;>omega
     rw [e1] at h0;rw [h0,List.getElem?_eq_getElem hlt]
     simp [List.getD,hlt]
    ·exact (hp i hi).2.1.2 j c hc
    simp only [Ij,hu];exact ⟨len,_,by omega,rfl,fun i hi=>(hp i hi).2.2⟩
   ·rename_i fs hu
    simp only [Bool.and_eq_true,beq_iff_eq,List.all_eq_true] at hok;obtain ⟨hct,hall⟩:=hok;unfold DataW.trod at h;rw [hu] at h
    have key:cs.length=P.cellsOf t∧∀F∈fs.toList,∃x,DataW.trod enc P w base (fun _=>true) held fuel F.type ((cs.drop F.offset).take (P.cellsOf F.type))=some x:=by
     split at h
     case h_9 fs' heq=>
      simp only [Option.some.injEq,TypeDesc.struct.injEq] at heq;subst heq
      split at h
      ·rename_i hl
       obtain ⟨xs,hx,_⟩:=Option.map_eq_some_iff.1 h;obtain ⟨_,e2⟩:=Wx hx;refine ⟨hl,fun F hF=>?_⟩;obtain ⟨i,hi⟩:=List.mem_iff_getElem?.1 hF;obtain ⟨y,hy,_⟩:=e2 i F hi;exact ⟨y,hy⟩
      simp at h
     all_goals simp_all
    obtain ⟨hlen,hf⟩:=key
    have main:∀(l:List Field) (o:Nat),Zz P o l=some (P.cellsOf t)→(∀F∈l,F∈fs.toList)→∃xs,Ti w xs (cs.drop o)∧A43 (Ij P fuel) (l.map (·.type)) xs:=by
     intro l
     induction l with
     |nil=>
      intro o ho _;simp only [Zz,Option.some.injEq] at ho;refine ⟨[],⟨by simp [ho,hlen],by simp⟩,rfl⟩
     |cons F r ihl=>
      intro o ho hm;unfold Zz at ho
      split at ho
      ·rename_i hoff
       obtain ⟨x,hx⟩:=hf F (hm F C8);obtain ⟨xs,h1,h2⟩:=ih F.type _ x g (hall F (hm F C8)) hx;obtain ⟨ys,h3,h4⟩:=ihl _ ho (fun G hG=>hm G (by simp [hG]));refine ⟨xs++ys,?_,xs,ys,rfl,h2,h4⟩
       have e:cs.drop o=(cs.drop F.offset).take (P.cellsOf F.type)++cs.drop (o+P.cellsOf F.type):=by
        rw [hoff,←List.drop_drop,List.take_append_drop]
       rw [e];exact h1.append h3
      simp at ho
    obtain ⟨xs,h1,h2⟩:=main fs.toList 0 hct (fun _ h=>h);exact ⟨xs,by simpa using h1,by simpa [Ij,hu] using h2⟩
   simp at hok
end Go.Sx
namespace Go.Sx
variable {P : Program} {T : List (TypeId × TI)}
abbrev vi (n:Int):Ai:= .val (.int .i64 n)
abbrev vb (b:Bool):Ai:= .val (.bool b)
abbrev vs (b:ByteArray):Ai:= .val (.string b)
def Kv {α:Type} [Inhabited α] (es:Nat) (e:α→List Ai) (xs:List α):Ai:= .sl xs.length es fun i=>e (xs.getD i default)
theorem Vv {α:Type} [Inhabited α] (es:Nat)(e:α→List Ai)(xs ys:List α):
  Ug xs.length ys.length es (fun i=>e (xs.getD i default)) (fun i=>e (ys.getD i default)) (Kv es e (xs++ys)):=by
 refine ⟨_,by rw [Kv,List.length_append],fun i hi=>?_,fun i hi=>?_⟩
 ·simp [List.getD,List.getElem?_append_left hi]
 simp [List.getD,List.getElem?_append_right]
theorem An {α:Type} [Inhabited α] {es:Nat}{e:α→List Ai}{xs:List α}{x:α}{row:Nat→List Ai}(h:row 0=e x):
  Ug xs.length 1 es (fun i=>e (xs.getD i default)) row (Kv es e (xs++[x])):=by
 refine ⟨_,by rw [Kv,List.length_append];rfl,fun i hi=>?_,fun i hi=>?_⟩
 ·simp [List.getD,List.getElem?_append_left hi]
 obtain rfl:i=0:=by omega
 simp [List.getD,h]
theorem Ck {α:Type} [Inhabited α] {es:Nat}{e:α→List Ai}{xs:List α}{j off:Nat}{x:α}{cs:List Ai}(hj:j<xs.length)(h:Ds (e (xs.getD j default)) off cs=e x):
  Qj xs.length es (fun i=>e (xs.getD i default)) j off cs (Kv es e (xs.set j x)):=by
 refine ⟨_,by rw [Kv,List.length_set],fun i hi hne=>?_,?_⟩
 ·simp [List.getD,List.getElem?_set_ne (Ne.symm hne)]
 rw [h]
 simp [List.getD,hj]
end Go.Sx
namespace Go.Sx
variable {P : Program} {T : List (TypeId × TI)}
theorem Tu {B:Be}{E:E7}{s:AS}{a:Act}{w:World}(h:s.is B E a w){ks:List Nat}(hk:ks.Nodup)(hm:∀k∈ks,∃y∈s.own,y.key=k):(ks.flatMap E.fp).Nodup:=by
 refine Cw.2 ⟨fun k hk'=>?_,?_⟩
 ·obtain ⟨y,hy,rfl⟩:=hm k hk'
  exact (h.own y hy).2.2
 refine List.Pairwise.imp_of_mem ?_ hk;intro k j hk' hj' hne b hb hb';obtain ⟨y,hy,rfl⟩:=hm k hk';obtain ⟨z,hz,rfl⟩:=hm j hj';exact h.sep y hy z hz hne b hb hb'
end Go.Sx
namespace Go.Sx
variable {P : Program} {T : List (TypeId × TI)}
structure C50 (W:World) (may:Nat→Prop) (v:Value) (y:Gy) (outs:List Value) (w':World) (e:Ending):Prop where
 res:e= .returned (Kp outs)
 own:∃fp',Mr w' y v fp'∧fp'.Nodup∧∀b∈fp',may b∨W.heap.size≤b
 kept:B4a may W w'
end Go.Sx
