/- Part 5 of the proof that each of the laws FnTold returns true for every input. No conditions. -/
import Derived.Test.YtdendlkeiaccpaaGreatDoorP4
import Derived.Lib.AppendZerosOnto
import Derived.Lib.Overlaps

set_option linter.unusedSimpArgs false
set_option linter.unusedVariables false
set_option maxRecDepth 100000
namespace Go.Sx
open Go
open Go.RowKit (Below)
variable {P : Program} {T : List (TypeId × TI)}
theorem B48 {a b:Nat}(h:Nat.blt a b=true):a<b:=Nat.le_of_ble_eq_true h
theorem B09 {B:Ax}{Q:Exit→Act→World→Prop}{K:List KI}{s:AS}(l:List Ow)(hp0:(s.own.map (·.key)).Nodup→l.Perm s.own)(h:GW P B Q K {s with own:=l}):GW P B Q K s:=by
 refine ⟨fun E a w hs=>?_⟩
 have hp:=hp0 hs.ownkeys
 have hav:({s with own:=l}:AS).avoid E=s.avoid E:=by
  funext b
  refine propext ⟨?_,?_⟩
  ·rintro (h|⟨y,hy,h⟩)
   ·exact .inl h
   exact .inr ⟨y,hp.mem_iff.1 hy,h⟩
  rintro (h|⟨y,hy,h⟩)
  ·exact .inl h
  exact .inr ⟨y,hp.mem_iff.2 hy,h⟩
 refine h.out E a w ⟨hs.defers,hs.links,hs.size,?_,?_,hs.boxes2,hs.keys,fun y hy=>hs.own y (hp.mem_iff.1 hy),(hp.map _).nodup_iff.2 hs.ownkeys,fun y hy z hz=>hs.sep y (hp.mem_iff.1 hy) z (hp.mem_iff.1 hz),fun x hx y hy=>hs.sepB x hx y (hp.mem_iff.1 hy),hs.one,hs.base,?_⟩
 ·rw [hav];exact hs.slots
 ·rw [hav];exact hs.boxes
 rw [hav];exact hs.fresh
theorem Qi {k j:Nat}:R8 j [k]=true↔j=k:=by rw [Ff];simp
theorem A3s {k j:Nat}(h:j≠k):R8 j [k]=false:=by
 cases hh:R8 j [k] with
 |false=>rfl
 |true=>exact absurd (Qi.1 hh) h
theorem A38 {ks:List Nat}:∀(m:List Ow),(∀y∈m,y.key∉ks)→Bk ks m=m:=by
 intro m
 induction m with
 |nil=>intro _;rfl
 |cons z m ih=>
  intro hm
  have hz:R8 z.key ks=false:=by
   cases hh:R8 z.key ks with
   |false=>rfl
   |true=>exact absurd (Ff.1 hh) (hm z Bw)
  simp only [Bk,hz,ih (fun y hy=>hm y (List.mem_cons_of_mem _ hy))]
theorem Ud {k:Nat}{c:Ac}:∀(l:List Ow),(l.map (·.key)).Nodup→Bs l k=some c→((⟨k,c⟩:Ow)::Bk [k] l).Perm l:=by
 intro l
 induction l with
 |nil=>intro _ hg;simp [Bs] at hg
 |cons y r ih=>
  intro hnd hg
  simp only [List.map_cons,List.nodup_cons] at hnd
  unfold Bs at hg
  cases hb:Nat.beq y.key k with
  |true=>
   have he:=Nat.eq_of_beq_eq_true hb
   rw [hb] at hg
   have hc:y.cell=c:=by simpa using hg
   have hr:Bk [k] r=r:=A38 r (fun z hz e=>hnd.1 (by rw [he,←(show z.key=k by simpa using e)];exact List.mem_map_of_mem hz))
   have hin:R8 y.key [k]=true:=Qi.2 he
   simp only [Bk,hin,hr]
   have:(⟨k,c⟩:Ow)=y:=by cases y;simp_all
   rw [this]
  |false=>
   rw [hb] at hg
   have hin:R8 y.key [k]=false:=A3s (fun e=>by rw [e] at hb;simp at hb)
   simp only [Bk,hin]
   exact (List.Perm.swap _ _ _).trans ((ih hnd.2 hg).cons _)
def nSl:List Ac→Nat
 | []=>0
 |c::r=>match Ky c with|true=>nSl r+1|false=>nSl r
def opO (k:Nat):List Ac→List Ow
 | []=>[]
 |c::r=>match Ky c with|true=>⟨k,c⟩::opO (k+1) r|false=>opO k r
def W1 (k:Nat) (u:Nat→Value):List Ac→List Ac
 | []=>[]
 |c::r=>match Ky c with|true=> .val (u k)::W1 (k+1) u r|false=>c::W1 k u r
def opL (k:Nat) (u:Nat→Value) (l:List (Nat×Value)):List Ac→List (Nat×Value)
 | []=>l
 |c::r=>match Ky c with|true=>opL (k+1) u ((k,u k)::l) r|false=>opL k u l r
def opA (k:Nat):List Ac→List AV
 | []=>[]
 |c::r=>match Ky c with|true=> .own k::opA (k+1) r|false=> .c c::opA k r
theorem B31 (k:Nat)(u:Nat→Value)(r:List Ac):(W1 k u r).length=r.length:=by
 induction r generalizing k with
 |nil=>rfl
 |cons c r ih=>cases c<;>simp [W1,Ky,ih]
theorem A7s {k:Nat}{u u':Nat→Value}{r:List Ac}(h:∀i,k≤i→u i=u' i):W1 k u r=W1 k u' r:=by
 induction r generalizing k with
 |nil=>rfl
 |cons c r ih=>
  cases c with
  |val v=>simp only [W1,Ky];rw [ih h]
  |sl n es row=>simp only [W1,Ky];rw [h k (Nat.le_refl _),ih (fun i hi=>h i Ab)]
theorem A7t {k:Nat}{u u':Nat→Value}{r:List Ac}{l:List (Nat×Value)}(h:∀i,k≤i→u i=u' i):opL k u l r=opL k u' l r:=by
 induction r generalizing k l with
 |nil=>rfl
 |cons c r ih=>
  cases c with
  |val v=>simp only [opL,Ky];rw [ih h]
  |sl n es row=>simp only [opL,Ky];rw [h k (Nat.le_refl _),ih (fun i hi=>h i Ab)]
theorem A39 (k:Nat)(l:List Ow):Bk [k] (Bk [k] l)=Bk [k] l:=by
 induction l with
 |nil=>rfl
 |cons y r ih=>
  simp only [Bk]
  cases h:R8 y.key [k] with
  |true=>simp only [ih]
  |false=>simp only [Bk,h,ih]
theorem A4k (d:List Ac)(c:Ac)(t:List Ac)(v:Ac):D4 (d++c::t) d.length [v]=d++v::t:=by
 unfold D4
 rw [List.take_left,List.length_singleton,show d.length+1=(d++[c]).length by simp,show d++c::t=(d++[c])++t by simp,List.drop_left]
 simp
theorem Kq {k n:Nat}{c:Ac}{l:List Ow}(h:n≠k):Bs (⟨n,c⟩::l) k=Bs l k:=by
 have:Nat.beq n k=false:=by
  cases hb:Nat.beq n k with
  |false=>rfl
  |true=>exact absurd (Nat.eq_of_beq_eq_true hb) h
 simp only [Bs,this]
theorem J9 {k:Nat}{c:Ac}{l:List Ow}:Bs (⟨k,c⟩::l) k=some c:=by
 have:Nat.beq k k=true:=by simp
 simp only [Bs,this]
theorem B1a {α:Type}(A:List α)(x y:α)(R:List α):(x::(A++y::R)).Perm (A++y::x::R):=
 ((List.perm_middle (a:=y) (l₁:=A) (l₂:=R)).cons x).trans ((List.Perm.swap y x (A++R)).trans (((List.perm_middle (a:=x) (l₁:=A) (l₂:=R)).symm.cons y).trans (List.perm_middle (a:=y) (l₁:=A) (l₂:=x::R)).symm))
theorem B6z {B:Ax}{Q:Exit→Act→World→Prop}{K:List KI}(k jn:Nat){es n:Nat}{row:Nat→List Ac}(hj:jn<n):∀(todo done:List Ac) {s:AS} (_:k<s.next)
  (_:Bs s.own k=some (.sl n es (Fa row jn (done++todo))))
  (_:∀u,GW P B Q K {s with own:=opO s.next todo++⟨k,.sl n es (Fa row jn (done++W1 s.next u todo))⟩::Bk [k] s.own,next:=s.next+nSl todo,links:=opL s.next u s.links todo}),GW P B Q K s:=by
 intro todo
 induction todo with
 |nil=>
  intro done s hlt hk h
  have:=h fun _=>undef
  simp only [opO,W1,nSl,opL,List.nil_append,Nat.add_zero] at this
  exact B09 _ (fun hnd=>Ud _ hnd hk) this
 |cons c todo ih=>
  intro done s hlt hk h
  cases c with
  |val v=>
   refine ih (done++[.val v]) hlt (by simpa using hk) (fun u=>?_)
   have:=h u
   simpa [opO,W1,nSl,opL,Ky] using this
  |sl m fs rw'=>
   refine B5l k jn done.length hk hj (c:= .sl m fs rw') Bw (fun v=>?_)
   rw [A4k]
   have hne:s.next≠k:=by omega
   refine ih (done++[.val v]) (s:= {s with own:=⟨s.next,.sl m fs rw'⟩::⟨k,.sl n es (Fa row jn (done++ .val v::todo))⟩::Bk [k] s.own,next:=s.next+1,links:=(s.next,v)::s.links}) (by simp only;omega)
    (by simp only;rw [Kq hne,J9];simp) (fun u=>?_)
   have hu:=h (fun i=>if i=s.next then v else u i)
   have e1:W1 (s.next+1) (fun i=>if i=s.next then v else u i) todo=W1 (s.next+1) u todo:=A7s (fun i hi=>by rw [if_neg Ab])
   have e2:∀l,opL (s.next+1) (fun i=>if i=s.next then v else u i) l todo=opL (s.next+1) u l todo:=fun l=>A7t (fun i hi=>by rw [if_neg Ab])
   simp only [opO,W1,opL,nSl,Ky,if_true,e1,e2] at hu
   have e3:Bk [k] (⟨s.next,.sl m fs rw'⟩::⟨k,.sl n es (Fa row jn (done++ .val v::todo))⟩::Bk [k] s.own)=⟨s.next,.sl m fs rw'⟩::Bk [k] s.own:=by
    have a1:R8 s.next [k]=false:=A3s hne
    have a2:R8 k [k]=true:=Qi.2 rfl
    simp only [Bk,a1,a2,A39]
   simp only [e3]
   rw [show s.next+1+nSl todo=s.next+(nSl todo+1) by omega]
   refine B09 _ (fun _=>?_) (by simpa using hu)
   simp only [List.append_assoc,List.cons_append,List.nil_append]
   exact B1a _ _ _ _
def A1q (links:List (Nat×Value)):List AV→List AV→Prop
 | [],[]=>True
 |x::xs,y::ys=>(x=y∨∃k v,x= .c (.val v)∧y= .own k∧Dl links k=some v)∧A1q links xs ys
 |_,_=>False
theorem Xp {links:List (Nat×Value)}:∀{xs ys:List AV},A1q links xs ys→xs.length=ys.length∧∀(i:Nat) y,ys[i]? =some y→∃x,xs[i]? =some x∧(x=y∨∃k v,x= .c (.val v)∧y= .own k∧Dl links k=some v)
 | [],[],_=>⟨rfl,fun i y h=>by simp at h⟩
 |x::xs,y::ys,h=>by
  obtain ⟨h1,h2⟩:=h
  obtain ⟨g1,g2⟩:=Xp h2
  refine ⟨by simp [g1],fun i z hz=>?_⟩
  cases i with
  |zero=>exact ⟨x,rfl,by simpa using (Option.some.inj hz)▸h1⟩
  |succ i=>simpa using g2 i z (by simpa using hz)
 | [],_::_,h=>h.elim
 |_::_,[],h=>h.elim
theorem B2y {E:Cv}{w:World}{A:Nat→Prop}{N:Nat}{links:List (Nat×Value)}{xs ys:List AV}{v:Value}(hl:A1q links xs ys)(hE:∀p∈links,p.1<N∧E.ov p.1=p.2)(h:Cm E w A N (.agg xs) v):Cm E w A N (.agg ys) v:=by
 obtain ⟨g1,g2⟩:=Xp hl
 cases h with
 |agg vs hvl hx=>
  refine .agg vs Ab (fun i y hy=>?_)
  obtain ⟨x,hx1,hx2⟩:=g2 i y hy
  have:=hx i x hx1
  rcases hx2 with rfl|⟨k,u,rfl,rfl,hk⟩
  ·exact this
  obtain ⟨q1,q2⟩:=hE _ (Es hk)
  have q2:E.ov k=u:=q2
  rw [Bc this,←q2]
  exact .own q1
theorem B36 {B:Ax}{Q:Exit→Act→World→Prop}{K:List KI}{s:AS}(d:Option Tmp){xs ys:List AV}(hl:A1q s.links xs ys)(h:GW P B Q K (s.put d (.agg ys))):GW P B Q K (s.put d (.agg xs)):=by
 cases d with
 |none=>exact h
 |some d=>
  refine ⟨fun E a w hs=>h.out E a w ⟨hs.defers,hs.links,by rw [hs.size];simp [AS.put,Ca],fun m z hz=>?_,hs.boxes,hs.boxes2,hs.keys,hs.own,hs.ownkeys,hs.sep,hs.sepB,hs.one,hs.base,hs.fresh⟩⟩
  simp only [AS.put] at hz
  rw [D8] at hz
  split at hz
  ·rename_i hm
   obtain ⟨rfl,hm⟩:=hm
   obtain rfl:=Option.some.inj hz
   have hd:=hs.slots d (.agg xs) (by show (Ce s.slots d (.agg xs))[d]? =_;rw [D8,if_pos ⟨rfl,hm⟩])
   exact B2y hl hs.links hd
  rename_i hm
  exact hs.slots m z (by simp only [AS.put,D8];rw [if_neg hm];exact hz)
theorem Z2 {k n:Nat}{v:Value}{l:List (Nat×Value)}(h:n≠k):Dl ((n,v)::l) k=Dl l k:=by
 have:Nat.beq n k=false:=by
  cases hb:Nat.beq n k with
  |false=>rfl
  |true=>exact absurd (Nat.eq_of_beq_eq_true hb) h
 simp only [Dl,this]
theorem A1b (u:Nat→Value):∀(r:List Ac) (k j:Nat) (l:List (Nat×Value)),j<k→Dl (opL k u l r) j=Dl l j:=by
 intro r
 induction r with
 |nil=>intro k j l _;rfl
 |cons c r ih=>
  intro k j l h
  cases c with
  |val v=>simp only [opL,Ky];exact ih k j l h
  |sl n es row=>simp only [opL,Ky];rw [ih (k+1) j _ Ab,Z2 Ab]
theorem B30 (u:Nat→Value):∀(r:List Ac) (k:Nat) (l:List (Nat×Value)) (xs:List AV),Je (W1 k u r)=some xs→A1q (opL k u l r) xs (opA k r):=by
 intro r
 induction r with
 |nil=>intro k l xs h;obtain rfl:=Option.some.inj h;trivial
 |cons c r ih=>
  intro k l xs h
  cases c with
  |val v=>
   simp only [W1,Ky,Je] at h
   split at h
   ·rename_i cs hcs
    obtain rfl:=Option.some.inj h
    exact ⟨.inl rfl,ih k l cs hcs⟩
   cases h
  |sl n es row=>
   simp only [W1,Ky,Je] at h
   split at h
   ·rename_i cs hcs
    obtain rfl:=Option.some.inj h
    refine ⟨.inr ⟨k,u k,rfl,rfl,?_⟩,ih (k+1) _ cs hcs⟩
    simp only [opL,Ky]
    rw [A1b u r (k+1) k _ Ab]
    have:Nat.beq k k=true:=by simp
    simp only [Dl,this]
   cases h
theorem Uu (u:Nat→Value):∀(r:List Ac) (k:Nat),∃xs,Je (W1 k u r)=some xs∧xs.length=r.length
 | [],_=>⟨[],rfl,rfl⟩
 | .val v::r,k=>by
  obtain ⟨xs,h1,h2⟩:=Uu u r k
  exact ⟨.c (.val v)::xs,by simp [W1,Ky,Je,h1],by simp [h2]⟩
 | .sl n es row::r,k=>by
  obtain ⟨xs,h1,h2⟩:=Uu u r (k+1)
  exact ⟨.c (.val (u k))::xs,by simp [W1,Ky,Je,h1],by simp [h2]⟩
theorem A3m {k j:Nat}(r:List Ac)(l:List Ow)(h:j<k):Bs (opO k r++l) j=Bs l j:=by
 induction r generalizing k with
 |nil=>rfl
 |cons c r ih=>
  cases c with
  |val v=>simp only [opO,Ky];exact ih h
  |sl n es row=>simp only [opO,Ky,List.cons_append];rw [Kq Ab,ih Ab]
theorem V1 (hT:C7 P T){B:Ax}{Q:Exit→Act→World→Prop}{q:Bool}{all:Array Oper}{o:Oper}{rest:List Oper}{K:List KI}{s:AS}{x:Operand}{t:TypeId}{i:TI}
  (hg:o.guard=none)(ho:o.op= .load t x)(hi:find T t=some i){k es n jn:Nat}{j:Int}{row:Nat→List Ac}{r:List Ac}
  (hx:s.ev x= .oel k es j 0)(hk:Bs s.own k=some (.sl n es row))(hjn:j.toNat=jn)(hr:row jn=r)(hj:jn<n)(hlt:Nat.blt k s.next=true)(hsz:(i.agg&&Nat.beq i.size r.length)=true)
  (h:∀u,GW P B Q (.ops q all rest::K) (({s with own:=opO s.next r++⟨k,.sl n es (Fa row jn (W1 s.next u r))⟩::Bk [k] s.own,next:=s.next+nSl r,links:=opL s.next u s.links r}:AS).put o.dst (.agg (opA s.next r)))):
  GW P B Q (.ops q all (o::rest)::K) s:=by
 simp only [Bool.and_eq_true] at hsz
 obtain ⟨hag,hsz⟩:=hsz
 have hsz:=Nat.eq_of_beq_eq_true hsz
 have hlt:=B48 hlt
 refine B62 k jn hk hr ?_
 have hko:Bs (Gc s.own k (.sl n es (Fa row jn r))) k=some (.sl n es (Fa row jn r)):=by
  generalize s.own=l at hk
  induction l with
  |nil=>simp [Bs] at hk
  |cons y l ih=>
   unfold Bs at hk
   unfold Gc
   cases hb:Nat.beq y.key k with
   |true=>exact J9
   |false=>
    rw [hb] at hk
    simp only [Bs,hb]
    exact ih hk
 have hrem:Bk [k] (Gc s.own k (.sl n es (Fa row jn r)))=Bk [k] s.own:=by
  generalize s.own=l
  induction l with
  |nil=>rfl
  |cons y l ih=>
   unfold Gc
   cases hb:Nat.beq y.key k with
   |true=>
    have he:=Nat.eq_of_beq_eq_true hb
    have a1:R8 y.key [k]=true:=Qi.2 he
    have a2:R8 k [k]=true:=Qi.2 rfl
    simp only [Bk,a1,a2,ih]
   |false=>
    have a1:R8 y.key [k]=false:=A3s (fun e=>by rw [e] at hb;simp at hb)
    simp only [Bk,a1,ih]
 refine B6z k jn hj r [] hlt (by simpa using hko) (fun u=>?_)
 simp only [List.nil_append,hrem]
 obtain ⟨xs,hf,hfl⟩:=Uu u r s.next
 refine B6p hT hg ho hi (r:=W1 s.next u r) (xs:=xs) hx (by simp only;rw [A3m _ _ hlt,J9]) hjn hf (by rw [B31,hsz];simp) ?_
 have hre:Iq i xs 0= .agg xs:=by
  unfold Iq
  rw [hag]
  simp [seg,hsz,←hfl]
 rw [hre]
 exact B36 o.dst (B30 u r s.next s.links xs hf) (h u)
theorem A3n {ks:List Nat}{l:List Ow}{k:Nat}(h:k∉ks):Bs (Bk ks l) k=Bs l k:=by
 induction l with
 |nil=>rfl
 |cons y l ih=>
  cases hb:R8 y.key ks with
  |true=>
   have hm:=Ff.1 hb
   have hne:y.key≠k:=fun e=>h (e▸hm)
   simp only [Bk,hb]
   rw [show y=⟨y.key,y.cell⟩ from rfl,Kq hne,ih]
  |false=>
   simp only [Bk,hb,Bs,ih]
theorem A18 (ks js:List Nat)(l:List Ow):Bk ks (Bk js l)=Bk (js++ks) l:=by
 induction l with
 |nil=>rfl
 |cons y l ih=>
  cases hb:R8 y.key js with
  |true=>
   have:R8 y.key (js++ks)=true:=Ff.2 (List.mem_append_left _ (Ff.1 hb))
   simp only [Bk,hb,this,ih]
  |false=>
   cases hc:R8 y.key ks with
   |true=>
    have:R8 y.key (js++ks)=true:=Ff.2 (List.mem_append_right _ (Ff.1 hc))
    simp only [Bk,hb,hc,this,ih]
   |false=>
    have:R8 y.key (js++ks)=false:=by
     cases hd:R8 y.key (js++ks) with
     |false=>rfl
     |true=>
      rcases List.mem_append.1 (Ff.1 hd) with h|h
      ·rw [Ff.2 h] at hb;cases hb
      rw [Ff.2 h] at hc;cases hc
    simp only [Bk,hb,hc,this,ih]
theorem A17 {ks js:List Nat}(h:∀k,k∈ks↔k∈js)(l:List Ow):Bk ks l=Bk js l:=by
 induction l with
 |nil=>rfl
 |cons y l ih=>
  have:R8 y.key ks=R8 y.key js:=by
   rw [Bool.eq_iff_iff,Ff,Ff];exact h _
  simp only [Bk,this,ih]
def Rv (l:List Ac) (i:Nat) (c:Ac):List Ac:=
 match l,i with
 | [],_=>[]
 |_::r,0=>c::r
 |x::r,i+1=>x::Rv r i c
theorem Sr (c:Ac):∀(l:List Ac) (i:Nat),i<l.length→Rv l i c=D4 l i [c]
 | [],_,h=>absurd h (Nat.not_lt_zero _)
 |x::r,0,_=>by simp [Rv,D4]
 |x::r,i+1,h=>by
  have:=Sr c r i (by simpa using h)
  simp only [Rv,this,D4,List.length_singleton,List.take_succ_cons,List.cons_append,List.drop_succ_cons]
theorem Vh (c:Ac):∀(l:List Ac) (i j:Nat),i≠j→(Rv l i c)[j]? =l[j]?
 | [],_,_,_=>rfl
 |x::r,0,j,h=>by cases j with
  |zero=>exact absurd rfl h
  |succ j=>rfl
 |x::r,i+1,j,h=>by cases j with
  |zero=>rfl
  |succ j=>simpa [Rv] using Vh c r i j Ab
def Nm (own:List Ow) (r:List Ac):List (Nat×Nat)→Option (List Ac)
 | []=>some r
 |(off,k)::ps=>match Bs own k with
  |some c=>Nm own (Rv r off c) ps
  |none=>none
def Po (links:List (Nat×Value)) (r:List Ac):List (Nat×Nat)→Prop
 | []=>True
 |(off,k)::ps=>(∃v,r[off]? =some (.val v)∧Dl links k=some v)∧Po links r ps
theorem Vi {links:List (Nat×Value)}{r:List Ac}{off:Nat}{c:Ac}:∀{ps:List (Nat×Nat)},off∉ps.map Prod.fst→Po links r ps→Po links (Rv r off c) ps
 | [],_,_=>trivial
 |(o,k)::ps,hn,h=>by
  simp only [List.map_cons,List.mem_cons,not_or] at hn
  obtain ⟨⟨v,h1,h2⟩,h3⟩:=h
  exact ⟨⟨v,by rw [Vh _ _ _ _ hn.1];exact h1,h2⟩,Vi hn.2 h3⟩
theorem B65 {B:Ax}{Q:Exit→Act→World→Prop}{K:List KI}(k jn:Nat){es n:Nat}{row:Nat→List Ac}(hj:jn<n):∀(ps:List (Nat×Nat)) (r r':List Ac) {s:AS}
  (_:Bs s.own k=some (.sl n es (Fa row jn r))) (_:(k::ps.map Prod.snd).Nodup) (_:(ps.map Prod.fst).Nodup) (_:Po s.links r ps) (_:Nm s.own r ps=some r')
  (_:GW P B Q K {s with own:=⟨k,.sl n es (Fa row jn r')⟩::Bk (k::ps.map Prod.snd) s.own}),GW P B Q K s:=by
 intro ps
 induction ps with
 |nil=>
  intro r r' s hk hn hf ho hc h
  obtain rfl:=Option.some.inj hc
  exact B09 _ (fun hnd=>Ud _ hnd hk) h
 |cons p ps ih=>
  obtain ⟨off,k2⟩:=p
  intro r r' s hk hn hf ho hc h
  have hn':=hn
  simp only [List.map_cons] at hn hf
  obtain ⟨hkk',hn2⟩:=List.nodup_cons.1 hn
  obtain ⟨hk2ps,hps⟩:=List.nodup_cons.1 hn2
  obtain ⟨hoffps,hfps⟩:=List.nodup_cons.1 hf
  have hkk:k≠k2:=fun e=>hkk' (by rw [e];exact List.mem_cons_self ..)
  have hkps:k∉ps.map Prod.snd:=fun e=>hkk' (List.mem_cons_of_mem _ e)
  obtain ⟨⟨v,hv1,hv2⟩,ho⟩:=ho
  unfold Nm at hc
  split at hc
  ·rename_i c hg
   have hoff:off<r.length:=(List.getElem?_eq_some_iff.1 hv1).1
   refine B17 k k2 off hk hj hv1 hg hv2 (by cases hb:Nat.beq k k2 with|false=>rfl|true=>exact absurd (Nat.eq_of_beq_eq_true hb) hkk) (Sr c r off hoff).symm ?_
   have hrem:Bk (k::ps.map Prod.snd) (⟨k,.sl n es (Fa row jn (Rv r off c))⟩::Bk [k,k2] s.own)=Bk (k::k2::ps.map Prod.snd) s.own:=by
    have a1:R8 k (k::ps.map Prod.snd)=true:=Ff.2 (List.mem_cons_self ..)
    simp only [Bk,a1]
    rw [A18]
    refine A17 (fun z=>?_) _
    generalize ps.map Prod.snd=m
    simp only [List.cons_append,List.nil_append,List.mem_cons]
    constructor
    ·rintro (h|h|h|h)
     ·exact .inl h
     ·exact .inr (.inl h)
     ·exact .inl h
     exact .inr (.inr h)
    rintro (h|h|h)
    ·exact .inl h
    ·exact .inr (.inl h)
    exact .inr (.inr (.inr h))
   have hgo:∀z,z∈ps.map Prod.snd→Bs (⟨k,.sl n es (Fa row jn (Rv r off c))⟩::Bk [k,k2] s.own) z=Bs s.own z:=by
    intro z hz
    have z1:k≠z:=fun e=>hkps (e▸hz)
    have z2:k2≠z:=fun e=>hk2ps (e▸hz)
    rw [Kq z1,A3n (by simp only [List.mem_cons,List.not_mem_nil,or_false];rintro (e|e);exact z1 e.symm;exact z2 e.symm)]
   have hsh:∀(qs:List (Nat×Nat)) (r0:List Ac),(∀z∈qs.map Prod.snd,z∈ps.map Prod.snd)→Nm (⟨k,.sl n es (Fa row jn (Rv r off c))⟩::Bk [k,k2] s.own) r0 qs=Nm s.own r0 qs:=by
    intro qs
    have:∀(own':List Ow),(∀z,z∈ps.map Prod.snd→Bs own' z=Bs s.own z)→∀(r:List Ac),(∀z∈qs.map Prod.snd,z∈ps.map Prod.snd)→Nm own' r qs=Nm s.own r qs:=by
     intro own' ho'
     induction qs with
     |nil=>intro r _;rfl
     |cons q qs ih2=>
      obtain ⟨o2,k3⟩:=q
      intro r hz
      unfold Nm
      rw [ho' k3 (hz k3 Bw)]
      split
      ·exact ih2 _ (fun z hz'=>hz z (by simp only [List.map_cons];exact List.mem_cons_of_mem _ hz'))
      rfl
    exact this _ hgo
   refine ih (Rv r off c) r' (s:= {s with own:=⟨k,.sl n es (Fa row jn (Rv r off c))⟩::Bk [k,k2] s.own}) J9 (List.nodup_cons.2 ⟨hkps,hps⟩) hfps (Vi hoffps ho) (by simp only;rw [hsh ps _ (fun _ h=>h)];exact hc) ?_
   simp only
   rw [hrem]
   exact h
  cases hc
theorem Mr {B:Ax}{Q:Exit→Act→World→Prop}{K:List KI}{s:AS}(k jn:Nat)(ps:List (Nat×Nat)){es n:Nat}{row:Nat→List Ac}{r r':List Ac}(c:Ac)(hj:jn<n)
  (hk:Bs s.own k=some (.sl n es (Fa row jn r)))(hn:(Fu (k::ps.map Prod.snd)&&Fu (ps.map Prod.fst))=true)(ho:Po s.links r ps)(hc:Nm s.own r ps=some r')(hcast:Gy (.sl n es (Fa row jn r')) c)
  (h:GW P B Q K {s with own:=⟨k,c⟩::Bk (k::ps.map Prod.snd) s.own}):GW P B Q K s:=by
 simp only [Bool.and_eq_true] at hn
 refine B65 k jn hj ps r r' hk (Dq hn.1) (Dq hn.2) ho hc ?_
 refine Ed k c J9 hcast ?_
 have e1:Nat.beq k k=true:=by simp
 have e2:Gc (Bk (k::ps.map Prod.snd) s.own) k c=Bk (k::ps.map Prod.snd) s.own:=by
  have:∀(l:List Ow),(∀y∈l,y.key≠k)→Gc l k c=l:=by
   intro l
   induction l with
   |nil=>intro _;rfl
   |cons y l ih=>
    intro hl
    have hb:Nat.beq y.key k=false:=by
     cases hb:Nat.beq y.key k with
     |false=>rfl
     |true=>exact absurd (Nat.eq_of_beq_eq_true hb) (hl y Bw)
    simp only [Gc,hb,ih (fun z hz=>hl z (List.mem_cons_of_mem _ hz))]
  exact this _ (fun y hy e=>(C4.1 hy).2 (by rw [e];exact List.mem_cons_self ..))
 simp only [Gc,e1,e2]
 exact h
theorem B0k (hT:C7 P T){B:Ax}{Q:Exit→Act→World→Prop}{q:Bool}{all:Array Oper}{o:Oper}{rest:List Oper}{K:List KI}{s:AS}{x:Operand}{t:TypeId}{i:TI}
  (hg:o.guard=none)(ho:o.op= .load t x)(hi:find T t=some i)(hag:i.agg=false){k es off n jn:Nat}{j:Int}{row:Nat→List Ac}{r:List Ac}{v:Value}
  (hx:s.ev x= .oel k es j off)(hk:Bs s.own k=some (.sl n es row))(hjn:j.toNat=jn)(hr:row jn=r)(hc:r[off]? =some (.val v))
  (h:GW P B Q (.ops q all rest::K) (s.put o.dst (.c (.val v)))):GW P B Q (.ops q all (o::rest)::K) s:=by
 refine ⟨Dw hg (fun E a w hs=>?_)⟩
 have hm:=C2 hk
 obtain ⟨hklt,o2,o3⟩:=hs.own _ hm
 simp only at o2 o3 hklt
 have hev:=hs.ev x
 rw [hx] at hev
 generalize hv:a.eval x=v' at hev
 cases hev with
 |oel _ b o' n' cap hkl hov h0 hj=>
  rw [hov] at o2
  obtain ⟨m,rfl⟩:=Int.eq_ofNat_of_zero_le h0
  simp only [Int.toNat_natCast,Int.ofNat_lt] at *
  subst hjn
  generalize E.fp k=fp at o2
  cases o2 with
  |emp=>exact absurd hj (Nat.not_lt_zero _)
  |sl _ _ _ _ offb _ ty cells fps hn hc' hb hsz hl hr'=>
   have hoff:off<es:=by rw [←hl m hj,hr];exact (List.getElem?_eq_some_iff.1 hc).1
   have hin:=hr' m off _ hj (by rw [hr];exact hc)
   have hcl:(offb+m) * es+off<cells.size:=by
    have:=Et (show offb+m<offb+cap by omega) hoff
    omega
   have hval:cells.getD ((offb+m) * es+off) undef=v∧v.oneCell'=true:=by
    generalize cells.getD ((offb+m) * es+off) undef=u,fps (m * es+off)=g at hin
    cases hin with
    |val _ h1=>exact ⟨rfl,h1⟩
   obtain ⟨hval,h1v⟩:=hval
   refine ⟨v,fun w' hkw=>?_,h.out E _ w (hs.put o.dst (.c (.val v h1v)))⟩
   obtain ⟨dst,op',ty',pos,after,guard⟩:=o
   simp only at ho
   subst ho
   obtain ⟨f,d,z,S⟩:=TI.of_spec (hT t i hi)
   have h1:=S.one (by rw [←S.agg];exact hag)
   have hrun:=G7 (hT t i hi) w' b (offb * es+m * es+off) ((List.range i.size).map fun _=>v) Bw (fun p hp=>by
    obtain rfl:p=0:=by omega
    refine hkw.cell ?_
    rw [show offb * es+m * es+off+0=(offb+m) * es+off by rw [Nat.add_mul];omega,cell_of_row w b _ cells ty (0,0) hb]
    simp only [h1,List.range_one,List.map_cons,List.map_nil,List.getD_cons_zero]
    rw [←hval,Array.getD_eq_getD_getElem?]
    simp [hcl])
   simp only [execOp,hv,Instr.loadAt,Instr.sureAddr,Sem.run_bind,Sem.run_pure,Result.andThen_ok,hrun,hag,h1]
   rfl
theorem I9 (hT:C7 P T){B:Ax}{Q:Exit→Act→World→Prop}{q:Bool}{all:Array Oper}{o:Oper}{rest:List Oper}{K:List KI}{s:AS}{x:Operand}{t:TypeId}{i:TI}
  (hg:o.guard=none)(ho:o.op= .load t x)(hi:find T t=some i)(hag:i.agg=false){k es off n jn:Nat}{j:Int}{row:Nat→List Ac}{r:List Ac}{c:Ac}
  (hx:s.ev x= .oel k es j off)(hk:Bs s.own k=some (.sl n es row))(hjn:j.toNat=jn)(hr:row jn=r)(hc:r[off]? =some c)
  (h:∀v,GW P B Q (.ops q all rest::K) (({s with own:=⟨s.next,c⟩::⟨k,.sl n es (Fa row jn (D4 r off [.val v]))⟩::Bk [k] s.own,next:=s.next+1,links:=(s.next,v)::s.links}:AS).put o.dst (.own s.next))):
  GW P B Q (.ops q all (o::rest)::K) s:=by
 subst hjn
 refine C6 hT hg ho hi hag hx hk (c:=c) (by rw [hr];exact hc) fun v=>?_
 have:=h v
 rw [←B27 row j.toNat off v hr] at this
 exact this
theorem B7j {B:Ax}{Q:Exit→Act→World→Prop}{q:Bool}{f:FuncId}{xs:List AV}{dst:Option Tmp}{K:List KI}{s s':AS}(hslots:s'.slots=s.slots)(tr:∀(K':List KI) (sl:List AV),GW P B QF K' {s' with slots:=sl}→GW P B QF K' {s with slots:=sl})
  (h:CW P B Q q f xs dst K s'):CW P B Q q f xs dst K s:=by
 obtain ⟨hc,h⟩:=h
 refine ⟨⟨hc,fun E a w hs vs hl hv=>?_⟩⟩
 let a2:Act:= {a with tmps:=a.tmps++vs.toArray}
 have h2:({s with slots:=s.slots++xs}:AS).is B E a2 w:=by
  refine ⟨hs.defers,hs.links,by simp [a2,hs.size,hl],fun i x hx=>?_,hs.boxes,hs.boxes2,hs.keys,hs.own,hs.ownkeys,hs.sep,hs.sepB,hs.one,hs.base,hs.fresh⟩
  have hsz:=hs.size
  simp only at hx
  by_cases hi:i<s.slots.length
  ·rw [List.getElem?_append_left hi] at hx
   have:=hs.slots i x hx
   have e:a2.tmps.getD i undef=a.tmps.getD i undef:=by
    rw [←Br,←Br]
    simp only [a2,Array.toList_append,List.getD]
    rw [List.getElem?_append_left (by simpa [hsz] using hi)]
   rw [e]
   exact this
  rw [List.getElem?_append_right Ab] at hx
  have:=hv _ x hx
  have e:a2.tmps.getD i undef=vs.getD (i-s.slots.length) undef:=by
   rw [←Br]
   simp only [a2,Array.toList_append,List.getD]
   rw [List.getElem?_append_right (by simp [hsz];omega)]
   simp [hsz]
  rw [e]
  exact this
 have:=(tr [.loop (fun a' w'=>∃E',({s' with slots:=s.slots++xs}:AS).is B E' a' w')] (s.slots++xs) ⟨fun E' a' w' hs'=>⟨E',hs'⟩⟩).out E a2 w h2
 obtain ⟨E',hs'⟩:=this
 have hsz:=hs.size
 refine h E' a w ⟨hs.defers,hs'.links,by rw [hslots];exact hs.size,fun i x hx=>?_,hs'.boxes,hs'.boxes2,hs'.keys,hs'.own,hs'.ownkeys,hs'.sep,hs'.sepB,hs'.one,hs'.base,hs'.fresh⟩ vs hl fun i x hx=>?_
 ·rw [hslots] at hx
  have hi:i<s.slots.length:=(List.getElem?_eq_some_iff.1 hx).1
  have:=hs'.slots i x (by simp only;rw [List.getElem?_append_left hi];exact hx)
  have e:a2.tmps.getD i undef=a.tmps.getD i undef:=by
   rw [←Br,←Br]
   simp only [a2,Array.toList_append,List.getD]
   rw [List.getElem?_append_left (by simpa [hsz] using hi)]
  rw [e] at this
  exact this
 have hi:i<xs.length:=(List.getElem?_eq_some_iff.1 hx).1
 have:=hs'.slots (s.slots.length+i) x (by simp only;rw [List.getElem?_append_right Ab];simpa using hx)
 have e:a2.tmps.getD (s.slots.length+i) undef=vs.getD i undef:=by
  rw [←Br]
  simp only [a2,Array.toList_append,List.getD]
  rw [List.getElem?_append_right (by simp [hsz])]
  simp [hsz]
 rw [e] at this
 exact this
theorem A4d {B:Ax}{Q:Exit→Act→World→Prop}{q:Bool}{f:FuncId}{xs:List AV}{dst:Option Tmp}{K:List KI}{s:AS}(k jn:Nat)(ps:List (Nat×Nat)){es n:Nat}{row:Nat→List Ac}{r r':List Ac}(c:Ac)(hj:jn<n)
  (hk:Bs s.own k=some (.sl n es (Fa row jn r)))(hn:(Fu (k::ps.map Prod.snd)&&Fu (ps.map Prod.fst))=true)(ho:Po s.links r ps)(hc:Nm s.own r ps=some r')(hcast:Gy (.sl n es (Fa row jn r')) c)
  (h:CW P B Q q f xs dst K {s with own:=⟨k,c⟩::Bk (k::ps.map Prod.snd) s.own}):CW P B Q q f xs dst K s:=
 B7j (s':= {s with own:=⟨k,c⟩::Bk (k::ps.map Prod.snd) s.own}) rfl (fun _ sl g=>Mr (s:= {s with slots:=sl}) k jn ps c hj hk hn ho hc hcast g) h
theorem B1k (P:Program){B:Ax}{Q:Exit→Act→World→Prop}{s s':AS}(tr:∀(K':List KI),GW P B QF K' s'→GW P B QF K' s)(h:RW B Q s'):RW B Q s:=
 ⟨fun E a w hs=>(tr [.loop (fun a w=>Q .ret a w)] ⟨fun E a w hs=>h.rec fun g=>g E a w hs⟩).out E a w hs⟩
theorem Rq {B:Ax}{Q:Exit→Act→World→Prop}{K:List KI}{s:AS}(k j key:Nat){b:Bx}(hb:Ew s.boxes k=some b)(hj:Gh b.cells j= .own key)
  (h:∀v,GW P B Q K {s with boxes:=Ea s.boxes k (Ce b.cells j (.c (.val v))),links:=(key,v)::s.links}):GW P B Q K s:=by
 refine ⟨fun E a w hs=>?_⟩
 obtain ⟨hm,hbk⟩:=E7 hb
 obtain ⟨h1,vs,ty,h2,h3,h4⟩:=hs.boxes b hm
 have hlt:key<s.next:=by
  rw [Cl] at hj
  cases hg:b.cells[j]? with
  |none=>rw [hg] at hj;simp at hj
  |some x=>
   rw [hg] at hj
   have hx:x= .own key:=by simpa using hj
   subst hx
   have:=h4 j _ hg
   generalize vs.getD j undef=q at this
   cases this with
   |own hk=>exact hk
 have hone:(E.ov key).oneCell'=true:=hs.one key hlt
 refine (h (E.ov key)).out E a w ⟨hs.defers,fun p hp=>?_,hs.size,?_,fun x hx=>?_,fun x hx y hy=>?_,by rw [K7];exact hs.keys,hs.own,hs.ownkeys,hs.sep,fun x hx y hy=>?_,hs.one,hs.base,?_⟩
 ·rcases List.mem_cons.1 hp with rfl|hp
  ·exact ⟨hlt,rfl⟩
  exact hs.links p hp
 all_goals
  have av:∀c,({s with boxes:=Ea s.boxes k (Ce b.cells j (.c (.val (E.ov key)))),links:=(key,E.ov key)::s.links}:AS).avoid E c→s.avoid E c:=by
   rintro c (⟨x,hx,rfl⟩|hc)
   ·rcases E3 hx hs.keys with ⟨e1,_,y,hy,e2⟩|⟨hx,_⟩
    ·exact .inl ⟨y,hy,by rw [e1,e2]⟩
    exact .inl ⟨x,hx,rfl⟩
   exact .inr hc
  have mv:∀x v,Cm E w (s.avoid E) s.next x v→Cm E w (({s with boxes:=Ea s.boxes k (Ce b.cells j (.c (.val (E.ov key)))),links:=(key,E.ov key)::s.links}:AS).avoid E) s.next x v:=fun x v hx=>
   hx.move (Nat.le_refl _) (fun _ _=>⟨rfl,rfl⟩) (fun _ _ _=>rfl) (fun b _ hb=>av b hb)
 ·exact fun i x hx=>mv _ _ (hs.slots i x hx)
 ·rcases E3 hx hs.keys with ⟨e1,e2,_⟩|⟨hx,_⟩
  ·rw [e1,e2]
   refine ⟨by rw [←hbk];exact h1,vs,ty,by rw [←hbk];exact h2,by rw [Ca];exact h3,fun i y hy=>?_⟩
   rw [D8] at hy
   split at hy
   ·rename_i hm'
    obtain ⟨rfl,hm'⟩:=hm'
    obtain rfl:=Option.some.inj hy
    have:=h4 j (.own key) (by rw [Cl,List.getElem?_eq_getElem hm'] at hj;rw [List.getElem?_eq_getElem hm'];simpa using hj)
    generalize vs.getD j undef=q at this
    cases this with
    |own hk=>exact .c (.val _ hone)
   exact mv _ _ (h4 i y hy)
  obtain ⟨g1,vs',ty',g2,g3,g4⟩:=hs.boxes x hx
  exact ⟨g1,vs',ty',g2,g3,fun i y hy=>mv _ _ (g4 i y hy)⟩
 ·intro e
  have kx:∃x'∈s.boxes,x'.key=x.key:=by
   rcases E3 hx hs.keys with ⟨e1,_,y,hy,e2⟩|⟨hx,_⟩
   ·exact ⟨y,hy,by rw [e1,e2]⟩
   exact ⟨x,hx,rfl⟩
  have ky:∃x'∈s.boxes,x'.key=y.key:=by
   rcases E3 hy hs.keys with ⟨e1,_,y',hy',e2⟩|⟨hy,_⟩
   ·exact ⟨y',hy',by rw [e1,e2]⟩
   exact ⟨y,hy,rfl⟩
  obtain ⟨x',hx',ex⟩:=kx
  obtain ⟨y',hy',ey⟩:=ky
  rw [←ex,←ey]
  exact hs.boxes2 x' hx' y' hy' (by rw [ex,ey];exact e)
 ·rcases E3 hx hs.keys with ⟨e1,_,z,hz,e2⟩|⟨hx,_⟩
  ·rw [e1,←e2];exact hs.sepB z hz y hy
  exact hs.sepB x hx y hy
 exact fun c hc=>hs.fresh c (av c hc)
theorem Rm {B:Ax}{Q:Exit→Act→World→Prop}{K:List KI}{s:AS}(k j key:Nat){b:Bx}{v:Value}(hb:Ew s.boxes k=some b)(hj:Gh b.cells j= .c (.val v))(hl:Dl s.links key=some v)
  (h:GW P B Q K {s with boxes:=Ea s.boxes k (Ce b.cells j (.own key))}):GW P B Q K s:=by
 refine ⟨fun E a w hs=>?_⟩
 obtain ⟨hm,hbk⟩:=E7 hb
 obtain ⟨h1,vs,ty,h2,h3,h4⟩:=hs.boxes b hm
 obtain ⟨hlt,hov⟩:=hs.links _ (Es hl)
 have hov:E.ov key=v:=hov
 have av:∀c,({s with boxes:=Ea s.boxes k (Ce b.cells j (.own key))}:AS).avoid E c→s.avoid E c:=by
  rintro c (⟨x,hx,rfl⟩|hc)
  ·rcases E3 hx hs.keys with ⟨e1,_,y,hy,e2⟩|⟨hx,_⟩
   ·exact .inl ⟨y,hy,by rw [e1,e2]⟩
   exact .inl ⟨x,hx,rfl⟩
  exact .inr hc
 have mv:∀x v,Cm E w (s.avoid E) s.next x v→Cm E w (({s with boxes:=Ea s.boxes k (Ce b.cells j (.own key))}:AS).avoid E) s.next x v:=fun x v hx=>
  hx.move (Nat.le_refl _) (fun _ _=>⟨rfl,rfl⟩) (fun _ _ _=>rfl) (fun b _ hb=>av b hb)
 have kx:∀x∈Ea s.boxes k (Ce b.cells j (.own key)),∃x'∈s.boxes,x'.key=x.key:=fun x hx=>by
  rcases E3 hx hs.keys with ⟨e1,_,y,hy,e2⟩|⟨hx,_⟩
  ·exact ⟨y,hy,by rw [e1,e2]⟩
  exact ⟨x,hx,rfl⟩
 refine h.out E a w ⟨hs.defers,hs.links,hs.size,fun i x hx=>mv _ _ (hs.slots i x hx),fun x hx=>?_,fun x hx y hy e=>?_,by rw [K7];exact hs.keys,hs.own,hs.ownkeys,hs.sep,fun x hx y hy=>?_,hs.one,hs.base,fun c hc=>hs.fresh c (av c hc)⟩
 ·rcases E3 hx hs.keys with ⟨e1,e2,_⟩|⟨hx,_⟩
  ·rw [e1,e2]
   refine ⟨by rw [←hbk];exact h1,vs,ty,by rw [←hbk];exact h2,by rw [Ca];exact h3,fun i y hy=>?_⟩
   rw [D8] at hy
   split at hy
   ·rename_i hm'
    obtain ⟨rfl,hm'⟩:=hm'
    obtain rfl:=Option.some.inj hy
    have:=h4 j (.c (.val v)) (by rw [Cl,List.getElem?_eq_getElem hm'] at hj;rw [List.getElem?_eq_getElem hm'];simpa using hj)
    rw [Bc this,←hov]
    exact .own hlt
   exact mv _ _ (h4 i y hy)
  obtain ⟨g1,vs',ty',g2,g3,g4⟩:=hs.boxes x hx
  exact ⟨g1,vs',ty',g2,g3,fun i y hy=>mv _ _ (g4 i y hy)⟩
 ·obtain ⟨x',hx',ex⟩:=kx x hx
  obtain ⟨y',hy',ey⟩:=kx y hy
  rw [←ex,←ey]
  exact hs.boxes2 x' hx' y' hy' (by rw [ex,ey];exact e)
 obtain ⟨x',hx',ex⟩:=kx x hx
 rw [←ex]
 exact hs.sepB x' hx' y hy
theorem Gu (P:Program){B:Ax}{Q:Exit→Act→World→Prop}{s:AS}(k jn:Nat)(ps:List (Nat×Nat)){es n:Nat}{row:Nat→List Ac}{r r':List Ac}(c:Ac)(hj:jn<n)
  (hk:Bs s.own k=some (.sl n es (Fa row jn r)))(hn:(Fu (k::ps.map Prod.snd)&&Fu (ps.map Prod.fst))=true)(ho:Po s.links r ps)(hc:Nm s.own r ps=some r')(hcast:Gy (.sl n es (Fa row jn r')) c)
  (h:RW B Q {s with own:=⟨k,c⟩::Bk (k::ps.map Prod.snd) s.own}):RW B Q s:=
 B1k P (s':= {s with own:=⟨k,c⟩::Bk (k::ps.map Prod.snd) s.own}) (fun _ g=>Mr k jn ps c hj hk hn ho hc hcast g) h
variable {ops : Array Oper}
def Yq (ops:Array Oper) (listed:Array Bool):Bool:=
 (List.range ops.size).all fun j=>!listed.getD j false||match ops[j]? with
  |some o=>o.after.toList.all fun e=>!Region.binds .any e||listed.getD e.on false
  |none=>true
theorem Jj {listed:Array Bool}(h:Yq ops listed=true):Ke ops listed:=by
 intro j o ho hl e he hb
 have:=List.all_eq_true.1 h j (List.mem_range.2 (Array.getElem?_eq_some_iff.1 ho).1)
 simp only [hl,ho,Bool.not_true,Bool.false_or] at this
 have:=List.all_eq_true.1 this e (Array.mem_toList_iff.2 he)
 simpa [hb] using this
theorem Ej {B:Ax}{N:Act→World→Prop}{fuel:Nat}{listed:Array Bool}{s s':AS}(i:Nat){o:Oper}(hi:ops[i]? =some o)
  (hb:(Nat.beq (Dj o.op) 0&&Region.noSelect ops&&(Region.ready .any ops listed).contains i&&A9x ops listed i o&&Yq ops listed)=true)
  (ht:GW P B QF [.ops true ops [o],.loop (fun a w=>∃E,s'.is B E a w)] s)(h:BW P B N ops fuel (listed.setIfInBounds i true) s'):BW P B N ops (fuel+1) listed s:=by
 simp only [Bool.and_eq_true,List.contains_iff_mem] at hb
 obtain ⟨⟨⟨⟨h0,h1⟩,h2⟩,h3⟩,h4⟩:=hb
 have h0:=Nat.eq_of_beq_eq_true h0
 refine ⟨fun E a w hs=>?_⟩
 have hg:F7 P ops (fun a w=>∃E,s'.is B E a w) [o] a w:=ht.out E a w hs
 have hfree:∀j oj,ops[j]? =some oj→j≠i→listed.getD j true=false→Pr ops ops.size j i=true∨(o.apart ops oj=true∧(Jx o.op=true∨Dj oj.op≤1)):=by
  intro j oj hoj hji hun
  have:=List.all_eq_true.1 h3 j (List.mem_range.2 (Array.getElem?_eq_some_iff.1 hoj).1)
  simp only [hoj,hun,Bool.or_false,Bool.or_eq_true,beq_iff_eq,hji,false_or,Bool.and_eq_true] at this
  exact this.symm.imp id fun ⟨h1,h2⟩=>⟨h1,h2.imp id fun h=>Nat.le_of_ble_eq_true h⟩
 unfold F7 at hg
 by_cases hw:Region.wanted o (yielded ops a.tmps)=true
 ·rw [if_pos hw] at hg
  rcases hg with ⟨v,hv,hn⟩|⟨hk,_⟩
  ·obtain ⟨E',hs'⟩:=hn
   exact Jv hi (Region.noSelect_spec h1) ops.size fuel listed a w (Jj h4) hfree h2 (.inl ⟨hw,fun w' hw'=>hw'.elim (fun hb=>Nw hb a.eval (hv w (Dy.refl w))) (hv w')⟩) (h.out E' _ w hs')
  exact absurd h0 hk
 rw [if_neg hw] at hg
 obtain ⟨E',hs'⟩:=hg
 exact Jv hi (Region.noSelect_spec h1) ops.size fuel listed a w (Jj h4) hfree h2 (.inr ⟨by simpa using hw,rfl⟩) (h.out E' _ w hs')
theorem A2q (hT:C7 P T){B:Ax}{Q:Exit→Act→World→Prop}{q:Bool}{all:Array Oper}{o:Oper}{rest:List Oper}{K:List KI}{s:AS}{t e:TypeId}{x:Operand}{lo hi:Option Operand}{i j:TI}
  (hg:o.guard=none)(ho:o.op= .slice t x lo hi none)(hi':find T t=some i)(he:i.elem=some e)(hj:find T e=some j)
  {k n es:Nat}{row:Nat→List Ac}(hx:s.ev x= .own k)(hk:Bs s.own k=some (.sl n es row))(hes:es=j.size){l h:Int}(hl:bnd s lo 0=some l)(hh:bnd s hi n=some h)
  (hb:0≤l∧l≤h∧h≤n)(c:Ac)(hc:X2 n es row l h c)
  (hgo:GW P B Q (.ops q all rest::K) (({s with own:=⟨s.next,c⟩::Bk [k] s.own,next:=s.next+1}:AS).put o.dst (.own s.next))):GW P B Q (.ops q all (o::rest)::K) s:=by
 subst hes
 refine ⟨Dw hg (fun E a w hs=>?_)⟩
 have hd:=hs.ev x
 rw [hx] at hd
 have hm:=C2 hk
 obtain ⟨hklt,o2,o3⟩:=hs.own _ hm
 simp only at o2 o3 hklt
 have h1:=Lr hs hl
 have h2:=Lr hs hh
 have hv:a.eval x=E.ov k:=by
  generalize a.eval x=v at hd
  cases hd with
  |own _=>rfl
 have key:∃ad cap fp',E.ov k= .slice ad n cap∧n≤cap∧C5 w c (sliced ad l.toNat h.toNat cap j.size) fp'∧fp'.Nodup∧∀b∈fp',b∈E.fp k:=by
  obtain ⟨row',rfl,hrow⟩:=hc
  generalize E.ov k=u,E.fp k=fp at o2 o3 ⊢
  obtain ⟨p,rfl⟩:∃p:Nat,l=p:=⟨l.toNat,by omega⟩
  obtain ⟨q,rfl⟩:∃q:Nat,h=q:=⟨h.toNat,by omega⟩
  have e:((q:Int)-p).toNat=q-p:=by omega
  simp only [Int.toNat_natCast] at hrow ⊢
  rw [e] at hrow ⊢
  cases o2 with
  |nil=>
   have e1:p=0:=by omega
   have e2:q=0:=by omega
   subst e1;subst e2
   exact ⟨none,0,[],rfl,Nat.le_refl _,.nil _ _,by simp,by simp⟩
  |emp _ _ b0 o0=>
   have e1:p=0:=by omega
   have e2:q=0:=by omega
   subst e1;subst e2
   exact ⟨_,0,[],rfl,Nat.le_refl _,.emp _ _ _ _,by simp,by simp⟩
  |sl _ _ _ b offb cap ty cells fps hn hcp hbk hcs hl' hr=>
   obtain ⟨f1,f2⟩:=List.nodup_cons.1 o3
   obtain ⟨f3,f4⟩:=C3.1 f2
   have hpq:p≤q:=by omega
   have hqn:q≤n:=by omega
   refine ⟨some ⟨b,offb * j.size,none⟩,cap,?_⟩
   by_cases hcl:cap=p
   ·refine ⟨[],rfl,hn,?_,by simp,by simp⟩
    have e1:q-p=0:=by omega
    unfold sliced
    rw [if_pos hcl,e1,show cap-p=0 by omega]
    exact .emp _ _ _ _
   have ea:(some (⟨b,offb * j.size,none⟩:Addr)).map (·.add (p * j.size))=some ⟨b,(offb+p) * j.size,none⟩:=by
    simp only [Option.map_some,Gi,Nat.add_mul]
   refine ⟨b::(List.range ((q-p) * j.size)).flatMap (fun i=>fps (p * j.size+i)),rfl,hn,?_,?_,?_⟩
   ·unfold sliced
    rw [if_neg hcl,ea]
    refine .sl (q-p) j.size row' b (offb+p) (cap-p) ty cells (fun i=>fps (p * j.size+i)) Ab Ab hbk (by rw [show offb+p+(cap-p)=offb+cap by omega];exact hcs) (fun i hi=>by rw [hrow i hi];exact hl' _ Ab) (fun i m c hi hm=>?_)
    rw [hrow i hi] at hm
    have:=hr (p+i) m c Ab hm
    rw [show (p+i) * j.size+m=p * j.size+(i * j.size+m) by rw [Nat.add_mul];omega,show offb+(p+i)=offb+p+i by omega] at this
    exact this
   ·have hin:∀i,i<(q-p) * j.size→p * j.size+i<n * j.size:=fun i hi=>by
     have h1:(q-p) * j.size≤(n-p) * j.size:=Nat.mul_le_mul_right _ Ab
     have h2:p * j.size+(n-p) * j.size=n * j.size:=by rw [←Nat.add_mul];congr 1;omega
     omega
    refine List.nodup_cons.2 ⟨fun hm=>?_,C3.2 ⟨fun i hi=>f3 _ (List.mem_range.2 (hin i (List.mem_range.1 hi))),?_⟩⟩
    ·obtain ⟨i,hi,hm⟩:=List.mem_flatMap.1 hm
     exact f1 (Dc (hin i (List.mem_range.1 hi)) hm)
    refine List.pairwise_iff_getElem.2 (fun i m hi hm him z hz hz'=>?_)
    simp only [List.length_range] at hi hm
    simp only [List.getElem_range] at hz hz'
    have hp:=List.pairwise_iff_getElem.1 f4 (p * j.size+i) (p * j.size+m) (by simpa using hin i hi) (by simpa using hin m hm) Ab z
    simp only [List.getElem_range] at hp
    exact hp hz hz'
   intro z hz
   rcases List.mem_cons.1 hz with rfl|hz
   ·simp
   obtain ⟨i,hi,hz⟩:=List.mem_flatMap.1 hz
   refine List.mem_cons_of_mem _ (Dc ?_ hz)
   have h1:(q-p) * j.size≤(n-p) * j.size:=Nat.mul_le_mul_right _ Ab
   have h2:p * j.size+(n-p) * j.size=n * j.size:=by rw [←Nat.add_mul];congr 1;omega
   have:=List.mem_range.1 hi
   omega
 obtain ⟨ad,cap,fp',hov,hcap,hrep,hnd,hsub⟩:=key
 have hI:=hs.drop [k]
 obtain ⟨k1,k2⟩:=hI.addOwn hrep hnd (fun z hz=>by
  have hzk:=hsub z hz
  have hav:s.avoid E z:= .inr ⟨_,hm,hzk⟩
  refine ⟨hav,?_,hs.fresh z hav⟩
  rintro (⟨r,hr',rfl⟩|⟨r,hr',hz'⟩)
  ·exact hs.sepB r hr' _ hm hzk
  obtain ⟨q1,q2⟩:=C4.1 hr'
  exact hs.sep _ hm r q1 (fun e=>q2 (by simp at e;simp [e])) z hzk hz')
 refine ⟨_,fun w' _=>?_,hgo.out _ _ w ((k1.put o.dst k2).is)⟩
 have hrun:=Td (a:=ad) (hT t i hi') he (hT e j hj) h1 h2 hb.1 hb.2.1 hb.2.2 hcap w'
 obtain ⟨dst,op',ty,pos,after,guard⟩:=o
 simp only at ho
 subst ho
 simp [execOp,hv,hov,hrun]
end Go.Sx
set_option maxRecDepth 100000
namespace Go.Sx
open Go
open Go.RowKit (Below)
variable {P : Program} {T : List (TypeId × TI)}
def F2 (n:Nat) (row:Nat→List Ac):List AV:=(List.range n).flatMap fun i=>(row i).map AV.c
theorem Ir {n es:Nat}{row:Nat→List Ac}(hl:∀i,i<n→(row i).length=es):(F2 n row).length=n * es:=by
 unfold F2
 induction n with
 |zero=>simp
 |succ n ih=>
  rw [List.range_succ,List.flatMap_append,List.length_append,ih (fun i hi=>hl i Ab)]
  simp [hl n (Nat.lt_succ_self n),Nat.succ_mul]
theorem Pk {n es:Nat}{row:Nat→List Ac}(hl:∀i,i<n→(row i).length=es){i j:Nat}(hi:i<n)(hj:j<es):(F2 n row)[i * es+j]? =((row i)[j]?).map AV.c:=by
 unfold F2
 induction n with
 |zero=>omega
 |succ n ih=>
  have hlen:=Ir (n:=n) (row:=row) (es:=es) (fun i hi=>hl i Ab)
  unfold F2 at hlen
  rw [List.range_succ,List.flatMap_append]
  by_cases h:i<n
  ·have:=Et h hj
   rw [List.getElem?_append_left Ab]
   exact ih (fun i hi=>hl i Ab) h
  obtain rfl:i=n:=by omega
  rw [List.getElem?_append_right Ab,hlen]
  simp
theorem Nl {n es:Nat}{row:Nat→List Ac}(hl:∀i,i<n→(row i).length=es){m:Nat}{x:AV}(h:(F2 n row)[m]? =some x):∃i j c,i<n∧j<es∧m=i * es+j∧(row i)[j]? =some c∧x= .c c:=by
 have hm:m<n * es:=by rw [←Ir hl];exact (List.getElem?_eq_some_iff.1 h).1
 have he:0<es:=Nat.pos_of_ne_zero (fun e=>by subst e;simp at hm)
 have hi:m / es<n:=Nat.div_lt_of_lt_mul (by rw [Nat.mul_comm];exact hm)
 have hj:m % es<es:=Nat.mod_lt _ he
 have hmm:m / es * es+m % es=m:=by rw [Nat.mul_comm];exact Nat.div_add_mod m es
 rw [←hmm,Pk hl hi hj] at h
 rw [Option.map_eq_some_iff] at h
 obtain ⟨c,hc,rfl⟩:=h
 exact ⟨m / es,m % es,c,hi,hj,hmm.symm,hc,rfl⟩
def Mv (b:Nat):Value:= .pointer (some ⟨b,0,none⟩)
def M8 (b o n cap:Nat):Value:= .slice (some ⟨b,o,none⟩) n cap
theorem B4m {B:Ax}{Q:Exit→Act→World→Prop}{K:List KI}{s:AS}(k:Nat){n es:Nat}{row:Nat→List Ac}(hk:Bs s.own k=some (.sl n es row))(hn:0<n)(hf:E4 n row)
  (h:∀(b off cap:Nat) (pre Ct:List AV),pre.length=off * es→n≤cap→cap≤maxLen→(cap-n) * es≤Ct.length→
   GW P B Q K {s with own:=Bk [k] s.own,next:=s.next+1,boxes:=⟨s.next,pre++F2 n row++Ct⟩::s.boxes,links:=(s.next,Mv b)::(k,M8 b (off * es) n cap)::s.links}):GW P B Q K s:=by
 refine ⟨fun E a w hs=>?_⟩
 have hm:=C2 hk
 obtain ⟨hklt,o2,o3⟩:=hs.own _ hm
 simp only at o2 o3 hklt
 generalize hov:E.ov k=ovk,hfp:E.fp k=fp at o2 o3
 cases o2 with
 |nil=>omega
 |emp=>omega
 |sl _ _ _ b off cap ty cells fps hnc hcp hb hcs hl hr=>
  have hI:=hs.drop [k]
  have kE:=Cv.with_keep E s.next b
  have hbk:s.avoid E b:= .inr ⟨_,hm,by rw [hfp];simp⟩
  have nav:¬ ({s with own:=Bk [k] s.own}:AS).avoid E b:=by
   rintro (⟨r,hr',he⟩|⟨r,hr',hz'⟩)
   ·exact hs.sepB r hr' _ hm (by rw [he,hfp];simp)
   obtain ⟨q1,q2⟩:=C4.1 hr'
   exact hs.sep _ hm r q1 (fun e=>q2 (by simp at e;simp [e])) b (by rw [hfp];simp) hz'
  let s1:AS:= {s with own:=Bk [k] s.own,next:=s.next+1,links:=(s.next,Mv b)::(k,M8 b (off * es) n cap)::s.links}
  have hA1:s1.isA B (E.with s.next b) (s.avoid E) a w:=by
   have mv:∀x v,Cm E w (s.avoid E) s.next x v→Cm (E.with s.next b) w (s.avoid E) (s.next+1) x v:=fun x v hx=>hx.move (Nat.le_succ _) kE (fun _ _ _=>rfl) (fun _ _ h=>h)
   have kb:∀x∈s.boxes,(E.with s.next b).β x.key=E.β x.key:=fun x hx=>(kE _ (hs.boxes x hx).1).1
   have av:∀c,s1.avoid (E.with s.next b) c→({s with own:=Bk [k] s.own}:AS).avoid E c:=by
    rintro c (⟨x,hx,hc⟩|hc)
    ·exact .inl ⟨x,hx,by rw [←kb x hx];exact hc⟩
    exact .inr hc
   refine ⟨hs.defers,fun p hp=>?_,hs.size,fun i x hx=>mv _ _ (hs.slots i x hx),fun x hx=>?_,fun x hx y hy e=>hs.boxes2 x hx y hy (by rw [←kb x hx,←kb y hy];exact e),hs.keys,fun y hy=>?_,hI.ownkeys,hI.sep,fun x hx y hy=>?_,fun j hj=>?_,hs.base,fun c hc=>hI.fresh c (av c hc),fun c hc=>hI.sub c (av c hc)⟩
   ·rcases List.mem_cons.1 hp with rfl|hp
    ·exact ⟨Nat.lt_succ_self _,by simp [Cv.with,Mv]⟩
    rcases List.mem_cons.1 hp with rfl|hp
    ·exact ⟨Nat.lt_succ_of_lt hklt,by rw [(kE _ hklt).2,hov];rfl⟩
    exact ⟨Nat.lt_succ_of_lt (hs.links p hp).1,by rw [(kE _ (hs.links p hp).1).2];exact (hs.links p hp).2⟩
   ·obtain ⟨g1,ws,ty',g2,g3,g4⟩:=hs.boxes x hx
    exact ⟨Nat.lt_succ_of_lt g1,ws,ty',by rw [kb x hx];exact g2,g3,fun i y hy=>mv _ _ (g4 i y hy)⟩
   ·obtain ⟨g1,g2,g3⟩:=hI.own y hy
    exact ⟨Nat.lt_succ_of_lt g1,by rw [(kE _ g1).2];exact g2,g3⟩
   ·rw [kb x hx];exact hI.sepB x hx y hy
   by_cases e:j=s.next
   ·subst e;simp [Cv.with,Value.oneCell']
   have hj':j<s.next:=by have:j<s.next+1:=hj;omega
   rw [(kE _ hj').2];exact hs.one j hj'
  have nav1:¬ s1.avoid (E.with s.next b) b:=by
   intro hc
   refine nav ?_
   rcases hc with ⟨x,hx,hc⟩|hc
   ·exact .inl ⟨x,hx,by rw [←(kE _ (hs.boxes x hx).1).1];exact hc⟩
   exact .inr hc
  let pre:List AV:=List.replicate (off * es) .any
  let Ct:List AV:=List.replicate (cells.size-(off+n) * es) .any
  have hle:(off+n) * es≤cells.size:=Nat.le_trans (Nat.mul_le_mul_right _ Ab) hcs
  have hll:=Ir hl
  have hlen:(pre++F2 n row++Ct).length=cells.size:=by
   simp only [pre,Ct,List.length_append,List.length_replicate,hll,Nat.add_mul] at hle ⊢
   omega
  have hB1:=hA1.addBox (k:=s.next) (Nat.lt_succ_self _) (fun x hx e=>by have:=(hs.boxes x hx).1;omega) (cells:=pre++F2 n row++Ct) (vs:=cells) (ty:=ty) (by rw [Cv.with_self];exact hb) hlen.symm
   (fun i y hy=>by
    by_cases h1:i<off * es
    ·rw [List.append_assoc,List.getElem?_append_left (by simpa [pre] using h1)] at hy
     have:y= .any:=by simp [pre,List.getElem?_replicate,h1] at hy;exact hy.symm
     rw [this];exact .any _
    rw [List.append_assoc,List.getElem?_append_right (by simpa [pre] using Nat.le_of_not_lt h1)] at hy
    simp only [pre,List.length_replicate] at hy
    by_cases h2:i-off * es<n * es
    ·rw [List.getElem?_append_left (by rw [hll];exact h2)] at hy
     obtain ⟨i',j',c,hi',hj',hm',hc,rfl⟩:=Nl hl hy
     have:=hr i' j' c hi' hc
     obtain ⟨x,rfl⟩:=hf i' hi' c (List.mem_of_getElem? hc)
     rw [show (off+i') * es+j'=i by rw [Nat.add_mul];omega] at this
     generalize cells.getD i undef=u,fps (i' * es+j')=g at this
     cases this with
     |val _ h1=>exact .c (.val _ h1)
    rw [List.getElem?_append_right (by rw [hll];omega)] at hy
    have:y= .any:=by
     have:=List.mem_of_getElem? hy
     exact List.eq_of_mem_replicate this
    rw [this];exact .any _)
   (by rw [Cv.with_self];exact nav1) (by rw [Cv.with_self];exact hbk) (by rw [Cv.with_self];exact hs.fresh b hbk)
  exact (h b off cap pre Ct (by simp [pre]) hnc hcp (by
   simp only [Ct,List.length_replicate]
   have:(off+cap) * es=(off+n) * es+(cap-n) * es:=by rw [←Nat.add_mul];congr 1;omega
   omega)).out _ a w hB1.is
theorem Qo {B:Ax}{Q:Exit→Act→World→Prop}{K:List KI}{s:AS}(i k:Nat){v:Value}(hl:Dl s.links k=some v)(hi:Gh s.slots i= .own k)(h:GW P B Q K {s with slots:=Ce s.slots i (.c (.val v))}):GW P B Q K s:=by
 refine ⟨fun E a w hs=>h.rec fun g=>g E a w ⟨hs.defers,hs.links,by rw [hs.size];exact (Ca _ _ _).symm,fun m z hz=>?_,hs.boxes,hs.boxes2,hs.keys,hs.own,hs.ownkeys,hs.sep,hs.sepB,hs.one,hs.base,hs.fresh⟩⟩
 simp only at hz
 rw [D8] at hz
 split at hz
 ·rename_i hm
  obtain ⟨rfl,hm⟩:=hm
  obtain rfl:=Option.some.inj hz
  have hd:=hs.slots i (.own k) (by rw [Cl,List.getElem?_eq_getElem hm] at hi;rw [List.getElem?_eq_getElem hm];simpa using hi)
  obtain ⟨h1,h2⟩:=hs.links _ (Es hl)
  have h2:E.ov k=v:=h2
  have h1':k<s.next:=h1
  generalize a.tmps.getD i undef=u at hd
  cases hd with
  |own _=>rw [h2];exact .c (.val _ (by rw [←h2];exact hs.one k h1'))
 exact hs.slots m z hz
theorem B61 {B:Ax}{Q:Exit→Act→World→Prop}{K:List KI}{s:AS}(i kb:Nat){bx:Bx}{b off n es cap:Nat}(row:Nat→List Ac)(pre Ct:List AV)(hb:Ew s.boxes kb=some bx)(hc:bx.cells=pre++F2 n row++Ct)(hpre:pre.length=off * es)
  (hrow:∀i,i<n→(row i).length=es)(hf:E4 n row)(hn:n≤cap)(hcap:cap≤maxLen)(hpost:(cap-n) * es≤Ct.length)(hl:Dl s.links kb=some (Mv b))(hi:Gh s.slots i= .c (.val (M8 b (off * es) n cap)))
  (h:GW P B Q K {s with boxes:=Ni kb s.boxes,own:=⟨s.next,.sl n es row⟩::s.own,next:=s.next+1,slots:=Ce s.slots i (.own s.next)}):GW P B Q K s:=by
 refine ⟨fun E a w hs=>?_⟩
 obtain ⟨hm,rfl⟩:=E7 hb
 obtain ⟨h1,vs,ty,h2,h3,h4⟩:=hs.boxes bx hm
 obtain ⟨hlk,hov⟩:=hs.links _ (Es hl)
 have hov:E.ov bx.key=Mv b:=hov
 have hβ:E.β bx.key=b:=by unfold Cv.β;rw [hov];rfl
 rw [hβ] at h2
 have hI:=hs.dropP bx.key []
 have hrem:Bk [] s.own=s.own:=O1 _
 have hav:s.avoid E b:= .inl ⟨bx,hm,hβ⟩
 have nav:¬ (Sx.dropP bx.key [] s).avoid E b:=by
  rintro (⟨x,hx,hc'⟩|⟨y,hy,hc'⟩)
  ·obtain ⟨q1,q2⟩:=Ih.1 hx
   exact q2 (hs.boxes2 x q1 bx hm (by rw [hβ];exact hc'))
  exact hs.sepB bx hm y (C4.1 hy).1 (by rw [hβ];exact hc')
 have hll:=Ir hrow
 have hsz:(off+cap) * es≤vs.size:=by
  rw [h3,hc]
  simp only [List.length_append,hpre,hll,Nat.add_mul]
  have:(cap-n) * es+n * es=cap * es:=by rw [←Nat.add_mul];congr 1;omega
  omega
 have hown:C5 w (.sl n es row) (M8 b (off * es) n cap) (b::(List.range (n * es)).flatMap fun _=>[]):=by
  refine .sl n es row b off cap ty vs (fun _=>[]) hn hcap h2 hsz hrow (fun i j c hi hj=>?_)
  have hjl:j<es:=by rw [←hrow i hi];exact (List.getElem?_eq_some_iff.1 hj).1
  have:=h4 ((off+i) * es+j) (.c c) (by
   rw [hc,List.append_assoc,List.getElem?_append_right (by rw [hpre,Nat.add_mul];omega),hpre,show (off+i) * es+j-off * es=i * es+j by rw [Nat.add_mul];omega,List.getElem?_append_left (by rw [hll];exact Et hi hjl),Pk hrow hi hjl,hj]
   rfl)
  obtain ⟨x,rfl⟩:=hf i hi c (List.mem_of_getElem? hj)
  generalize vs.getD ((off+i) * es+j) undef=u at this
  cases this with
  |c hr=>cases hr with
   |val _ h1=>exact .val _ h1
 have hfl:(List.range (n * es)).flatMap (fun _=>([]:List Nat))=[]:=H7 _
 rw [hfl] at hown
 obtain ⟨k1,k2⟩:=hI.addOwn hown Bw (fun z hz=>by
  rw [List.mem_singleton.1 hz]
  exact ⟨hav,nav,hs.fresh b hav⟩)
 have hs3:({s with boxes:=Ni bx.key s.boxes,own:=⟨s.next,.sl n es row⟩::s.own,next:=s.next+1}:AS)=(Sx.dropP bx.key [] s).addOwn (.sl n es row):=by simp [AS.addOwn,Sx.dropP,hrem]
 have k3:({s with boxes:=Ni bx.key s.boxes,own:=⟨s.next,.sl n es row⟩::s.own,next:=s.next+1}:AS).is B (E.withOwn s.next (M8 b (off * es) n cap) [b]) a w:=by rw [hs3];exact k1.is
 have hsub:∀z,({s with boxes:=Ni bx.key s.boxes,own:=⟨s.next,.sl n es row⟩::s.own,next:=s.next+1}:AS).avoid (E.withOwn s.next (M8 b (off * es) n cap) [b]) z→s.avoid E z:=by rw [hs3];exact k1.sub
 refine h.out (E.withOwn s.next (M8 b (off * es) n cap) [b]) a w ⟨k3.defers,k3.links,by rw [k3.size];exact (Ca _ _ _).symm,fun m z hz=>?_,k3.boxes,k3.boxes2,k3.keys,k3.own,k3.ownkeys,k3.sep,k3.sepB,k3.one,k3.base,k3.fresh⟩
 simp only at hz
 rw [D8] at hz
 split at hz
 ·rename_i hm2
  obtain ⟨rfl,hm2⟩:=hm2
  obtain rfl:=Option.some.inj hz
  have hd:=hs.slots i (.c (.val (M8 b (off * es) n cap))) (by rw [Cl,List.getElem?_eq_getElem hm2] at hi;rw [List.getElem?_eq_getElem hm2];simpa using hi)
  rw [Bc hd]
  have:Cm (E.withOwn s.next (M8 b (off * es) n cap) [b]) w _ _ (.own s.next) (M8 b (off * es) n cap):=k2
  exact this.move (Nat.le_refl _) (fun _ _=>⟨rfl,rfl⟩) (fun _ _ _=>rfl) (fun b _ hb=>hsub b hb)
 exact k3.slots m z hz
theorem M9 (hT:C7 P T){B:Ax}{Q:Exit→Act→World→Prop}{q:Bool}{all:Array Oper}{o:Oper}{rest:List Oper}{K:List KI}{s:AS}{t e:TypeId}{x:Operand}{lo hi:Option Operand}{i j:TI}
  (hg:o.guard=none)(ho:o.op= .slice t x lo hi none)(hi':find T t=some i)(he:i.elem=some e)(hj:find T e=some j)
  {b ad n cap:Nat}(hx:s.ev x= .c (.val (M8 b ad n cap))){l h:Int}(hl:bnd s lo 0=some l)(hh:bnd s hi n=some h)(hb:0≤l∧l≤h∧h≤cap∧(hi=none→h≤n)∧l<cap)
  (ad' n' c':Nat)(q1:ad'=ad+l.toNat * j.size)(q2:n'=h.toNat-l.toNat)(q3:c'=cap-l.toNat)(hgo:GW P B Q (.ops q all rest::K) (s.put o.dst (.c (.val (M8 b ad' n' c'))))):GW P B Q (.ops q all (o::rest)::K) s:=by
 subst q1 q2 q3
 refine ⟨Dw hg (fun E a w hs=>?_)⟩
 have hd:=hs.ev x
 rw [hx] at hd
 have hv:=Bc hd
 have h1:=Lr hs hl
 have h2:=Lr hs hh
 have hu:=Ch (hT t i hi') he
 have hel:P.elem t=e:=by simp [Program.elem,hu]
 have hu':P.underlying t=some (.slice (P.elem t)):=by rw [hel];exact hu
 have hz:∀w,(sizeOf (P.elem t)).run P w= .ok j.size w:=fun w=>by rw [hel];exact Bq (hT e j hj) w
 have hval:sliced (some ⟨b,ad,none⟩) l.toNat h.toNat cap j.size=M8 b (ad+l.toNat * j.size) (h.toNat-l.toNat) (cap-l.toNat):=by
  unfold sliced M8
  rw [if_neg Ab]
  simp only [Option.map_some,Gi]
 refine ⟨_,fun w' _=>?_,hgo.out E _ w (hs.put o.dst (.c (.val _ rfl)))⟩
 have hrun:(Instr.sliceAt t (M8 b ad n cap) (lo.map a.eval) (hi.map a.eval) none).run P w'= .ok (M8 b (ad+l.toNat * j.size) (h.toNat-l.toNat) (cap-l.toNat)) w':=by
  rw [←hval,run_sliceAt_slice w' t _ _ _ _ hu']
  unfold M8
  rcases h1 with ⟨e1,rfl⟩|⟨k1,e1⟩<;>rcases h2 with ⟨e2,rfl⟩|⟨k2,e2⟩<;>rw [e1,e2]
  ·rw [run_slice_all w' t _ n cap hu',hz];simp [Result.andThen]
  ·rw [run_slice_h w' t _ n cap hu' k2 h Ab Ab,hz];simp [Result.andThen]
  ·rw [run_slice_l w' t _ n cap hu' k1 l Ab Ab,hz];simp [Result.andThen]
  rw [run_slice_lh w' t _ n cap hu' k1 k2 l h Ab Ab Ab,hz];simp [Result.andThen]
 obtain ⟨dst,op',ty,pos,after,guard⟩:=o
 simp only at ho
 subst ho
 simp [execOp,hv,hrun]
theorem B1p (hT:C7 P T){B:Ax}{Q:Exit→Act→World→Prop}{q:Bool}{all:Array Oper}{o:Oper}{rest:List Oper}{K:List KI}{s:AS}{t e:TypeId}{x:Operand}{lo:Option Operand}{i j:TI}
  (hg:o.guard=none)(ho:o.op= .slice t x lo none none)(hi':find T t=some i)(he:i.elem=some e)(hj:find T e=some j)
  {k n es:Nat}{row:Nat→List Ac}(hx:s.ev x= .own k)(hk:Bs s.own k=some (.sl n es row)){l:Int}(hl:bnd s lo 0=some l)(hb:0≤l∧l≤n)
  (hgo:GW P B Q (.ops q all rest::K) (s.put o.dst .any)):GW P B Q (.ops q all (o::rest)::K) s:=by
 refine ⟨Dw hg (fun E a w hs=>?_)⟩
 have hd:=hs.ev x
 rw [hx] at hd
 have hv:a.eval x=E.ov k:=by
  generalize a.eval x=v at hd
  cases hd with
  |own _=>rfl
 have h1:=Lr hs hl
 obtain ⟨_,o2,_⟩:=hs.own _ (C2 hk)
 have hsh:∃ad cap,E.ov k= .slice ad n cap∧n≤cap:=by
  simp only at o2
  generalize E.ov k=u,E.fp k=fp at o2
  cases o2 with
  |nil=>exact ⟨none,0,rfl,Nat.le_refl _⟩
  |emp=>exact ⟨_,0,rfl,Nat.le_refl _⟩
  |sl _ _ _ b off cap ty cells fps hn=>exact ⟨_,cap,rfl,hn⟩
 obtain ⟨ad,cap,hov,hcap⟩:=hsh
 refine ⟨sliced ad l.toNat ((n:Int)).toNat cap j.size,fun w' _=>?_,hgo.out E _ w (hs.put o.dst (.any _))⟩
 have hrun:=Td (a:=ad) (h:=n) (hT t i hi') he (hT e j hj) h1 (.inl ⟨rfl,rfl⟩) hb.1 hb.2 (Int.le_refl _) hcap w'
 obtain ⟨dst,op',ty,pos,after,guard⟩:=o
 simp only at ho
 subst ho
 simp [execOp,hv,hov,hrun]
theorem B1g {s:AS}{B:Ax}{E:Cv}{a:Act}{w:World}(hs:s.is B E a w){kb b:Nat}{bx:Bx}(hl:Dl s.links kb=some (Mv b))(hb:Ew s.boxes kb=some bx)(L1 D L2 S:List AV)(hc:bx.cells=L1++D++L2)(hD:D.length=S.length)
  (vals:List Value)(hv:vals.length=S.length)(hden:∀i y,S[i]? =some y→Cm E w (s.avoid E) s.next y (vals.getD i undef)):
  ∃ty vs,w.heap[b]? =some (.cells vs ty (0,0))∧L1.length+vals.length≤vs.size∧
   ({s with boxes:=Ea s.boxes kb (L1++S++L2)}:AS).is B E a (w.setRow b (vs.toList.take L1.length++vals++vs.toList.drop (L1.length+vals.length)).toArray):=by
 obtain ⟨hm,rfl⟩:=E7 hb
 obtain ⟨h1,vs,ty,h2,h3,h4⟩:=hs.boxes bx hm
 obtain ⟨hlk,hov⟩:=hs.links _ (Es hl)
 have hov:E.ov bx.key=Mv b:=hov
 have hβ:E.β bx.key=b:=by unfold Cv.β;rw [hov];rfl
 rw [hc] at h3 h4
 simp only [List.length_append] at h3
 refine ⟨ty,vs,by rw [←hβ];exact h2,by omega,?_⟩
 have:=hs.setBox hb (L1++S++L2) (vs.toList.take L1.length++vals++vs.toList.drop (L1.length+vals.length)).toArray (by simp;omega) (fun j y hj=>by
  rw [←Br]
  simp only [List.getD]
  have e1:(vs.toList.take L1.length).length=L1.length:=by simp;omega
  by_cases c1:j<L1.length
  ·rw [List.append_assoc,List.getElem?_append_left c1] at hj
   rw [List.append_assoc,List.getElem?_append_left Ab]
   have:=h4 j y (by rw [List.append_assoc,List.getElem?_append_left c1];exact hj)
   rw [←Br] at this
   simpa [List.getD,List.getElem?_take,c1] using this
  rw [List.append_assoc,List.getElem?_append_right Ab] at hj
  rw [List.append_assoc,List.getElem?_append_right Ab,e1]
  by_cases c2:j-L1.length<S.length
  ·rw [List.getElem?_append_left c2] at hj
   rw [List.getElem?_append_left Ab]
   have:=hden _ y hj
   simpa [List.getD] using this
  rw [List.getElem?_append_right Ab] at hj
  rw [List.getElem?_append_right Ab,List.getElem?_drop,hv]
  have:=h4 j y (by rw [List.append_assoc,List.getElem?_append_right Ab,List.getElem?_append_right Ab,hD];exact hj)
  rw [←Br] at this
  rw [show L1.length+S.length+(j-L1.length-S.length)=j by omega]
  simpa [List.getD] using this)
 rw [hβ] at this
 exact this
theorem A9z {s:AS}{B:Ax}{E:Cv}{a:Act}{w:World}(hs:s.is B E a w){kb b:Nat}{bx:Bx}(hl:Dl s.links kb=some (Mv b))(hb:Ew s.boxes kb=some bx)(M1 S M2:List AV)(hc:bx.cells=M1++S++M2)(hS:∀y∈S,∃c,y= .c c):
  ∃vals:List Value,vals.length=S.length∧(∀i y,S[i]? =some y→Cm E w (s.avoid E) s.next y (vals.getD i undef))∧(∀j v,vals[j]? =some v→w.cell? ((⟨b,M1.length,none⟩:Addr).add j)=some v)∧∀v∈vals,v.oneCell'=true:=by
 obtain ⟨hm,rfl⟩:=E7 hb
 obtain ⟨h1,vs,ty,h2,h3,h4⟩:=hs.boxes bx hm
 obtain ⟨hlk,hov⟩:=hs.links _ (Es hl)
 have hov:E.ov bx.key=Mv b:=hov
 have hβ:E.β bx.key=b:=by unfold Cv.β;rw [hov];rfl
 rw [hβ] at h2
 rw [hc] at h3 h4
 simp only [List.length_append] at h3
 have hD:∀i y,S[i]? =some y→Cm E w (s.avoid E) s.next y (vs.getD (M1.length+i) undef):=fun i y hy=>by
  have hi:i<S.length:=(List.getElem?_eq_some_iff.1 hy).1
  refine h4 (M1.length+i) y ?_
  rw [List.append_assoc,List.getElem?_append_right Ab,show M1.length+i-M1.length=i by omega,List.getElem?_append_left hi]
  exact hy
 refine ⟨(List.range S.length).map fun i=>vs.getD (M1.length+i) undef,by simp,fun i y hy=>?_,fun j v hj=>?_,fun v hv=>?_⟩
 ·have hi:i<S.length:=(List.getElem?_eq_some_iff.1 hy).1
  have:=hD i y hy
  simpa [List.getD,hi] using this
 ·rw [Gi,cell_of_row w b _ vs ty (0,0) h2]
  simp only [List.getElem?_map,Option.map_eq_some_iff] at hj
  obtain ⟨i,hi,rfl⟩:=hj
  obtain ⟨hij,rfl⟩:=List.getElem?_eq_some_iff.1 hi
  simp only [List.length_range] at hij
  simp only [List.getElem_range]
  have:M1.length+j<vs.size:=by omega
  simp [Array.getD,this]
 simp only [List.mem_map,List.mem_range] at hv
 obtain ⟨i,hi,rfl⟩:=hv
 have hy:=List.getElem?_eq_getElem hi
 have:=hD i _ hy
 obtain ⟨c,hc'⟩:=hS _ (List.getElem_mem hi)
 rw [hc'] at this
 generalize vs.getD (M1.length+i) undef=u at this
 cases this with
 |c hr=>exact hr.one
theorem A9a (hT:C7 P T){B:Ax}{Q:Exit→Act→World→Prop}{q:Bool}{all:Array Oper}{o:Oper}{rest:List Oper}{K:List KI}{s:AS}{t t' e:TypeId}{x y:Operand}{i j:TI}
  (hg:o.guard=none)(ho:o.op= .call {callee:= .builtin .copy,args:= #[x,y],argTypes:= #[t,t']})(hi:find T t=some i)(he:i.elem=some e)(hj:find T e=some j)
  {b o1 n1 c1 kb:Nat}{bx:Bx}(hx:s.ev x= .c (.val (M8 b o1 n1 c1)))(hl:Dl s.links kb=some (Mv b))(hb:Ew s.boxes kb=some bx)
  {b2 o2 n2 c2 kb2:Nat}{bx2:Bx}(hy:s.ev y= .c (.val (M8 b2 o2 n2 c2)))(hl2:Dl s.links kb2=some (Mv b2))(hb2:Ew s.boxes kb2=some bx2)
  (L1 D L2 M1 S M2:List AV)(hc:bx.cells=L1++D++L2)(h1:L1.length=o1)(hD:D.length=S.length)(hc2:bx2.cells=M1++S++M2)(h2:M1.length=o2)(hS:S.length=Nat.min n2 n1 * j.size)(hSc:∀y∈S,∃c,y= .c c)
  (h:GW P B Q (.ops q all rest::K) (({s with boxes:=Ea s.boxes kb (L1++S++L2)}:AS).put o.dst .any)):GW P B Q (.ops q all (o::rest)::K) s:=by
 refine ⟨Gj hg (by rw [ho];simp [Dj]) (fun E a w hs=>?_)⟩
 have e1:=Bc (show Cm E w (s.avoid E) s.next (.v (M8 b o1 n1 c1)) (a.eval x) by have:=hs.ev x;rwa [hx] at this)
 have e2:=Bc (show Cm E w (s.avoid E) s.next (.v (M8 b2 o2 n2 c2)) (a.eval y) by have:=hs.ev y;rwa [hy] at this)
 obtain ⟨vals,g1,g2,g3,g4⟩:=A9z hs hl2 hb2 M1 S M2 hc2 hSc
 obtain ⟨ty,vs,k1,k2,k3⟩:=B1g hs hl hb L1 D L2 S hc hD vals g1 g2
 have hu:=Ch (hT t i hi) he
 have hld:=run_loadCells_list (P:=P) w ⟨b2,M1.length,none⟩ vals g3
 have hst:=run_storeCells_at P b L1.length ty vals 0 vs w k1 Ab g4
 simp only [Nat.add_zero] at hst
 refine ⟨goInt (Nat.min n2 n1),_,.inl ?_,fun hk=>(by rw [ho] at hk;simp [Dj] at hk),h.out E _ _ (k3.put o.dst (.any _))⟩
 obtain ⟨dst,op',ty',pos,after,guard⟩:=o
 simp only at ho
 subst ho
 rw [g1,hS] at hld
 subst h1
 subst h2
 simp [execOp,resolve,invoke,builtin,e1,e2,M8,Builtin.copy_,run_underlying hu,Bq (hT e j hj),Builtin.lenOf,Builtin.firstCells,hld,hst]
theorem B26 {s:AS}{B:Ax}{E:Cv}{a:Act}{w:World}(hs:s.is B E a w){k n es:Nat}{row:Nat→List Ac}(hk:Bs s.own k=some (.sl n es row))(hf:E4 n row)(hn:0<n):
  ∃(b o cap:Nat) (vals:List Value),E.ov k=M8 b o n cap∧vals.length=n * es∧(∀i y,(F2 n row)[i]? =some y→Cm E w (s.avoid E) s.next y (vals.getD i undef))∧(∀j v,vals[j]? =some v→w.cell? ((⟨b,o,none⟩:Addr).add j)=some v)∧(∀v∈vals,v.oneCell'=true)∧(F2 n row).length=n * es:=by
 obtain ⟨_,o2,_⟩:=hs.own _ (C2 hk)
 simp only at o2
 generalize E.ov k=u,E.fp k=fp at o2
 cases o2 with
 |nil=>omega
 |emp=>omega
 |sl _ _ _ b off cap ty cells fps hnc hcp hb hcs hl hr=>
  have hll:=Ir hl
  have hle:(off+n) * es≤cells.size:=Nat.le_trans (Nat.mul_le_mul_right _ Ab) hcs
  have hD:∀i y,(F2 n row)[i]? =some y→Cm E w (s.avoid E) s.next y (cells.getD (off * es+i) undef)∧(cells.getD (off * es+i) undef).oneCell'=true:=fun i y hy=>by
   obtain ⟨i',j',c,hi',hj',rfl,hc,rfl⟩:=Nl hl hy
   have:=hr i' j' c hi' hc
   obtain ⟨x,rfl⟩:=hf i' hi' c (List.mem_of_getElem? hc)
   rw [show (off+i') * es+j'=off * es+(i' * es+j') by rw [Nat.add_mul];omega] at this
   generalize cells.getD (off * es+(i' * es+j')) undef=u,fps (i' * es+j')=g at this
   cases this with
   |val _ h1=>exact ⟨.c (.val _ h1),h1⟩
  refine ⟨b,off * es,cap,(List.range (n * es)).map fun i=>cells.getD (off * es+i) undef,rfl,by simp,fun i y hy=>?_,fun j v hj=>?_,fun v hv=>?_,hll⟩
  ·have hi:i<n * es:=by rw [←hll];exact (List.getElem?_eq_some_iff.1 hy).1
   have:=(hD i y hy).1
   simpa [List.getD,hi] using this
  ·rw [Gi,cell_of_row w b _ cells ty (0,0) hb]
   simp only [List.getElem?_map,Option.map_eq_some_iff] at hj
   obtain ⟨i,hi,rfl⟩:=hj
   obtain ⟨hij,rfl⟩:=List.getElem?_eq_some_iff.1 hi
   simp only [List.length_range] at hij
   simp only [List.getElem_range]
   have:off * es+j<cells.size:=by rw [Nat.add_mul] at hle;omega
   simp [Array.getD,this]
  simp only [List.mem_map,List.mem_range] at hv
  obtain ⟨i,hi,rfl⟩:=hv
  exact (hD i _ (List.getElem?_eq_getElem (by rw [hll];exact hi))).2
theorem A89 (hT:C7 P T){B:Ax}{Q:Exit→Act→World→Prop}{q:Bool}{all:Array Oper}{o:Oper}{rest:List Oper}{K:List KI}{s:AS}{t t' e:TypeId}{x y:Operand}{i j:TI}
  (hg:o.guard=none)(ho:o.op= .call {callee:= .builtin .copy,args:= #[x,y],argTypes:= #[t,t']})(hi:find T t=some i)(he:i.elem=some e)(hj:find T e=some j)
  {b o1 n1 c1 kb:Nat}{bx:Bx}(hx:s.ev x= .c (.val (M8 b o1 n1 c1)))(hl:Dl s.links kb=some (Mv b))(hb:Ew s.boxes kb=some bx)
  {k n es:Nat}{row:Nat→List Ac}(hy:s.ev y= .own k)(hk:Bs s.own k=some (.sl n es row))(hf:E4 n row)(hn:0<n)(hes:es=j.size)(hle:n≤n1)
  (L1 D L2:List AV)(hc:bx.cells=L1++D++L2)(h1:L1.length=o1)(hD:D.length=n * es)
  (h:GW P B Q (.ops q all rest::K) (({s with boxes:=Ea s.boxes kb (L1++F2 n row++L2)}:AS).put o.dst .any)):GW P B Q (.ops q all (o::rest)::K) s:=by
 refine ⟨Gj hg (by rw [ho];simp [Dj]) (fun E a w hs=>?_)⟩
 have e1:=Bc (show Cm E w (s.avoid E) s.next (.v (M8 b o1 n1 c1)) (a.eval x) by have:=hs.ev x;rwa [hx] at this)
 have e2:a.eval y=E.ov k:=by
  have:=hs.ev y
  rw [hy] at this
  generalize a.eval y=v at this
  cases this with
  |own _=>rfl
 obtain ⟨b2,o2,c2,vals,g0,g1,g2,g3,g4,g5⟩:=B26 hs hk hf hn
 obtain ⟨ty,vs,k1,k2,k3⟩:=B1g hs hl hb L1 D L2 (F2 n row) hc (by rw [hD,g5]) vals (by rw [g1,g5]) g2
 have hu:=Ch (hT t i hi) he
 have hld:=run_loadCells_list (P:=P) w ⟨b2,o2,none⟩ vals g3
 have hst:=run_storeCells_at P b L1.length ty vals 0 vs w k1 Ab g4
 simp only [Nat.add_zero] at hst
 refine ⟨goInt n,_,.inl ?_,fun hk=>(by rw [ho] at hk;simp [Dj] at hk),h.out E _ _ (k3.put o.dst (.any _))⟩
 obtain ⟨dst,op',ty',pos,after,guard⟩:=o
 simp only at ho
 subst ho
 have hmin:Nat.min n n1=n:=Nat.min_eq_left hle
 rw [g1,hes] at hld
 subst h1
 rw [g0] at e2
 simp [execOp,resolve,invoke,builtin,e1,e2,M8,Builtin.copy_,run_underlying hu,Bq (hT e j hj),Builtin.lenOf,Builtin.firstCells,hmin,hld,hst]
theorem B7h (hT:C7 P T){B:Ax}{Q:Exit→Act→World→Prop}{q:Bool}{all:Array Oper}{o:Oper}{rest:List Oper}{K:List KI}{s:AS}{t e:TypeId}{x:Operand}{i:TI}
  (hg:o.guard=none)(ho:o.op= .call {callee:= .builtin .cap,args:= #[x],argTypes:= #[t]})(hi:find T t=some i)(he:i.elem=some e)
  {b o1 n1 c1:Nat}(hx:s.ev x= .c (.val (M8 b o1 n1 c1)))(h:GW P B Q (.ops q all rest::K) (s.put o.dst (.c (.val (.int .i64 (c1:Int)))))):GW P B Q (.ops q all (o::rest)::K) s:=by
 refine ⟨Dw hg (fun E a w hs=>?_)⟩
 have e1:=Bc (show Cm E w (s.avoid E) s.next (.v (M8 b o1 n1 c1)) (a.eval x) by have:=hs.ev x;rwa [hx] at this)
 have hu:=Ch (hT t i hi) he
 refine ⟨.int .i64 c1,fun w' _=>?_,h.out E _ w (hs.put o.dst (.c (.val _ rfl)))⟩
 obtain ⟨dst,op',ty',pos,after,guard⟩:=o
 simp only at ho
 subst ho
 simp [execOp,resolve,invoke,builtin,e1,M8,Builtin.cap_,run_underlying hu,goInt]
theorem B7f (hT:C7 P T){B:Ax}{Q:Exit→Act→World→Prop}{q:Bool}{all:Array Oper}{o:Oper}{rest:List Oper}{K:List KI}{s:AS}{t tn e:TypeId}{x y:Operand}{i j jn:TI}{kn kq:IntKind}
  (hg:o.guard=none)(ho:o.op= .call {callee:= .builtin .append,args:= #[x,y],argTypes:= #[t,tn]})(hi:find T t=some i)(he:i.elem=some e)(hj:find T e=some j)(hn:find T tn=some jn)(hag:jn.agg=false)(hfl:jn.flat=some [.int kn])
  {b o1 n1 c1 kb:Nat}{bx:Bx}(hx:s.ev x= .c (.val (M8 b o1 n1 c1)))(hl:Dl s.links kb=some (Mv b))(hb:Ew s.boxes kb=some bx){k:Nat}(hy:s.ev y= .c (.val (.int kq (k:Int))))
  {es:Nat}{row:Nat→List Ac}(M1 M2:List AV)(hc:bx.cells=M1++F2 n1 row++M2)(h1:M1.length=o1)(hes:es=j.size)(hpos:0<es)(hrow:∀i,i<n1→(row i).length=es)(hf:E4 n1 row)
  (hk:0<k)(hgrow:c1<n1+k)(hlen:n1+k≤549755813888)(hby:Nat.ble j.bytes 256=true)(row':Nat→List Ac)(r1:∀i,i<n1→row' i=row i)(r2:∀i,n1≤i→i<n1+k→row' i=j.zero.map Ac.val)
  (h:GW P B Q (.ops q all rest::K) (({s with own:=⟨s.next,.sl (n1+k) es row'⟩::s.own,next:=s.next+1}:AS).put o.dst (.own s.next))):GW P B Q (.ops q all (o::rest)::K) s:=by
 subst hes
 have hby:=Nat.le_of_ble_eq_true hby
 refine ⟨Gj hg (by rw [ho];simp [Dj]) (fun E a w hs=>?_)⟩
 have e1:=Bc (show Cm E w (s.avoid E) s.next (.v (M8 b o1 n1 c1)) (a.eval x) by have:=hs.ev x;rwa [hx] at this)
 have e2:=Bc (show Cm E w (s.avoid E) s.next (.v (.int kq (k:Int))) (a.eval y) by have:=hs.ev y;rwa [hy] at this)
 have hll:=Ir hrow
 obtain ⟨vals,g1,g2,g3,g4⟩:=A9z hs hl hb M1 (F2 n1 row) M2 hc (fun y hy=>by
  obtain ⟨m,hm,rfl⟩:=List.getElem_of_mem hy
  obtain ⟨_,_,c,_,_,_,_,hc'⟩:=Nl hrow (List.getElem?_eq_getElem hm)
  exact ⟨c,hc'⟩)
 have hu:=Ch (hT t i hi) he
 obtain ⟨f,d,z,S⟩:=TI.of_spec (hT e j hj)
 have hzs:z.cells.size=j.size:=by have:=S.zlen;rw [←S.cells] at this;simpa using this
 have hun:=U6 hT hn hag hfl
 have hcd:∀ad,w.drew.cell? ad=w.cell? ad:=fun ad=>rfl
 have hld:=run_loadCells_list (P:=P) w.drew ⟨b,M1.length,none⟩ vals (fun m v hm=>by rw [hcd];exact g3 m v hm)
 rw [g1,hll,h1] at hld
 have hbytes:(n1+k) * j.bytes≤140737488355328:=Nat.le_trans (Nat.mul_le_mul hlen hby) Aw
 have hmax:n1+k≤maxLen:=by simp only [maxLen];omega
 have hrun:=Go.Lib.run_append_grow_zeros (P:=P) w t tn o.type e f z kq kn hu hun S.hf S.hz (some ⟨b,o1,none⟩) n1 c1 vals (by rw [S.size];simpa [Builtin.firstCells] using hld) k hk (by rw [S.size];exact hpos) hgrow Ab
  (by rw [S.bytes];exact Nat.le_trans (Nat.mul_le_mul (show k≤n1+k by omega) (Nat.le_refl _)) (Nat.le_trans hbytes Aw)) (by rw [S.bytes];exact growslice_fits hgrow hbytes)
 have hge:=grownCap_ge w (n1+k) c1 e
 have hcm:=grownCap_le_maxLen w (n1+k) c1 e hmax
 generalize grownCap w (n1+k) c1 e=cap at *
 let cells:=vals.toArray++Builtin.zeroCells z.cells k++Builtin.zeroCells z.cells (cap-(n1+k))
 let w':=w.drew.alloc (.cells cells e)
 have hbel:Below w.heap.size w w':=by
  have hb0:=Hw w.drew (.cells cells e)
  exact ⟨hb0.os,hb0.tape,hb0.output,hb0.size,hb0.block⟩
 have hsz:cells.size=cap * j.size:=by
  simp only [cells,Array.size_append,List.size_toArray,Kb,hzs,g1,hll,←Nat.add_mul]
  congr 1
  omega
 have hnew:w'.heap[w.heap.size]? =some (.cells cells e (0,0)):=heap_alloc_new w.drew _
 have hzl:(Builtin.zeroCells z.cells k).size=k * j.size:=by rw [Kb,hzs]
 have hget:∀m,m<(n1+k) * j.size→cells.getD m undef=if m<n1 * j.size then vals.getD m undef else j.zero.getD (m % j.size) undef:=by
  intro m hm
  have hm2:m<cells.size:=by rw [hsz];exact Nat.lt_of_lt_of_le hm (Nat.mul_le_mul_right _ hge)
  rw [←Br]
  simp only [cells,Array.toList_append,List.getD]
  rw [List.append_assoc]
  split
  ·rename_i hlt
   rw [List.getElem?_append_left (by rw [g1,hll];exact hlt)]
  rename_i hlt
  rw [List.getElem?_append_right (by rw [g1,hll];omega),g1,hll]
  have hin:m-n1 * j.size<k * j.size:=by rw [Nat.add_mul] at hm;omega
  rw [List.getElem?_append_left (by rw [Array.length_toList,hzl];exact hin)]
  have hmod:(m-n1 * j.size) % j.size=m % j.size:=by
   have:=Nat.sub_mul_mod (x:=m) (n:=j.size) (k:=n1) (by rw [Nat.mul_comm];omega)
   rwa [Nat.mul_comm j.size n1] at this
  have hlt2:m % j.size<z.cells.size:=by rw [hzs];exact Nat.mod_lt _ hpos
  simp only [Builtin.zeroCells,hzs,Array.toList_map,Array.toList_range,List.getElem?_map,List.getElem?_range hin,Option.map_some,Option.getD_some,hmod]
  rw [getElem!_pos z.cells _ hlt2,←S.cells]
  simp [List.getD,hlt2]
 have hown:C5 w' (.sl (n1+k) j.size row') (.slice (some ⟨w.heap.size,0 * j.size,none⟩) (n1+k) cap) (w.heap.size::(List.range ((n1+k) * j.size)).flatMap fun _=>[]):=by
  refine .sl (n1+k) j.size row' w.heap.size 0 cap e cells (fun _=>[]) hge hcm hnew (by rw [hsz];simp) (fun m hm=>?_) (fun m p c hm hp=>?_)
  ·by_cases h0:m<n1
   ·rw [r1 m h0];exact hrow m h0
   rw [r2 m Ab hm,List.length_map,S.zlen]
  simp only [Nat.zero_add]
  by_cases h0:m<n1
  ·rw [r1 m h0] at hp
   have hpl:p<j.size:=by rw [←hrow m h0];exact (List.getElem?_eq_some_iff.1 hp).1
   have hlt:=Et h0 hpl
   rw [hget _ (by rw [Nat.add_mul];omega),if_pos hlt]
   obtain ⟨u,rfl⟩:=hf m h0 c (List.mem_of_getElem? hp)
   have:=g2 (m * j.size+p) (.c (.val u)) (by rw [Pk hrow h0 hpl,hp];rfl)
   generalize vals.getD (m * j.size+p) undef=q at this
   cases this with
   |c hr=>cases hr with
    |val _ h1=>exact .val _ h1
  rw [r2 m Ab hm] at hp
  have hpl:p<j.size:=by have:=(List.getElem?_eq_some_iff.1 hp).1;rwa [List.length_map,S.zlen] at this
  have hlt:=Et hm hpl
  have hnlt:¬ m * j.size+p<n1 * j.size:=by
   have:n1 * j.size≤m * j.size:=Nat.mul_le_mul_right _ Ab
   omega
  rw [hget _ hlt,if_neg hnlt]
  have hmod:(m * j.size+p) % j.size=p:=by rw [Nat.mul_comm,Nat.mul_add_mod];exact Nat.mod_eq_of_lt hpl
  rw [hmod]
  rw [List.getElem?_map,Option.map_eq_some_iff] at hp
  obtain ⟨u,hu',rfl⟩:=hp
  have:j.zero.getD p undef=u:=by simp [List.getD,hu']
  rw [this]
  exact .val _ (Hk S.zone u (List.mem_of_getElem? hu'))
 rw [H7] at hown
 have hA:=hs.call hbel
 obtain ⟨k1,k2⟩:=hA.addOwn hown Bw (fun m hm=>by
  rw [List.mem_singleton.1 hm]
  refine ⟨.inr (Nat.le_refl _),fun hav=>?_,.inl hs.base.size⟩
  have:=hs.avoid_lt hav
  omega)
 simp only [Nat.zero_mul] at k1 k2
 refine ⟨_,w',.inl ?_,fun hk=>(by rw [ho] at hk;simp [Dj] at hk),h.out _ _ _ ((k1.put o.dst k2).is)⟩
 obtain ⟨dst,op',ty',pos,after,guard⟩:=o
 simp only at ho
 subst ho
 simp only at hrun
 simp [execOp,resolve,invoke,builtin,e1,e2,M8,hrun,w',cells]
theorem A2i {w:World}{b:Nat}{cells:Array Value}{ty:TypeId}(h:w.heap[b]? =some (.cells cells ty (0,0))):w.shape? b=some (ty,cells.size):=by
 simp [World.shape?,h]
theorem Xm {w:World}{b:Nat}{cells:Array Value}{ty:TypeId}(h:w.heap[b]? =some (.cells cells ty (0,0)))(o:Nat):w.frozen? ⟨b,o,none⟩=false:=by
 simp [World.frozen?,h]
theorem A7w (hT:C7 P T){B:Ax}{Q:Exit→Act→World→Prop}{q:Bool}{all:Array Oper}{o:Oper}{rest:List Oper}{K:List KI}{s:AS}{f:FuncId}{fn:Func}{tS tR e:TypeId}{ats:Array TypeId}{x y:Operand}{i j:TI}
  (hfn:P.funcs[f]? =some fn)(hname:(fn.name== "runtime.NumGoroutine")=false)(hbody:fn.body.isNone=true)(hnx:Extern.findNext fn=none)(hex:Extern.find fn=some (Extern.SlicesOverlaps.overlaps #[tS,tS] #[tR]))
  (hg:o.guard=none)(ho:o.op= .call {callee:= .value (.func f),args:= #[x,y],argTypes:=ats})(hi:find T tS=some i)(he:i.elem=some e)(hj:find T e=some j)
  {k n es:Nat}{row:Nat→List Ac}(hx:s.ev x= .own k)(hk:Bs s.own k=some (.sl n es row))(hn:0<n)
  {b o1 n1 c1 kb:Nat}{bx:Bx}(hy:s.ev y= .c (.val (M8 b o1 n1 c1)))(hl:Dl s.links kb=some (Mv b))(hb:Ew s.boxes kb=some bx)(hlen:0<bx.cells.length)
  (h:GW P B Q (.ops q all rest::K) (s.put o.dst (.c (.val (.bool false))))):GW P B Q (.ops q all (o::rest)::K) s:=by
 refine ⟨Gj hg (by rw [ho];simp [Dj]) (fun E a w hs=>?_)⟩
 have e2:=Bc (show Cm E w (s.avoid E) s.next (.v (M8 b o1 n1 c1)) (a.eval y) by have:=hs.ev y;rwa [hy] at this)
 have e1:a.eval x=E.ov k:=by
  have:=hs.ev x
  rw [hx] at this
  generalize a.eval x=v at this
  cases this with
  |own _=>rfl
 obtain ⟨hm,rfl⟩:=E7 hb
 obtain ⟨h1,vs,ty,h2,h3,h4⟩:=hs.boxes bx hm
 obtain ⟨hlk,hov⟩:=hs.links _ (Es hl)
 have hov:E.ov bx.key=Mv b:=hov
 have hβ:E.β bx.key=b:=by unfold Cv.β;rw [hov];rfl
 obtain ⟨_,o2,_⟩:=hs.own _ (C2 hk)
 have hsep:=hs.sepB bx hm _ (C2 hk)
 rw [hβ] at h2 hsep
 simp only at o2 hsep
 generalize E.ov k=u,E.fp k=fp at o2 e1 hsep
 cases o2 with
 |nil=>omega
 |emp=>omega
 |sl _ _ _ b' off cap ty' cells fps hnc hcp hbk hcs hl' hr=>
  have hne:b'≠b:=fun e=>hsep (by rw [e];simp)
  have hz:=fun w=>Bq (P:=P) (hT e j hj) w
  have hu:=Ch (hT tS i hi) he
  have hov:=Go.Lib.run_overlaps_apart (P:=P) w tS tR e hu j.size hz ⟨b',off * es,none⟩ ⟨b,o1,none⟩ n cap n1 c1 hne ty' ty cells.size vs.size (A2i hbk) (A2i h2) Ab (Xm hbk _) (Xm hbk _)
  refine ⟨.bool false,w,.inl ?_,fun _=>Dy.refl w,h.out E _ _ (hs.put o.dst (.c (.val _ rfl)))⟩
  obtain ⟨dst,op',ty2,pos,after,guard⟩:=o
  simp only at ho
  subst ho
  have hcall:=run_callFunc_extern hfn hname hbody hnx hex #[.slice (some ⟨b',off * es,none⟩) n cap,M8 b o1 n1 c1] w
  simp only [M8] at hcall e2
  rw [hov] at hcall
  have ef:a.eval (.func f)= .func (.func f) #[] #[]:=rfl
  simp [execOp,resolve,Deferred.ofValue,invoke,ef,e1,e2,hcall,Result.andThen]
def Ik {α:Type} (e:α→List Ac) (l:List α):List AV:=l.flatMap fun x=>(e x).map AV.c
theorem Jp {α:Type}(e:α→List Ac)(l m:List α):Ik e (l++m)=Ik e l++Ik e m:=by simp [Ik]
theorem B4j {α:Type}{e:α→List Ac}{es:Nat}(he:∀x,(e x).length=es)(l:List α):(Ik e l).length=l.length * es:=by
 induction l with
 |nil=>simp [Ik]
 |cons x r ih=>
  have:Ik e (x::r)=(e x).map AV.c++Ik e r:=rfl
  rw [this,List.length_append,ih,List.length_map,he,List.length_cons,Nat.succ_mul]
  omega
theorem B44 {α:Type}(e:α→List Ac)(l:List α):∀y∈Ik e l,∃c,y= .c c:=by
 intro y hy
 obtain ⟨x,_,hx⟩:=List.mem_flatMap.1 hy
 obtain ⟨c,_,rfl⟩:=List.mem_map.1 hx
 exact ⟨c,rfl⟩
theorem Ns {α:Type} [Inhabited α] (e:α→List Ac)(l:List α):F2 l.length (fun i=>e (l.getD i default))=Ik e l:=by
 unfold F2
 have h:∀(m:List α),(List.range m.length).flatMap (fun i=>(e (m.getD i default)).map AV.c)=Ik e m:=by
  intro m
  induction m with
  |nil=>rfl
  |cons x r ih=>
   rw [List.length_cons,List.range_succ_eq_map,List.flatMap_cons,List.flatMap_map]
   have:Ik e (x::r)=(e x).map AV.c++Ik e r:=rfl
   rw [this,←ih]
   rfl
 exact h l
theorem A6b {α:Type} [Inhabited α] {B:Ax}{Q:Exit→Act→World→Prop}{K:List KI}{s:AS}(k:Nat)(es:Nat)(e:α→List Ac)(l:List α)(hk:Bs s.own k=some (Is es e l))(hn:0<l.length)(hf:E4 l.length fun i=>e (l.getD i default))
  (h:∀(b off cap:Nat) (pre Ct:List AV),pre.length=off * es→l.length≤cap→cap≤maxLen→(cap-l.length) * es≤Ct.length→
   GW P B Q K {s with own:=Bk [k] s.own,next:=s.next+1,boxes:=⟨s.next,pre++Ik e l++Ct⟩::s.boxes,links:=(s.next,Mv b)::(k,M8 b (off * es) l.length cap)::s.links}):GW P B Q K s:=
 B4m k hk hn hf (fun b off cap pre Ct h1 h2 h3 h4=>by
  have:=h b off cap pre Ct h1 h2 h3 h4
  rw [←Ns] at this
  exact this)
theorem B60 {α:Type} [Inhabited α] {B:Ax}{Q:Exit→Act→World→Prop}{K:List KI}{s:AS}(i kb:Nat){bx:Bx}{b o n cap:Nat}(off es:Nat)(e:α→List Ac)(l:List α)(pre Ct:List AV)(hb:Ew s.boxes kb=some bx)(hc:bx.cells=pre++Ik e l++Ct)(hpre:pre.length=off * es)
  (he:∀x,(e x).length=es)(hf:E4 l.length fun i=>e (l.getD i default))(hcap:cap≤maxLen)(hpost:l.length≤cap∧(cap-l.length) * es≤Ct.length)(hl:Dl s.links kb=some (Mv b))(hi:Gh s.slots i= .c (.val (M8 b o n cap)))(ho:o=off * es)(hn:n=l.length)
  (h:GW P B Q K {s with boxes:=Ni kb s.boxes,own:=⟨s.next,Is es e l⟩::s.own,next:=s.next+1,slots:=Ce s.slots i (.own s.next)}):GW P B Q K s:=by
 subst ho hn
 exact B61 i kb (fun i=>e (l.getD i default)) pre Ct hb (by rw [hc,Ns]) hpre (fun _ _=>he _) hf hpost.1 hcap hpost.2 hl hi h
end Go.Sx
set_option maxRecDepth 100000
namespace Go.Sx
open Go
variable {P : Program} {ops : Array Oper}
theorem Tz {α:Sort _}{B:Ax}{s:α→AS}(v:α):GW P B QF [.loop (fun a w=>∃v E,(s v).is B E a w)] (s v):=⟨fun E _ _ hs=>⟨v,E,hs⟩⟩
theorem Pj {α:Sort _}{B:Ax}{N:Act→World→Prop}{fuel:Nat}{listed:Array Bool}{s:AS}{s':α→AS}(i:Nat){o:Oper}(hi:ops[i]? =some o)
  (hb:(Nat.beq (Dj o.op) 0&&Region.noSelect ops&&(Region.ready .any ops listed).contains i&&A9x ops listed i o&&Yq ops listed)=true)
  (ht:GW P B QF [.ops true ops [o],.loop (fun a w=>∃v E,(s' v).is B E a w)] s)(h:∀v,BW P B N ops fuel (listed.setIfInBounds i true) (s' v)):BW P B N ops (fuel+1) listed s:=by
 simp only [Bool.and_eq_true,List.contains_iff_mem] at hb
 obtain ⟨⟨⟨⟨h0,h1⟩,h2⟩,h3⟩,h4⟩:=hb
 have h0:=Nat.eq_of_beq_eq_true h0
 refine ⟨fun E a w hs=>?_⟩
 have hg:F7 P ops (fun a w=>∃v E,(s' v).is B E a w) [o] a w:=ht.out E a w hs
 have hfree:∀j oj,ops[j]? =some oj→j≠i→listed.getD j true=false→Pr ops ops.size j i=true∨(o.apart ops oj=true∧(Jx o.op=true∨Dj oj.op≤1)):=by
  intro j oj hoj hji hun
  have:=List.all_eq_true.1 h3 j (List.mem_range.2 (Array.getElem?_eq_some_iff.1 hoj).1)
  simp only [hoj,hun,Bool.or_false,Bool.or_eq_true,beq_iff_eq,hji,false_or,Bool.and_eq_true] at this
  exact this.symm.imp id fun ⟨h1,h2⟩=>⟨h1,h2.imp id fun h=>Nat.le_of_ble_eq_true h⟩
 unfold F7 at hg
 by_cases hw:Region.wanted o (yielded ops a.tmps)=true
 ·rw [if_pos hw] at hg
  rcases hg with ⟨v,hv,hn⟩|⟨hk,_⟩
  ·obtain ⟨u,E',hs'⟩:=hn
   exact Jv hi (Region.noSelect_spec h1) ops.size fuel listed a w (Jj h4) hfree h2 (.inl ⟨hw,fun w' hw'=>hw'.elim (fun hb=>Nw hb a.eval (hv w (Dy.refl w))) (hv w')⟩) ((h u).out E' _ w hs')
  exact absurd h0 hk
 rw [if_neg hw] at hg
 obtain ⟨u,E',hs'⟩:=hg
 exact Jv hi (Region.noSelect_spec h1) ops.size fuel listed a w (Jj h4) hfree h2 (.inr ⟨by simpa using hw,rfl⟩) ((h u).out E' _ w hs')
theorem Xv {B:Ax}{Q:Exit→Act→World→Prop}{K:List KI}{s:AS}(k j:Nat){b:Bx}{v:Value}(hb:Ew s.boxes k=some b)(hj:Gh b.cells j= .c (.val v))(h:G6 [v]=true→GW P B Q K s):GW P B Q K s:=by
 refine ⟨fun E a w hs=>?_⟩
 obtain ⟨hm,hbk⟩:=E7 hb
 obtain ⟨h1,vs,ty,h2,h3,h4⟩:=hs.boxes b hm
 have ho:v.oneCell'=true:=by
  rw [Cl] at hj
  cases hg:b.cells[j]? with
  |none=>rw [hg] at hj;simp at hj
  |some x=>
   rw [hg] at hj
   have hx:x= .c (.val v):=by simpa using hj
   subst hx
   have:=h4 j _ hg
   have e:=Bc this
   rw [e] at this
   exact this.cell1 rfl hs.one
 have ho:G6 [v]=true:=by
  cases v<;>first|rfl|cases ho
 exact (h ho).out E a w hs
theorem B5h {B:Ax}{fn:Func}{R:Ending→World→Prop}{s:AS}(h:RW B (bodyPost P fn R) s):GW P B (bodyPost P fn R) [] s:=
 ⟨fun E a w hs=>by
  have g:bodyPost P fn R .ret a w:=h.rec fun g=>g E a w hs
  exact g⟩
end Go.Sx
set_option maxRecDepth 100000
namespace Go.Sx
open Go
variable {P : Program} {T : List (TypeId × TI)}
def T8 {α:Type} (l:List Bx) (k:List Bx→α):α:=
 match l with
 | []=>k []
 |x::r=>match x with|⟨key,cells⟩=>Hu key fun key=>T8 r fun r'=>k (⟨key,cells⟩::r')
theorem A3l {α:Type}(l:List Bx)(k:List Bx→α):T8 l k=k l:=by
 induction l generalizing k with
 |nil=>rfl
 |cons x r ih=>cases x;simp [T8,G5,ih]
def Ge {α:Type} (s:AS) (k:AS→α):α:=
 match s with
 |⟨next,slots,boxes,own,links⟩=>Hu next fun next=>Ly slots fun slots=>T8 boxes fun boxes=>Uc own fun own=>Ub links fun links=>k ⟨next,slots,boxes,own,links⟩
theorem Ri {α:Type}(s:AS)(k:AS→α):Ge s k=k s:=by cases s;simp [Ge,G5,Nx,A3l,Xj,Xi]
def Fw (T:List (TypeId×TI)) (wr:Bool):Nat→List KI→AS→Out
 | 0,K,s=>Ge s (.at_ K)
 |n+1,K,s=>
  match K with
  | []=>Ge s (.at_ [])
  | .block _::K=>Fw T wr n K s
  | .loop I::K=>Ge s (.at_ (.loop I::K))
  | .code c::K=>
   match c with
   | .skip=>Fw T wr n K s
   | .seq a b=>Fw T wr n (.code a:: .code b::K) s
   | .block id c=>Fw T wr n (.code c:: .block id::K) s
   | .cond o t e=>
    match s.ev o with
    | .c (.val (.bool b))=> .ite b (Fw T wr n (.code t::K) s) (Fw T wr n (.code e::K) s)
    |_=>Ge s (.at_ (.code (.cond o t e)::K))
   | .exit id=>match Ol id K with
    |some K'=>Fw T wr n K' s
    |none=>Ge s (.at_ (.code (.exit id)::K))
   | .ret=>Ge s .ret
   | .region _id ops false=>Fw T wr n (.ops false ops ops.toList::K) s
   |c=>Ge s (.at_ (.code c::K))
  | .ops q all l::K=>
   match l with
   | []=>Fw T wr n K s
   |o::rest=>
    match o.guard with
    |none=>
     match o.op with
     | .pick c x y=>
      match s.ev c with
      | .c (.val (.bool b))=> .ite b (I3 s o.dst (s.ev x) (Fw T wr n (.ops q all rest::K))) (I3 s o.dst (s.ev y) (Fw T wr n (.ops q all rest::K)))
      |_=>Ge s (.at_ (.ops q all (o::rest)::K))
     | .call {callee:= .value (.func f),args,..}=>Ly (args.toList.map s.ev) fun xs=>Ge s fun s=> .call q f xs o.dst (.ops q all rest::K) s
     | .call {callee:= .value (.tmp t),args,..}=>
      match Gh s.slots t with
      | .fn f caps=>Ly (args.toList.map s.ev++caps) fun xs=>Ge s fun s=> .call q f xs o.dst (.ops q all rest::K) s
      |_=>Ge s (.at_ (.ops q all (o::rest)::K))
     |op=>
      match step T wr s op with
      | .stop=>Ge s (.at_ (.ops q all (o::rest)::K))
      | .ok ps x=>Uq ps (I3 s o.dst x (Fw T wr n (.ops q all rest::K)))
      | .new cells=>A5m s cells fun s'=>I3 s' o.dst (.box s.next 0) (Fw T wr n (.ops q all rest::K))
      | .own ps c=>Uq ps (Mu s c fun s'=>I3 s' o.dst (.own s.next) (Fw T wr n (.ops q all rest::K)))
      | .mem bx=>A5j s bx fun s=>I3 s o.dst .any (Fw T wr n (.ops q all rest::K))
    |some (j,true)=>
     match H8 all j with
     |some d=>match Gh s.slots d with
      | .c (.val (.bool b))=> .ite b
        (I3 s (some d) (.v (.bool true)) (Fw T wr n (.ops q all ({o with guard:=none}::rest)::K)))
        (I3 s (some d) (.v (.bool false)) fun s=>I3 s o.dst (Kz all o.dst) (Fw T wr n (.ops q all rest::K)))
      | .tup []=>I3 s o.dst (Kz all o.dst) (Fw T wr n (.ops q all rest::K))
      |_=>Ge s (.at_ (.ops q all (o::rest)::K))
     |none=>Ge s (.at_ (.ops q all (o::rest)::K))
    |some (j,false)=>
     match H8 all j with
     |some d=>match Gh s.slots d with
      | .c (.val (.bool b))=> .ite b
        (I3 s (some d) (.v (.bool true)) fun s=>I3 s o.dst (Kz all o.dst) (Fw T wr n (.ops q all rest::K)))
        (I3 s (some d) (.v (.bool false)) (Fw T wr n (.ops q all ({o with guard:=none}::rest)::K)))
      | .tup []=>I3 s o.dst (Kz all o.dst) (Fw T wr n (.ops q all rest::K))
      |_=>Ge s (.at_ (.ops q all (o::rest)::K))
     |none=>Ge s (.at_ (.ops q all (o::rest)::K))
theorem A54 (T:List (TypeId×TI))(wr:Bool):∀n,Fw T wr n=run T wr n
 | 0=>by funext K s;simp only [Fw,run,Db,Ri]
 |n+1=>by
  funext K s
  simp only [Fw,run,A54 T wr n,Db,Ri]
  rfl
def A53 (T:List (TypeId×TI)) (wr:Bool) (n:Nat) (K:List KI) (s:AS):Out:=Ge s (Fw T wr n K)
theorem A2d (T:List (TypeId×TI))(wr:Bool)(n:Nat)(K:List KI)(s:AS):A53 T wr n K s=M6 T wr n K s:=by
 unfold A53 M6
 rw [Ri,Db,A54]
theorem Ug (hT:C7 P T)(wr:Bool){B:Ax}{Q:Exit→Act→World→Prop}{K:List KI}{s:AS}(h:Wv P B Q (A53 T wr 100000 K s)):GW P B Q K s:=
 go hT wr (by rw [←A2d];exact h)
theorem B7l (n:Nat)(hT:C7 P T)(wr:Bool){B:Ax}{Q:Exit→Act→World→Prop}{K:List KI}{s:AS}(h:Wv P B Q (A53 T wr n K s)):GW P B Q K s:=
 goF n hT wr (by rw [←A2d];exact h)
theorem B42 (P:Program){α:Type} [Inhabited α] {B:Ax}{Q:Exit→Act→World→Prop}{s:AS}(i kb:Nat){bx:Bx}{b o n cap:Nat}(off es:Nat)(e:α→List Ac)(l:List α)(pre Ct:List AV)(hb:Ew s.boxes kb=some bx)(hc:bx.cells=pre++Ik e l++Ct)(hpre:pre.length=off * es)
  (he:∀x,(e x).length=es)(hf:Go.Sx.E4 l.length fun i=>e (l.getD i default))(hcap:cap≤maxLen)(hpost:l.length≤cap∧(cap-l.length) * es≤Ct.length)(hl:Dl s.links kb=some (Mv b))(hi:Gh s.slots i= .c (.val (M8 b o n cap)))(ho:o=off * es)(hn:n=l.length)
  (h:RW B Q {s with boxes:=Ni kb s.boxes,own:=⟨s.next,Is es e l⟩::s.own,next:=s.next+1,slots:=Ce s.slots i (.own s.next)}):RW B Q s:=
 B1k P (s':= {s with boxes:=Ni kb s.boxes,own:=⟨s.next,Is es e l⟩::s.own,next:=s.next+1,slots:=Ce s.slots i (.own s.next)}) (fun _ g=>B60 i kb off es e l pre Ct hb hc hpre he hf hcap hpost hl hi ho hn g) h
end Go.Sx
set_option maxRecDepth 100000
namespace Go.Sx
open Go
open Go.RowKit (Below)
variable {P : Program} {T : List (TypeId × TI)} {ops : Array Oper}
theorem B32 {i:Nat}{o:Oper}{Q:Act→World→Prop}{a:Act}{w:World}(ho:ops[i]? =some o)(h:F7 P ops Q [o] a w):opM P ops i Q a w:=by
 unfold opM
 simp only [ho]
 unfold F7 at h
 split
 ·rename_i hw
  rw [if_pos hw] at h
  rcases h with ⟨v,h1,h2⟩|⟨_,hd⟩
  ·unfold Hd
   rw [h1 w (Dy.refl w)]
   exact ⟨fun _=>Dy.refl w,h2⟩
  exact hd
 rename_i hw
 rw [if_neg hw] at h
 exact h
def A8z (P:Program) (B:Ax) (N:Act→World→Prop) (ops:Array Oper) (fuel:Nat) (listed:Array Bool) (s:AS):List Nat→Prop
 | []=>True
 |i::r=>(match ops[i]? with
  |some o=>GW P B QF [.ops true ops [o],.loop (fun a w=>Lo P ops N fuel (listed.setIfInBounds i true) a w)] s
  |none=>False)∧A8z P B N ops fuel listed s r
theorem A6k {B:Ax}{N:Act→World→Prop}{fuel:Nat}{listed:Array Bool}{s:AS}{l:List Nat}(h:A8z P B N ops fuel listed s l){i:Nat}(hi:i∈l):
  ∃o,ops[i]? =some o∧GW P B QF [.ops true ops [o],.loop (fun a w=>Lo P ops N fuel (listed.setIfInBounds i true) a w)] s:=by
 induction l with
 |nil=>simp at hi
 |cons j r ih=>
  obtain ⟨h1,h2⟩:=h
  rcases List.mem_cons.1 hi with rfl|hi
  ·split at h1
   ·rename_i o ho;exact ⟨o,ho,h1⟩
   exact h1.elim
  exact ih h2 hi
theorem Gv {B:Ax}{N:Act→World→Prop}{fuel:Nat}{listed:Array Bool}{s:AS}(l:List Nat)(hr:(eqL (Region.ready .any ops listed) l&&!l.isEmpty)=true)(h:A8z P B N ops fuel listed s l):BW P B N ops (fuel+1) listed s:=by
 simp only [Bool.and_eq_true,Bool.not_eq_true'] at hr
 have hr1:=A9o hr.1
 refine ⟨fun E a w hs=>⟨fun h0=>?_,fun i hi=>?_⟩⟩
 ·rw [hr1] at h0
  rw [h0] at hr
  simp at hr
 rw [hr1] at hi
 obtain ⟨o,ho,hg⟩:=A6k h hi
 exact B32 ho (hg.out E a w hs)
theorem He {B:Ax}{N:Act→World→Prop}{fuel:Nat}{listed:Array Bool}{s:AS}(h:BW P B N ops fuel listed s):GW P B QF [.loop (fun a w=>Lo P ops N fuel listed a w)] s:=
 ⟨fun E a w hs=>h.out E a w hs⟩
theorem S5 {B:Ax}{Q:Exit→Act→World→Prop}{K:List KI}{s:AS}{listed:Array Bool}(hr:(Region.ready .any ops listed).isEmpty=true)(h:GW P B Q K s):BW P B (fun a w=>Ct P Q K .normal a w) ops 0 listed s:=
 ⟨fun E a w hs=>⟨by simpa using hr,h.out E a w hs⟩⟩
def A5q:Op→Bool
 | .move _=>true
 | .assign _=>true
 | .extract _ _=>true
 |_=>false
theorem B3w {o:Oper}(h:A5q o.op=true)(ρ:Operand→Value){w w':World}{v:Value}(hr:(execOp ρ o).run P w= .ok (.value v) w):(execOp ρ o).run P w'= .ok (.value v) w':=by
 by_cases hb:Jx o.op=true
 ·exact Nw hb ρ hr
 obtain ⟨dst,op,ty,pos,after,guard⟩:=o
 cases op<;>simp [A5q] at h<;>simp [Jx] at hb
 rename_i x i
 simp only [execOp,Instr.extract] at hr ⊢
 generalize ρ x=u at hr ⊢
 cases u<;>simp_all
 split at hr<;>simp_all
theorem A1w {B:Ax}{N:Act→World→Prop}{fuel:Nat}{listed:Array Bool}{s s':AS}(i:Nat){o:Oper}(hi:ops[i]? =some o)
  (hb:(A5q o.op&&Region.noSelect ops&&(Region.ready .any ops listed).contains i&&A5c ops listed i o)=true)
  (ht:GW P B QF [.ops true ops [o],.loop (fun a w=>∃E,s'.is B E a w)] s)(h:BW P B N ops fuel (listed.setIfInBounds i true) s'):BW P B N ops (fuel+1) listed s:=by
 simp only [Bool.and_eq_true,List.contains_iff_mem] at hb
 obtain ⟨⟨⟨h0,h1⟩,h2⟩,h3⟩:=hb
 refine ⟨fun E a w hs=>?_⟩
 have hg:F7 P ops (fun a w=>∃E,s'.is B E a w) [o] a w:=ht.out E a w hs
 unfold F7 at hg
 by_cases hw:Region.wanted o (yielded ops a.tmps)=true
 ·rw [if_pos hw] at hg
  rcases hg with ⟨v,hv,hn⟩|⟨hk,_⟩
  ·obtain ⟨E',hs'⟩:=hn
   exact N1 hi (Region.noSelect_spec h1) fuel listed a w h3 h2 (.inl ⟨hw,fun w'=>B3w h0 a.eval (hv w (Dy.refl w))⟩) (h.out E' _ w hs')
  exfalso
  apply hk
  cases ho:o.op<;>rw [ho] at h0<;>first|rfl|simp [A5q] at h0
 rw [if_neg hw] at hg
 obtain ⟨E',hs'⟩:=hg
 exact N1 hi (Region.noSelect_spec h1) fuel listed a w h3 h2 (.inr ⟨by simpa using hw,rfl⟩) (h.out E' _ w hs')
end Go.Sx
set_option maxRecDepth 100000
namespace Go.Sx
open Go
open Go.RowKit (Below)
variable {P : Program} {T : List (TypeId × TI)}
theorem A9y {B:Ax}{Q:Exit→Act→World→Prop}{K:List KI}{s:AS}(k j key:Nat){b:Bx}{c:Ac}(hb:Ew s.boxes k=some b)(hj:Gh b.cells j= .own key)(hk:Bs s.own key=some c)
  (h:GW P B Q K {s with own:=Bk [key] s.own,boxes:=Ea s.boxes k (Ce b.cells j (.c c))}):GW P B Q K s:=by
 refine ⟨fun E a w hs=>?_⟩
 have hI:=(hs.drop [key]).is
 have hm:=C2 hk
 have hrep:L5 w (({s with own:=Bk [key] s.own}:AS).avoid E) c (E.ov key):=(hs.own _ hm).2.1.rep (fun b hb=>by
  rintro (⟨u,hu,rfl⟩|⟨u,hu,hb'⟩)
  ·exact hs.sepB u hu _ hm hb
  obtain ⟨q1,q2⟩:=C4.1 hu
  exact hs.sep _ hm u q1 (fun e=>q2 (by rw [←e];exact List.mem_singleton.2 rfl)) b hb hb')
 refine h.out E a w (AS.is.reBox hI hb (Ce b.cells j (.c c)) (fun vs h1 h2=>⟨by rw [Ca];exact h1,fun i y hy=>?_⟩))
 rw [D8] at hy
 split at hy
 ·rename_i hm'
  obtain ⟨rfl,hm'⟩:=hm'
  obtain rfl:=Option.some.inj hy
  have:=h2 j (.own key) (by rw [Cl,List.getElem?_eq_getElem hm'] at hj;rw [List.getElem?_eq_getElem hm'];simpa using hj)
  generalize vs.getD j undef=u at this ⊢
  cases this with
  |own _=>exact .c hrep
 exact h2 i y hy
end Go.Sx
