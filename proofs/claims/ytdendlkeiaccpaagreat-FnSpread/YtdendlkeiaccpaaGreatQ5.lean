/- Part 5 of the proof that each of the laws FnSpread returns true for every input. No conditions. -/
import Derived.Test.YtdendlkeiaccpaaGreatQ4
import Derived.Lib.AppendZerosOnto
import Derived.Lib.Overlaps

set_option linter.unusedSimpArgs false
set_option linter.unusedVariables false
set_option maxRecDepth 100000
namespace Go.Sx
open Go
variable {P : Program} {T : List (TypeId × TI)}
theorem C3g {a b:Nat}(h:Nat.blt a b=true):a<b:=Nat.le_of_ble_eq_true h
theorem B9k {B:Be}{Q:Exit→Act→World→Prop}{K:List KI}{s:AS}(l:List Ow)(hp0:(s.own.map (·.key)).Nodup→l.Perm s.own)(h:GW P B Q K {s with own:=l}):GW P B Q K s:=by
 refine ⟨fun E a w hs=>?_⟩;have hp:=hp0 hs.ownkeys
 have hav:({s with own:=l}:AS).avoid E=s.avoid E:=by
  funext b
  refine propext ⟨?_,?_⟩
  ·rintro (h|⟨y,hy,h⟩)
   ·exact .inl h
   exact .inr ⟨y,hp.mem_iff.1 hy,h⟩
  rintro (h|⟨y,hy,h⟩)
  ·exact .inl h
  exact .inr ⟨y,hp.mem_iff.2 hy,h⟩
 refine h.out E a w ⟨hs.defers,hs.links,hs.size,?_,?_,hs.boxes2,hs.keys,fun y hy=>hs.own y (hp.mem_iff.1 hy),(hp.map _).nodup_iff.2 hs.ownkeys,fun y hy z hz=>hs.sep y (hp.mem_iff.1 hy) z (hp.mem_iff.1 hz),fun x hx y hy=>hs.sepB x hx y (hp.mem_iff.1 hy),hs.one,hs.base,?_⟩
 ·rw [hav];exact hs.slots
 ·rw [hav];exact hs.boxes
 rw [hav];exact hs.fresh
theorem V3 {k j:Nat}:Wb j [k]=true↔j=k:=by rw [Gt];simp
theorem B1a {k j:Nat}(h:j≠k):Wb j [k]=false:=by
 cases hh:Wb j [k] with
 |false=>rfl
 |true=>exact absurd (V3.1 hh) h
theorem B1t {ks:List Nat}:∀(m:List Ow),(∀y∈m,y.key∉ks)→Bz ks m=m:=by
 intro m
 induction m with
 |nil=>intro _;rfl
 |cons z m ih=>
  intro hm
  have hz:Wb z.key ks=false:=by
   cases hh:Wb z.key ks with
   |false=>rfl
   |true=>exact absurd (Gt.1 hh) (hm z C8)
  simp only [Bz,hz,ih (fun y hy=>hm y (List.mem_cons_of_mem _ hy))]
theorem A0t {k:Nat}{c:Ai}:∀(l:List Ow),(l.map (·.key)).Nodup→Cb l k=some c→((⟨k,c⟩:Ow)::Bz [k] l).Perm l:=by
 intro l
 induction l with
 |nil=>intro _ hg;simp [Cb] at hg
 |cons y r ih=>
  intro hnd hg;simp only [List.map_cons,List.nodup_cons] at hnd;unfold Cb at hg
  cases hb:Nat.beq y.key k with
  |true=>
   have he:=Nat.eq_of_beq_eq_true hb;rw [hb] at hg;have hc:y.cell=c:=by simpa using hg
   have hr:Bz [k] r=r:=B1t r (fun z hz e=>hnd.1 (by rw [he,←(show z.key=k by simpa using e)];exact List.mem_map_of_mem hz))
   have hin:Wb y.key [k]=true:=V3.2 he;simp only [Bz,hin,hr]
   have:(⟨k,c⟩:Ow)=y:=by cases y;simp_all
   rw [this]
  |false=>
   rw [hb] at hg;have hin:Wb y.key [k]=false:=B1a (fun e=>by rw [e] at hb;simp at hb);simp only [Bz,hin];exact (List.Perm.swap _ _ _).trans ((ih hnd.2 hg).cons _)
def nSl:List Ai→Nat
 | []=>0
 |c::r=>match O8 c with|true=>nSl r+1|false=>nSl r
def opO (k:Nat):List Ai→List Ow
 | []=>[]
 |c::r=>match O8 c with|true=>⟨k,c⟩::opO (k+1) r|false=>opO k r
def opH (k:Nat) (u:Nat→Value):List Ai→List Ai
 | []=>[]
 |c::r=>match O8 c with|true=> .val (u k)::opH (k+1) u r|false=>c::opH k u r
def opL (k:Nat) (u:Nat→Value) (l:List (Nat×Value)):List Ai→List (Nat×Value)
 | []=>l
 |c::r=>match O8 c with|true=>opL (k+1) u ((k,u k)::l) r|false=>opL k u l r
def opA (k:Nat):List Ai→List AV
 | []=>[]
 |c::r=>match O8 c with|true=> .own k::opA (k+1) r|false=> .c c::opA k r
theorem C2b (k:Nat)(u:Nat→Value)(r:List Ai):(opH k u r).length=r.length:=by
 induction r generalizing k with
 |nil=>rfl
 |cons c r ih=>cases c<;>simp [opH,O8,ih]
theorem B5o {k:Nat}{u u':Nat→Value}{r:List Ai}(h:∀i,k≤i→u i=u' i):opH k u r=opH k u' r:=by
 induction r generalizing k with
 |nil=>rfl
 |cons c r ih=>
  cases c with
  |val v=>simp only [opH,O8];rw [ih h]
  |sl n es row=>simp only [opH,O8];rw [h k (Nat.le_refl _),ih (fun i hi=>h i Ad)]
theorem B5p {k:Nat}{u u':Nat→Value}{r:List Ai}{l:List (Nat×Value)}(h:∀i,k≤i→u i=u' i):opL k u l r=opL k u' l r:=by
 induction r generalizing k l with
 |nil=>rfl
 |cons c r ih=>
  cases c with
  |val v=>simp only [opL,O8];rw [ih h]
  |sl n es row=>simp only [opL,O8];rw [h k (Nat.le_refl _),ih (fun i hi=>h i Ad)]
theorem B1u (k:Nat)(l:List Ow):Bz [k] (Bz [k] l)=Bz [k] l:=by
 induction l with
 |nil=>rfl
 |cons y r ih=>
  simp only [Bz]
  cases h:Wb y.key [k] with
  |true=>simp only [ih]
  |false=>simp only [Bz,h,ih]
theorem B18 (d:List Ai)(c:Ai)(t:List Ai)(v:Ai):Ds (d++c::t) d.length [v]=d++v::t:=by
 unfold Ds;rw [List.take_left,List.length_singleton,show d.length+1=(d++[c]).length by simp,show d++c::t=(d++[c])++t by simp,List.drop_left]
 simp
theorem Nu {k n:Nat}{c:Ai}{l:List Ow}(h:n≠k):Cb (⟨n,c⟩::l) k=Cb l k:=by
 have:Nat.beq n k=false:=by
  cases hb:Nat.beq n k with
  |false=>rfl
  |true=>exact absurd (Nat.eq_of_beq_eq_true hb) h
 simp only [Cb,this]
theorem Lw {k:Nat}{c:Ai}{l:List Ow}:Cb (⟨k,c⟩::l) k=some c:=by
 have:Nat.beq k k=true:=by simp
 simp only [Cb,this]
theorem B9l {α:Type}(A:List α)(x y:α)(R:List α):(x::(A++y::R)).Perm (A++y::x::R):=
 ((List.perm_middle (a:=y) (l₁:=A) (l₂:=R)).cons x).trans ((List.Perm.swap y x (A++R)).trans (((List.perm_middle (a:=x) (l₁:=A) (l₂:=R)).symm.cons y).trans (List.perm_middle (a:=y) (l₁:=A) (l₂:=x::R)).symm))
theorem C5g {B:Be}{Q:Exit→Act→World→Prop}{K:List KI}(k jn:Nat){es n:Nat}{row:Nat→List Ai}(hj:jn<n):∀(todo done:List Ai) {s:AS} (_:k<s.next)
  (_:Cb s.own k=some (.sl n es (Ga row jn (done++todo))))
  (_:∀u,GW P B Q K {s with own:=opO s.next todo++⟨k,.sl n es (Ga row jn (done++opH s.next u todo))⟩::Bz [k] s.own,next:=s.next+nSl todo,links:=opL s.next u s.links todo}),GW P B Q K s:=by
 intro todo
 induction todo with
 |nil=>
  intro done s hlt hk h
  have:=h fun _=>undef
  simp only [opO,opH,nSl,opL,List.nil_append,Nat.add_zero] at this;exact B9k _ (fun hnd=>A0t _ hnd hk) this
 |cons c todo ih=>
  intro done s hlt hk h
  cases c with
  |val v=>
   refine ih (done++[.val v]) hlt (by simpa using hk) (fun u=>?_)
   have:=h u
   simpa [opO,opH,nSl,opL,O8] using this
  |sl m fs rw'=>
   refine C3v k jn done.length hk hj (c:= .sl m fs rw') C8 (fun v=>?_);rw [B18];have hne:s.next≠k:=by omega
   refine ih (done++[.val v]) (s:= {s with own:=⟨s.next,.sl m fs rw'⟩::⟨k,.sl n es (Ga row jn (done++ .val v::todo))⟩::Bz [k] s.own,next:=s.next+1,links:=(s.next,v)::s.links}) (by simp only;omega)
    (by simp only;rw [Nu hne,Lw];simp) (fun u=>?_)
   have hu:=h (fun i=>if i=s.next then v else u i)
   have e1:opH (s.next+1) (fun i=>if i=s.next then v else u i) todo=opH (s.next+1) u todo:=B5o (fun i hi=>by rw [if_neg Ad])
   have e2:∀l,opL (s.next+1) (fun i=>if i=s.next then v else u i) l todo=opL (s.next+1) u l todo:=fun l=>B5p (fun i hi=>by rw [if_neg Ad])
   simp only [opO,opH,opL,nSl,O8,if_true,e1,e2] at hu
   have e3:Bz [k] (⟨s.next,.sl m fs rw'⟩::⟨k,.sl n es (Ga row jn (done++ .val v::todo))⟩::Bz [k] s.own)=⟨s.next,.sl m fs rw'⟩::Bz [k] s.own:=by
    have a1:Wb s.next [k]=false:=B1a hne;have a2:Wb k [k]=true:=V3.2 rfl;simp only [Bz,a1,a2,B1u]
   simp only [e3];rw [show s.next+1+nSl todo=s.next+(nSl todo+1) by omega]
   refine B9k _ (fun _=>?_) (by simpa using hu);simp only [List.append_assoc,List.cons_append,List.nil_append];exact B9l _ _ _ _
def A8o (links:List (Nat×Value)):List AV→List AV→Prop
 | [],[]=>True
 |x::xs,y::ys=>(x=y∨∃k v,x= .c (.val v)∧y= .own k∧Ed links k=some v)∧A8o links xs ys
 |_,_=>False
theorem A4a {links:List (Nat×Value)}:∀{xs ys:List AV},A8o links xs ys→xs.length=ys.length∧∀(i:Nat) y,ys[i]? =some y→∃x,xs[i]? =some x∧(x=y∨∃k v,x= .c (.val v)∧y= .own k∧Ed links k=some v)
 | [],[],_=>⟨rfl,fun i y h=>by simp at h⟩
 |x::xs,y::ys,h=>by
  obtain ⟨h1,h2⟩:=h;obtain ⟨g1,g2⟩:=A4a h2;refine ⟨by simp [g1],fun i z hz=>?_⟩
  cases i with
  |zero=>exact ⟨x,rfl,by simpa using (Option.some.inj hz)▸h1⟩
  |succ i=>simpa using g2 i z (by simpa using hz)
 | [],_::_,h=>h.elim
 |_::_,[],h=>h.elim
theorem C06 {E:E7}{w:World}{A:Nat→Prop}{N:Nat}{links:List (Nat×Value)}{xs ys:List AV}{v:Value}(hl:A8o links xs ys)(hE:∀p∈links,p.1<N∧E.ov p.1=p.2)(h:Dr E w A N (.agg xs) v):Dr E w A N (.agg ys) v:=by
 obtain ⟨g1,g2⟩:=A4a hl
 cases h with
 |agg vs hvl hx=>
  refine .agg vs Ad (fun i y hy=>?_);obtain ⟨x,hx1,hx2⟩:=g2 i y hy
  have:=hx i x hx1
  rcases hx2 with rfl|⟨k,u,rfl,rfl,hk⟩
  ·exact this
  obtain ⟨q1,q2⟩:=hE _ (Fy hk);have q2:E.ov k=u:=q2;rw [Bo this,←q2];exact .own q1
theorem C2j {B:Be}{Q:Exit→Act→World→Prop}{K:List KI}{s:AS}(d:Option Tmp){xs ys:List AV}(hl:A8o s.links xs ys)(h:GW P B Q K (s.put d (.agg ys))):GW P B Q K (s.put d (.agg xs)):=by
 cases d with
 |none=>exact h
 |some d=>
  refine ⟨fun E a w hs=>h.out E a w ⟨hs.defers,hs.links,by rw [hs.size];simp [AS.put,Cn],fun m z hz=>?_,hs.boxes,hs.boxes2,hs.keys,hs.own,hs.ownkeys,hs.sep,hs.sepB,hs.one,hs.base,hs.fresh⟩⟩
  simp only [AS.put] at hz;rw [Dv] at hz
  split at hz
  ·rename_i hm
   obtain ⟨rfl,hm⟩:=hm;obtain rfl:=Option.some.inj hz;have hd:=hs.slots d (.agg xs) (by show (D6 s.slots d (.agg xs))[d]? =_;rw [Dv,if_pos ⟨rfl,hm⟩])
   exact C06 hl hs.links hd
  rename_i hm
  exact hs.slots m z (by simp only [AS.put,Dv];rw [if_neg hm];exact hz)
theorem A5q {k n:Nat}{v:Value}{l:List (Nat×Value)}(h:n≠k):Ed ((n,v)::l) k=Ed l k:=by
 have:Nat.beq n k=false:=by
  cases hb:Nat.beq n k with
  |false=>rfl
  |true=>exact absurd (Nat.eq_of_beq_eq_true hb) h
 simp only [Ed,this]
theorem A76 (u:Nat→Value):∀(r:List Ai) (k j:Nat) (l:List (Nat×Value)),j<k→Ed (opL k u l r) j=Ed l j:=by
 intro r
 induction r with
 |nil=>intro k j l _;rfl
 |cons c r ih=>
  intro k j l h
  cases c with
  |val v=>simp only [opL,O8];exact ih k j l h
  |sl n es row=>simp only [opL,O8];rw [ih (k+1) j _ Ad,A5q Ad]
theorem C2a (u:Nat→Value):∀(r:List Ai) (k:Nat) (l:List (Nat×Value)) (xs:List AV),M9 (opH k u r)=some xs→A8o (opL k u l r) xs (opA k r):=by
 intro r
 induction r with
 |nil=>intro k l xs h;obtain rfl:=Option.some.inj h;trivial
 |cons c r ih=>
  intro k l xs h
  cases c with
  |val v=>
   simp only [opH,O8,M9] at h
   split at h
   ·rename_i cs hcs
    obtain rfl:=Option.some.inj h;exact ⟨.inl rfl,ih k l cs hcs⟩
   cases h
  |sl n es row=>
   simp only [opH,O8,M9] at h
   split at h
   ·rename_i cs hcs
    obtain rfl:=Option.some.inj h;refine ⟨.inr ⟨k,u k,rfl,rfl,?_⟩,ih (k+1) _ cs hcs⟩;simp only [opL,O8];rw [A76 u r (k+1) k _ Ad]
    have:Nat.beq k k=true:=by simp
    simp only [Ed,this]
   cases h
theorem A1m (u:Nat→Value):∀(r:List Ai) (k:Nat),∃xs,M9 (opH k u r)=some xs∧xs.length=r.length
 | [],_=>⟨[],rfl,rfl⟩
 | .val v::r,k=>by
  obtain ⟨xs,h1,h2⟩:=A1m u r k;exact ⟨.c (.val v)::xs,by simp [opH,O8,M9,h1],by simp [h2]⟩
 | .sl n es row::r,k=>by
  obtain ⟨xs,h1,h2⟩:=A1m u r (k+1);exact ⟨.c (.val (u k))::xs,by simp [opH,O8,M9,h1],by simp [h2]⟩
theorem B0z {k j:Nat}(r:List Ai)(l:List Ow)(h:j<k):Cb (opO k r++l) j=Cb l j:=by
 induction r generalizing k with
 |nil=>rfl
 |cons c r ih=>
  cases c with
  |val v=>simp only [opO,O8];exact ih h
  |sl n es row=>simp only [opO,O8,List.cons_append];rw [Nu Ad,ih Ad]
theorem T0 (hT:Cs P T){B:Be}{Q:Exit→Act→World→Prop}{q:Bool}{all:Array Oper}{o:Oper}{rest:List Oper}{K:List KI}{s:AS}{x:Operand}{t:TypeId}{i:TI}
  (hg:o.guard=none)(ho:o.op= .load t x)(hi:find T t=some i){k es n jn:Nat}{j:Int}{row:Nat→List Ai}{r:List Ai}
  (hx:s.ev x= .oel k es j 0)(hk:Cb s.own k=some (.sl n es row))(hjn:j.toNat=jn)(hr:row jn=r)(hj:jn<n)(hlt:Nat.blt k s.next=true)(hsz:(i.agg&&Nat.beq i.size r.length)=true)
  (h:∀u,GW P B Q (.ops q all rest::K) (({s with own:=opO s.next r++⟨k,.sl n es (Ga row jn (opH s.next u r))⟩::Bz [k] s.own,next:=s.next+nSl r,links:=opL s.next u s.links r}:AS).put o.dst (.agg (opA s.next r)))):
  GW P B Q (.ops q all (o::rest)::K) s:=by
 simp only [Bool.and_eq_true] at hsz;obtain ⟨hag,hsz⟩:=hsz;have hsz:=Nat.eq_of_beq_eq_true hsz;have hlt:=C3g hlt;refine C5j k jn hk hr ?_
 have hko:Cb (Ht s.own k (.sl n es (Ga row jn r))) k=some (.sl n es (Ga row jn r)):=by
  generalize s.own=l at hk
  induction l with
  |nil=>simp [Cb] at hk
  |cons y l ih=>
   unfold Cb at hk;unfold Ht
   cases hb:Nat.beq y.key k with
   |true=>exact Lw
   |false=>
    rw [hb] at hk;simp only [Cb,hb];exact ih hk
 have hrem:Bz [k] (Ht s.own k (.sl n es (Ga row jn r)))=Bz [k] s.own:=by
  generalize s.own=l
  induction l with
  |nil=>rfl
  |cons y l ih=>
   unfold Ht
   cases hb:Nat.beq y.key k with
   |true=>
    have he:=Nat.eq_of_beq_eq_true hb;have a1:Wb y.key [k]=true:=V3.2 he;have a2:Wb k [k]=true:=V3.2 rfl;simp only [Bz,a1,a2,ih]
   |false=>
    have a1:Wb y.key [k]=false:=B1a (fun e=>by rw [e] at hb;simp at hb);simp only [Bz,a1,ih]
 refine C5g k jn hj r [] hlt (by simpa using hko) (fun u=>?_);simp only [List.nil_append,hrem];obtain ⟨xs,hf,hfl⟩:=A1m u r s.next;refine C46 hT hg ho hi (r:=opH s.next u r) (xs:=xs) hx (by simp only;rw [B0z _ _ hlt,Lw]) hjn hf (by rw [C2b,hsz];simp) ?_
 have hre:Le i xs 0= .agg xs:=by
  unfold Le;rw [hag]
  simp [seg,hsz,←hfl]
 rw [hre];exact C2j o.dst (C2a u r s.next s.links xs hf) (h u)
theorem B00 {ks:List Nat}{l:List Ow}{k:Nat}(h:k∉ks):Cb (Bz ks l) k=Cb l k:=by
 induction l with
 |nil=>rfl
 |cons y l ih=>
  cases hb:Wb y.key ks with
  |true=>
   have hm:=Gt.1 hb;have hne:y.key≠k:=fun e=>h (e▸hm);simp only [Bz,hb];rw [show y=⟨y.key,y.cell⟩ from rfl,Nu hne,ih]
  |false=>
   simp only [Bz,hb,Cb,ih]
theorem A9c (ks js:List Nat)(l:List Ow):Bz ks (Bz js l)=Bz (js++ks) l:=by
 induction l with
 |nil=>rfl
 |cons y l ih=>
  cases hb:Wb y.key js with
  |true=>
   have:Wb y.key (js++ks)=true:=Gt.2 (List.mem_append_left _ (Gt.1 hb))
   simp only [Bz,hb,this,ih]
  |false=>
   cases hc:Wb y.key ks with
   |true=>
    have:Wb y.key (js++ks)=true:=Gt.2 (List.mem_append_right _ (Gt.1 hc))
    simp only [Bz,hb,hc,this,ih]
   |false=>
    have:Wb y.key (js++ks)=false:=by
     cases hd:Wb y.key (js++ks) with
     |false=>rfl
     |true=>
      rcases List.mem_append.1 (Gt.1 hd) with h|h
      ·rw [Gt.2 h] at hb;cases hb
      rw [Gt.2 h] at hc;cases hc
    simp only [Bz,hb,hc,this,ih]
theorem A9b {ks js:List Nat}(h:∀k,k∈ks↔k∈js)(l:List Ow):Bz ks l=Bz js l:=by
 induction l with
 |nil=>rfl
 |cons y l ih=>
  have:Wb y.key ks=Wb y.key js:=by
   rw [Bool.eq_iff_iff,Gt,Gt];exact h _
  simp only [Bz,this,ih]
def Xc (l:List Ai) (i:Nat) (c:Ai):List Ai:=
 match l,i with
 | [],_=>[]
 |_::r,0=>c::r
 |x::r,i+1=>x::Xc r i c
theorem Y7 (c:Ai):∀(l:List Ai) (i:Nat),i<l.length→Xc l i c=Ds l i [c]
 | [],_,h=>absurd h (Nat.not_lt_zero _)
 |x::r,0,_=>by simp [Xc,Ds]
 |x::r,i+1,h=>by
  have:=Y7 c r i (by simpa using h)
  simp only [Xc,this,Ds,List.length_singleton,List.take_succ_cons,List.cons_append,List.drop_succ_cons]
theorem A2b (c:Ai):∀(l:List Ai) (i j:Nat),i≠j→(Xc l i c)[j]? =l[j]?
 | [],_,_,_=>rfl
 |x::r,0,j,h=>by cases j with
  |zero=>exact absurd rfl h
  |succ j=>rfl
 |x::r,i+1,j,h=>by cases j with
  |zero=>rfl
  |succ j=>simpa [Xc] using A2b c r i j Ad
def Ru (own:List Ow) (r:List Ai):List (Nat×Nat)→Option (List Ai)
 | []=>some r
 |(off,k)::ps=>match Cb own k with
  |some c=>Ru own (Xc r off c) ps
  |none=>none
def U9 (links:List (Nat×Value)) (r:List Ai):List (Nat×Nat)→Prop
 | []=>True
 |(off,k)::ps=>(∃v,r[off]? =some (.val v)∧Ed links k=some v)∧U9 links r ps
theorem A2c {links:List (Nat×Value)}{r:List Ai}{off:Nat}{c:Ai}:∀{ps:List (Nat×Nat)},off∉ps.map Prod.fst→U9 links r ps→U9 links (Xc r off c) ps
 | [],_,_=>trivial
 |(o,k)::ps,hn,h=>by
  simp only [List.map_cons,List.mem_cons,not_or] at hn;obtain ⟨⟨v,h1,h2⟩,h3⟩:=h;exact ⟨⟨v,by rw [A2b _ _ _ _ hn.1];exact h1,h2⟩,A2c hn.2 h3⟩
theorem C5n {B:Be}{Q:Exit→Act→World→Prop}{K:List KI}(k jn:Nat){es n:Nat}{row:Nat→List Ai}(hj:jn<n):∀(ps:List (Nat×Nat)) (r r':List Ai) {s:AS}
  (_:Cb s.own k=some (.sl n es (Ga row jn r))) (_:(k::ps.map Prod.snd).Nodup) (_:(ps.map Prod.fst).Nodup) (_:U9 s.links r ps) (_:Ru s.own r ps=some r')
  (_:GW P B Q K {s with own:=⟨k,.sl n es (Ga row jn r')⟩::Bz (k::ps.map Prod.snd) s.own}),GW P B Q K s:=by
 intro ps
 induction ps with
 |nil=>
  intro r r' s hk hn hf ho hc h;obtain rfl:=Option.some.inj hc;exact B9k _ (fun hnd=>A0t _ hnd hk) h
 |cons p ps ih=>
  obtain ⟨off,k2⟩:=p;intro r r' s hk hn hf ho hc h;have hn':=hn;simp only [List.map_cons] at hn hf;obtain ⟨hkk',hn2⟩:=List.nodup_cons.1 hn;obtain ⟨hk2ps,hps⟩:=List.nodup_cons.1 hn2;obtain ⟨hoffps,hfps⟩:=List.nodup_cons.1 hf;have hkk:k≠k2:=fun e=>hkk' (by rw [e];exact List.mem_cons_self ..);have hkps:k∉ps.map Prod.snd:=fun e=>hkk' (List.mem_cons_of_mem _ e);obtain ⟨⟨v,hv1,hv2⟩,ho⟩:=ho;unfold Ru at hc
  split at hc
  ·rename_i c hg
   have hoff:off<r.length:=(List.getElem?_eq_some_iff.1 hv1).1;refine C0m k k2 off hk hj hv1 hg hv2 (by cases hb:Nat.beq k k2 with|false=>rfl|true=>exact absurd (Nat.eq_of_beq_eq_true hb) hkk) (Y7 c r off hoff).symm ?_
   have hrem:Bz (k::ps.map Prod.snd) (⟨k,.sl n es (Ga row jn (Xc r off c))⟩::Bz [k,k2] s.own)=Bz (k::k2::ps.map Prod.snd) s.own:=by
    have a1:Wb k (k::ps.map Prod.snd)=true:=Gt.2 (List.mem_cons_self ..);simp only [Bz,a1];rw [A9c];refine A9b (fun z=>?_) _;generalize ps.map Prod.snd=m;simp only [List.cons_append,List.nil_append,List.mem_cons]
    constructor
    ·rintro (h|h|h|h)
     ·exact .inl h
     ·exact .inr (.inl h)
     ·exact .inl h
     exact .inr (.inr h)
    rintro (h|h|h)
    ·exact .inl h
    ·exact .inr (.inl h)
    exact .inr (.inr (.inr h))
   have hgo:∀z,z∈ps.map Prod.snd→Cb (⟨k,.sl n es (Ga row jn (Xc r off c))⟩::Bz [k,k2] s.own) z=Cb s.own z:=by
    intro z hz;have z1:k≠z:=fun e=>hkps (e▸hz);have z2:k2≠z:=fun e=>hk2ps (e▸hz);rw [Nu z1,B00 (by simp only [List.mem_cons,List.not_mem_nil,or_false];rintro (e|e);exact z1 e.symm;exact z2 e.symm)]
   have hsh:∀(qs:List (Nat×Nat)) (r0:List Ai),(∀z∈qs.map Prod.snd,z∈ps.map Prod.snd)→Ru (⟨k,.sl n es (Ga row jn (Xc r off c))⟩::Bz [k,k2] s.own) r0 qs=Ru s.own r0 qs:=by
    intro qs
    have:∀(own':List Ow),(∀z,z∈ps.map Prod.snd→Cb own' z=Cb s.own z)→∀(r:List Ai),(∀z∈qs.map Prod.snd,z∈ps.map Prod.snd)→Ru own' r qs=Ru s.own r qs:=by
     intro own' ho'
     induction qs with
     |nil=>intro r _;rfl
     |cons q qs ih2=>
      obtain ⟨o2,k3⟩:=q;intro r hz;unfold Ru;rw [ho' k3 (hz k3 C8)]
      split
      ·exact ih2 _ (fun z hz'=>hz z (by simp only [List.map_cons];exact List.mem_cons_of_mem _ hz'))
      rfl
    exact this _ hgo
   refine ih (Xc r off c) r' (s:= {s with own:=⟨k,.sl n es (Ga row jn (Xc r off c))⟩::Bz [k,k2] s.own}) Lw (List.nodup_cons.2 ⟨hkps,hps⟩) hfps (A2c hoffps ho) (by simp only;rw [hsh ps _ (fun _ h=>h)];exact hc) ?_
   simp only
   rw [hrem];exact h
  cases hc
theorem Mf {B:Be}{Q:Exit→Act→World→Prop}{K:List KI}{s:AS}(k jn:Nat)(ps:List (Nat×Nat)){es n:Nat}{row:Nat→List Ai}{r r':List Ai}(c:Ai)(hj:jn<n)
  (hk:Cb s.own k=some (.sl n es (Ga row jn r)))(hn:(Gv (k::ps.map Prod.snd)&&Gv (ps.map Prod.fst))=true)(ho:U9 s.links r ps)(hc:Ru s.own r ps=some r')(hcast:Ii (.sl n es (Ga row jn r')) c)
  (h:GW P B Q K {s with own:=⟨k,c⟩::Bz (k::ps.map Prod.snd) s.own}):GW P B Q K s:=by
 simp only [Bool.and_eq_true] at hn;refine C5n k jn hj ps r r' hk (Eu hn.1) (Eu hn.2) ho hc ?_;refine Es k c Lw hcast ?_;have e1:Nat.beq k k=true:=by simp
 have e2:Ht (Bz (k::ps.map Prod.snd) s.own) k c=Bz (k::ps.map Prod.snd) s.own:=by
  have:∀(l:List Ow),(∀y∈l,y.key≠k)→Ht l k c=l:=by
   intro l
   induction l with
   |nil=>intro _;rfl
   |cons y l ih=>
    intro hl
    have hb:Nat.beq y.key k=false:=by
     cases hb:Nat.beq y.key k with
     |false=>rfl
     |true=>exact absurd (Nat.eq_of_beq_eq_true hb) (hl y C8)
    simp only [Ht,hb,ih (fun z hz=>hl z (List.mem_cons_of_mem _ hz))]
  exact this _ (fun y hy e=>(Cr.1 hy).2 (by rw [e];exact List.mem_cons_self ..))
 simp only [Ht,e1,e2];exact h
theorem Kk (hT:Cs P T){B:Be}{Q:Exit→Act→World→Prop}{q:Bool}{all:Array Oper}{o:Oper}{rest:List Oper}{K:List KI}{s:AS}{x:Operand}{t:TypeId}{i:TI}
  (hg:o.guard=none)(ho:o.op= .load t x)(hi:find T t=some i)(hag:i.agg=false){k es off n jn:Nat}{j:Int}{row:Nat→List Ai}{r:List Ai}{v:Value}
  (hx:s.ev x= .oel k es j off)(hk:Cb s.own k=some (.sl n es row))(hjn:j.toNat=jn)(hr:row jn=r)(hc:r[off]? =some (.val v))
  (h:GW P B Q (.ops q all rest::K) (s.put o.dst (.c (.val v)))):GW P B Q (.ops q all (o::rest)::K) s:=by
 refine ⟨Er hg (fun E a w hs=>?_)⟩;have hm:=Cp hk;obtain ⟨hklt,o2,o3⟩:=hs.own _ hm
 simp only at o2 o3 hklt
 have hev:=hs.ev x;rw [hx] at hev;generalize hv:a.eval x=v' at hev
 cases hev with
 |oel _ b o' n' cap hkl hov h0 hj=>
  rw [hov] at o2;obtain ⟨m,rfl⟩:=Int.eq_ofNat_of_zero_le h0;simp only [Int.toNat_natCast,Int.ofNat_lt] at *;subst hjn;generalize E.fp k=fp at o2
  cases o2 with
  |emp=>exact absurd hj (Nat.not_lt_zero _)
  |sl _ _ _ _ offb _ ty cells fps hn hc' hb hsz hl hr'=>
   have hoff:off<es:=by rw [←hl m hj,hr];exact (List.getElem?_eq_some_iff.1 hc).1
   have hin:=hr' m off _ hj (by rw [hr];exact hc)
   have hcl:(offb+m) * es+off<cells.size:=by
    have:=Fz (show offb+m<offb+cap by omega) hoff
    omega
   have hval:cells.getD ((offb+m) * es+off) undef=v∧v.oneCell'=true:=by
    generalize cells.getD ((offb+m) * es+off) undef=u,fps (m * es+off)=g at hin
    cases hin with
    |val _ h1=>exact ⟨rfl,h1⟩
   obtain ⟨hval,h1v⟩:=hval;refine ⟨v,fun w' hkw=>?_,h.out E _ w (hs.put o.dst (.c (.val v h1v)))⟩;obtain ⟨dst,op',ty',pos,after,guard⟩:=o
   simp only at ho
   subst ho;obtain ⟨f,d,z,S⟩:=TI.of_spec (hT t i hi);have h1:=S.one (by rw [←S.agg];exact hag)
   have hrun:=Hp (hT t i hi) w' b (offb * es+m * es+off) ((List.range i.size).map fun _=>v) C8 (fun p hp=>by
    obtain rfl:p=0:=by omega
    refine hkw.cell ?_;rw [show offb * es+m * es+off+0=(offb+m) * es+off by rw [Nat.add_mul];omega,cell_of_row w b _ cells ty (0,0) hb]
    simp only [h1,List.range_one,List.map_cons,List.map_nil,List.getD_cons_zero];rw [←hval,Array.getD_eq_getD_getElem?]
    simp [hcl])
   simp only [execOp,hv,Instr.loadAt,Instr.sureAddr,Sem.run_bind,Sem.run_pure,Result.andThen_ok,hrun,hag,h1];rfl
theorem Jq (hT:Cs P T){B:Be}{Q:Exit→Act→World→Prop}{q:Bool}{all:Array Oper}{o:Oper}{rest:List Oper}{K:List KI}{s:AS}{x:Operand}{t:TypeId}{i:TI}
  (hg:o.guard=none)(ho:o.op= .load t x)(hi:find T t=some i)(hag:i.agg=false){k es off n jn:Nat}{j:Int}{row:Nat→List Ai}{r:List Ai}{c:Ai}
  (hx:s.ev x= .oel k es j off)(hk:Cb s.own k=some (.sl n es row))(hjn:j.toNat=jn)(hr:row jn=r)(hc:r[off]? =some c)
  (h:∀v,GW P B Q (.ops q all rest::K) (({s with own:=⟨s.next,c⟩::⟨k,.sl n es (Ga row jn (Ds r off [.val v]))⟩::Bz [k] s.own,next:=s.next+1,links:=(s.next,v)::s.links}:AS).put o.dst (.own s.next))):
  GW P B Q (.ops q all (o::rest)::K) s:=by
 subst hjn;refine Cu hT hg ho hi hag hx hk (c:=c) (by rw [hr];exact hc) fun v=>?_
 have:=h v
 rw [←B24 row j.toNat off v hr] at this;exact this
theorem C56 {B:Be}{Q:Exit→Act→World→Prop}{q:Bool}{f:FuncId}{xs:List AV}{dst:Option Tmp}{K:List KI}{s s':AS}(hslots:s'.slots=s.slots)(tr:∀(K':List KI) (sl:List AV),GW P B QF K' {s' with slots:=sl}→GW P B QF K' {s with slots:=sl})
  (h:CW P B Q q f xs dst K s'):CW P B Q q f xs dst K s:=by
 obtain ⟨hc,h⟩:=h;refine ⟨⟨hc,fun E a w hs vs hl hv=>?_⟩⟩
 let a2:Act:= {a with tmps:=a.tmps++vs.toArray}
 have h2:({s with slots:=s.slots++xs}:AS).is B E a2 w:=by
  refine ⟨hs.defers,hs.links,by simp [a2,hs.size,hl],fun i x hx=>?_,hs.boxes,hs.boxes2,hs.keys,hs.own,hs.ownkeys,hs.sep,hs.sepB,hs.one,hs.base,hs.fresh⟩;have hsz:=hs.size
  simp only at hx
  by_cases hi:i<s.slots.length
  ·rw [List.getElem?_append_left hi] at hx
   have:=hs.slots i x hx
   have e:a2.tmps.getD i undef=a.tmps.getD i undef:=by
    rw [←Cg,←Cg];simp only [a2,Array.toList_append,List.getD];rw [List.getElem?_append_left (by simpa [hsz] using hi)]
   rw [e];exact this
  rw [List.getElem?_append_right Ad] at hx
  have:=hv _ x hx
  have e:a2.tmps.getD i undef=vs.getD (i-s.slots.length) undef:=by
   rw [←Cg];simp only [a2,Array.toList_append,List.getD];rw [List.getElem?_append_right (by simp [hsz];omega)]
   simp [hsz]
  rw [e];exact this
 have:=(tr [.loop (fun a' w'=>∃E',({s' with slots:=s.slots++xs}:AS).is B E' a' w')] (s.slots++xs) ⟨fun E' a' w' hs'=>⟨E',hs'⟩⟩).out E a2 w h2
 obtain ⟨E',hs'⟩:=this;have hsz:=hs.size;refine h E' a w ⟨hs.defers,hs'.links,by rw [hslots];exact hs.size,fun i x hx=>?_,hs'.boxes,hs'.boxes2,hs'.keys,hs'.own,hs'.ownkeys,hs'.sep,hs'.sepB,hs'.one,hs'.base,hs'.fresh⟩ vs hl fun i x hx=>?_
 ·rw [hslots] at hx
  have hi:i<s.slots.length:=(List.getElem?_eq_some_iff.1 hx).1
  have:=hs'.slots i x (by simp only;rw [List.getElem?_append_left hi];exact hx)
  have e:a2.tmps.getD i undef=a.tmps.getD i undef:=by
   rw [←Cg,←Cg];simp only [a2,Array.toList_append,List.getD];rw [List.getElem?_append_left (by simpa [hsz] using hi)]
  rw [e] at this;exact this
 have hi:i<xs.length:=(List.getElem?_eq_some_iff.1 hx).1
 have:=hs'.slots (s.slots.length+i) x (by simp only;rw [List.getElem?_append_right Ad];simpa using hx)
 have e:a2.tmps.getD (s.slots.length+i) undef=vs.getD i undef:=by
  rw [←Cg];simp only [a2,Array.toList_append,List.getD];rw [List.getElem?_append_right (by simp [hsz])]
  simp [hsz]
 rw [e] at this;exact this
theorem B10 {B:Be}{Q:Exit→Act→World→Prop}{q:Bool}{f:FuncId}{xs:List AV}{dst:Option Tmp}{K:List KI}{s:AS}(k jn:Nat)(ps:List (Nat×Nat)){es n:Nat}{row:Nat→List Ai}{r r':List Ai}(c:Ai)(hj:jn<n)
  (hk:Cb s.own k=some (.sl n es (Ga row jn r)))(hn:(Gv (k::ps.map Prod.snd)&&Gv (ps.map Prod.fst))=true)(ho:U9 s.links r ps)(hc:Ru s.own r ps=some r')(hcast:Ii (.sl n es (Ga row jn r')) c)
  (h:CW P B Q q f xs dst K {s with own:=⟨k,c⟩::Bz (k::ps.map Prod.snd) s.own}):CW P B Q q f xs dst K s:=
 C56 (s':= {s with own:=⟨k,c⟩::Bz (k::ps.map Prod.snd) s.own}) rfl (fun _ sl g=>Mf (s:= {s with slots:=sl}) k jn ps c hj hk hn ho hc hcast g) h
theorem B52 (P:Program){B:Be}{Q:Exit→Act→World→Prop}{s s':AS}(tr:∀(K':List KI),GW P B QF K' s'→GW P B QF K' s)(h:RW B Q s'):RW B Q s:=
 ⟨fun E a w hs=>(tr [.loop (fun a w=>Q .ret a w)] ⟨fun E a w hs=>h.rec fun g=>g E a w hs⟩).out E a w hs⟩
theorem Ty {B:Be}{Q:Exit→Act→World→Prop}{K:List KI}{s:AS}(k j key:Nat){b:Bx}(hb:Fl s.boxes k=some b)(hj:Hs b.cells j= .own key)
  (h:∀v,GW P B Q K {s with boxes:=F7 s.boxes k (D6 b.cells j (.c (.val v))),links:=(key,v)::s.links}):GW P B Q K s:=by
 refine ⟨fun E a w hs=>?_⟩;obtain ⟨hm,hbk⟩:=F3 hb;obtain ⟨h1,vs,ty,h2,h3,h4⟩:=hs.boxes b hm
 have hlt:key<s.next:=by
  rw [Dc] at hj
  cases hg:b.cells[j]? with
  |none=>rw [hg] at hj;simp at hj
  |some x=>
   rw [hg] at hj;have hx:x= .own key:=by simpa using hj
   subst hx
   have:=h4 j _ hg
   generalize vs.getD j undef=q at this
   cases this with
   |own hk=>exact hk
 have hone:(E.ov key).oneCell'=true:=hs.one key hlt;refine (h (E.ov key)).out E a w ⟨hs.defers,fun p hp=>?_,hs.size,?_,fun x hx=>?_,fun x hx y hy=>?_,by rw [Nb];exact hs.keys,hs.own,hs.ownkeys,hs.sep,fun x hx y hy=>?_,hs.one,hs.base,?_⟩
 ·rcases List.mem_cons.1 hp with rfl|hp
  ·exact ⟨hlt,rfl⟩
  exact hs.links p hp
 all_goals
  have av:∀c,({s with boxes:=F7 s.boxes k (D6 b.cells j (.c (.val (E.ov key)))),links:=(key,E.ov key)::s.links}:AS).avoid E c→s.avoid E c:=by
   rintro c (⟨x,hx,rfl⟩|hc)
   ·rcases F4 hx hs.keys with ⟨e1,_,y,hy,e2⟩|⟨hx,_⟩
    ·exact .inl ⟨y,hy,by rw [e1,e2]⟩
    exact .inl ⟨x,hx,rfl⟩
   exact .inr hc
  have mv:∀x v,Dr E w (s.avoid E) s.next x v→Dr E w (({s with boxes:=F7 s.boxes k (D6 b.cells j (.c (.val (E.ov key)))),links:=(key,E.ov key)::s.links}:AS).avoid E) s.next x v:=fun x v hx=>
   hx.move (Nat.le_refl _) (fun _ _=>⟨rfl,rfl⟩) (fun _ _ _=>rfl) (fun b _ hb=>av b hb)
 ·exact fun i x hx=>mv _ _ (hs.slots i x hx)
 ·rcases F4 hx hs.keys with ⟨e1,e2,_⟩|⟨hx,_⟩
  ·rw [e1,e2]
   refine ⟨by rw [←hbk];exact h1,vs,ty,by rw [←hbk];exact h2,by rw [Cn];exact h3,fun i y hy=>?_⟩;rw [Dv] at hy
   split at hy
   ·rename_i hm'
    obtain ⟨rfl,hm'⟩:=hm';obtain rfl:=Option.some.inj hy
    have:=h4 j (.own key) (by rw [Dc,List.getElem?_eq_getElem hm'] at hj;rw [List.getElem?_eq_getElem hm'];simpa using hj)
    generalize vs.getD j undef=q at this
    cases this with
    |own hk=>exact .c (.val _ hone)
   exact mv _ _ (h4 i y hy)
  obtain ⟨g1,vs',ty',g2,g3,g4⟩:=hs.boxes x hx;exact ⟨g1,vs',ty',g2,g3,fun i y hy=>mv _ _ (g4 i y hy)⟩
 ·intro e
  have kx:∃x'∈s.boxes,x'.key=x.key:=by
   rcases F4 hx hs.keys with ⟨e1,_,y,hy,e2⟩|⟨hx,_⟩
   ·exact ⟨y,hy,by rw [e1,e2]⟩
   exact ⟨x,hx,rfl⟩
  have ky:∃x'∈s.boxes,x'.key=y.key:=by
   rcases F4 hy hs.keys with ⟨e1,_,y',hy',e2⟩|⟨hy,_⟩
   ·exact ⟨y',hy',by rw [e1,e2]⟩
   exact ⟨y,hy,rfl⟩
  obtain ⟨x',hx',ex⟩:=kx;obtain ⟨y',hy',ey⟩:=ky;rw [←ex,←ey];exact hs.boxes2 x' hx' y' hy' (by rw [ex,ey];exact e)
 ·rcases F4 hx hs.keys with ⟨e1,_,z,hz,e2⟩|⟨hx,_⟩
  ·rw [e1,←e2];exact hs.sepB z hz y hy
  exact hs.sepB x hx y hy
 exact fun c hc=>hs.fresh c (av c hc)
theorem Tv {B:Be}{Q:Exit→Act→World→Prop}{K:List KI}{s:AS}(k j key:Nat){b:Bx}{v:Value}(hb:Fl s.boxes k=some b)(hj:Hs b.cells j= .c (.val v))(hl:Ed s.links key=some v)
  (h:GW P B Q K {s with boxes:=F7 s.boxes k (D6 b.cells j (.own key))}):GW P B Q K s:=by
 refine ⟨fun E a w hs=>?_⟩;obtain ⟨hm,hbk⟩:=F3 hb;obtain ⟨h1,vs,ty,h2,h3,h4⟩:=hs.boxes b hm;obtain ⟨hlt,hov⟩:=hs.links _ (Fy hl);have hov:E.ov key=v:=hov
 have av:∀c,({s with boxes:=F7 s.boxes k (D6 b.cells j (.own key))}:AS).avoid E c→s.avoid E c:=by
  rintro c (⟨x,hx,rfl⟩|hc)
  ·rcases F4 hx hs.keys with ⟨e1,_,y,hy,e2⟩|⟨hx,_⟩
   ·exact .inl ⟨y,hy,by rw [e1,e2]⟩
   exact .inl ⟨x,hx,rfl⟩
  exact .inr hc
 have mv:∀x v,Dr E w (s.avoid E) s.next x v→Dr E w (({s with boxes:=F7 s.boxes k (D6 b.cells j (.own key))}:AS).avoid E) s.next x v:=fun x v hx=>
  hx.move (Nat.le_refl _) (fun _ _=>⟨rfl,rfl⟩) (fun _ _ _=>rfl) (fun b _ hb=>av b hb)
 have kx:∀x∈F7 s.boxes k (D6 b.cells j (.own key)),∃x'∈s.boxes,x'.key=x.key:=fun x hx=>by
  rcases F4 hx hs.keys with ⟨e1,_,y,hy,e2⟩|⟨hx,_⟩
  ·exact ⟨y,hy,by rw [e1,e2]⟩
  exact ⟨x,hx,rfl⟩
 refine h.out E a w ⟨hs.defers,hs.links,hs.size,fun i x hx=>mv _ _ (hs.slots i x hx),fun x hx=>?_,fun x hx y hy e=>?_,by rw [Nb];exact hs.keys,hs.own,hs.ownkeys,hs.sep,fun x hx y hy=>?_,hs.one,hs.base,fun c hc=>hs.fresh c (av c hc)⟩
 ·rcases F4 hx hs.keys with ⟨e1,e2,_⟩|⟨hx,_⟩
  ·rw [e1,e2]
   refine ⟨by rw [←hbk];exact h1,vs,ty,by rw [←hbk];exact h2,by rw [Cn];exact h3,fun i y hy=>?_⟩;rw [Dv] at hy
   split at hy
   ·rename_i hm'
    obtain ⟨rfl,hm'⟩:=hm';obtain rfl:=Option.some.inj hy
    have:=h4 j (.c (.val v)) (by rw [Dc,List.getElem?_eq_getElem hm'] at hj;rw [List.getElem?_eq_getElem hm'];simpa using hj)
    rw [Bo this,←hov];exact .own hlt
   exact mv _ _ (h4 i y hy)
  obtain ⟨g1,vs',ty',g2,g3,g4⟩:=hs.boxes x hx;exact ⟨g1,vs',ty',g2,g3,fun i y hy=>mv _ _ (g4 i y hy)⟩
 ·obtain ⟨x',hx',ex⟩:=kx x hx
  obtain ⟨y',hy',ey⟩:=kx y hy;rw [←ex,←ey];exact hs.boxes2 x' hx' y' hy' (by rw [ex,ey];exact e)
 obtain ⟨x',hx',ex⟩:=kx x hx;rw [←ex];exact hs.sepB x' hx' y hy
theorem Fp (P:Program){B:Be}{Q:Exit→Act→World→Prop}{s:AS}(k jn:Nat)(ps:List (Nat×Nat)){es n:Nat}{row:Nat→List Ai}{r r':List Ai}(c:Ai)(hj:jn<n)
  (hk:Cb s.own k=some (.sl n es (Ga row jn r)))(hn:(Gv (k::ps.map Prod.snd)&&Gv (ps.map Prod.fst))=true)(ho:U9 s.links r ps)(hc:Ru s.own r ps=some r')(hcast:Ii (.sl n es (Ga row jn r')) c)
  (h:RW B Q {s with own:=⟨k,c⟩::Bz (k::ps.map Prod.snd) s.own}):RW B Q s:=
 B52 P (s':= {s with own:=⟨k,c⟩::Bz (k::ps.map Prod.snd) s.own}) (fun _ g=>Mf k jn ps c hj hk hn ho hc hcast g) h
variable {ops : Array Oper}
def A5f (ops:Array Oper) (listed:Array Bool):Bool:=
 (List.range ops.size).all fun j=>!listed.getD j false||match ops[j]? with
  |some o=>o.after.toList.all fun e=>!Region.binds .any e||listed.getD e.on false
  |none=>true
theorem Mi {listed:Array Bool}(h:A5f ops listed=true):Ni ops listed:=by
 intro j o ho hl e he hb
 have:=List.all_eq_true.1 h j (List.mem_range.2 (Array.getElem?_eq_some_iff.1 ho).1)
 simp only [hl,ho,Bool.not_true,Bool.false_or] at this
 have:=List.all_eq_true.1 this e (Array.mem_toList_iff.2 he)
 simpa [hb] using this
theorem Cl {B:Be}{N:Act→World→Prop}{fuel:Nat}{listed:Array Bool}{s s':AS}(i:Nat){o:Oper}(hi:ops[i]? =some o)
  (hb:(Nat.beq (Eb o.op) 0&&Region.noSelect ops&&(Region.ready .any ops listed).contains i&&B77 ops listed i o&&A5f ops listed)=true)
  (ht:GW P B QF [.ops true ops [o],.loop (fun a w=>∃E,s'.is B E a w)] s)(h:BW P B N ops fuel (listed.setIfInBounds i true) s'):BW P B N ops (fuel+1) listed s:=by
 simp only [Bool.and_eq_true,List.contains_iff_mem] at hb;obtain ⟨⟨⟨⟨h0,h1⟩,h2⟩,h3⟩,h4⟩:=hb;have h0:=Nat.eq_of_beq_eq_true h0;refine ⟨fun E a w hs=>?_⟩;have hg:Gj P ops (fun a w=>∃E,s'.is B E a w) [o] a w:=ht.out E a w hs
 have hfree:∀j oj,ops[j]? =some oj→j≠i→listed.getD j true=false→Ud ops ops.size j i=true∨(o.apart ops oj=true∧(Mw o.op=true∨Eb oj.op≤1)):=by
  intro j oj hoj hji hun
  have:=List.all_eq_true.1 h3 j (List.mem_range.2 (Array.getElem?_eq_some_iff.1 hoj).1)
  simp only [hoj,hun,Bool.or_false,Bool.or_eq_true,beq_iff_eq,hji,false_or,Bool.and_eq_true] at this;exact this.symm.imp id fun ⟨h1,h2⟩=>⟨h1,h2.imp id fun h=>Nat.le_of_ble_eq_true h⟩
 unfold Gj at hg
 by_cases hw:Region.wanted o (yielded ops a.tmps)=true
 ·rw [if_pos hw] at hg
  rcases hg with ⟨v,hv,hn⟩|⟨hk,_⟩
  ·obtain ⟨E',hs'⟩:=hn
   exact Mv hi (Region.noSelect_spec h1) ops.size fuel listed a w (Mi h4) hfree h2 (.inl ⟨hw,fun w' hw'=>hw'.elim (fun hb=>S4 hb a.eval (hv w (Ez.refl w))) (hv w')⟩) (h.out E' _ w hs')
  exact absurd h0 hk
 rw [if_neg hw] at hg;obtain ⟨E',hs'⟩:=hg;exact Mv hi (Region.noSelect_spec h1) ops.size fuel listed a w (Mi h4) hfree h2 (.inr ⟨by simpa using hw,rfl⟩) (h.out E' _ w hs')
theorem Xh (hT:Cs P T){B:Be}{Q:Exit→Act→World→Prop}{q:Bool}{all:Array Oper}{o:Oper}{rest:List Oper}{K:List KI}{s:AS}{t e:TypeId}{x:Operand}{lo hi:Option Operand}{i j:TI}
  (hg:o.guard=none)(ho:o.op= .slice t x lo hi none)(hi':find T t=some i)(he:i.elem=some e)(hj:find T e=some j)
  {k n es:Nat}{row:Nat→List Ai}(hx:s.ev x= .own k)(hk:Cb s.own k=some (.sl n es row))(hes:es=j.size){l h:Int}(hl:bnd s lo 0=some l)(hh:bnd s hi n=some h)
  (hb:0≤l∧l≤h∧h≤n)(c:Ai)(hc:Ze n es row l h c)
  (hgo:GW P B Q (.ops q all rest::K) (({s with own:=⟨s.next,c⟩::Bz [k] s.own,next:=s.next+1}:AS).put o.dst (.own s.next))):GW P B Q (.ops q all (o::rest)::K) s:=by
 subst hes;refine ⟨Er hg (fun E a w hs=>?_)⟩;have hd:=hs.ev x;rw [hx] at hd;have hm:=Cp hk;obtain ⟨hklt,o2,o3⟩:=hs.own _ hm
 simp only at o2 o3 hklt
 have h1:=Kf hs hl;have h2:=Kf hs hh
 have hv:a.eval x=E.ov k:=by
  generalize a.eval x=v at hd
  cases hd with
  |own _=>rfl
 have key:∃ad cap fp',E.ov k= .slice ad n cap∧n≤cap∧D3 w c (sliced ad l.toNat h.toNat cap j.size) fp'∧fp'.Nodup∧∀b∈fp',b∈E.fp k:=by
  obtain ⟨row',rfl,hrow⟩:=hc;generalize E.ov k=u,E.fp k=fp at o2 o3 ⊢;obtain ⟨p,rfl⟩:∃p:Nat,l=p:=⟨l.toNat,by omega⟩;obtain ⟨q,rfl⟩:∃q:Nat,h=q:=⟨h.toNat,by omega⟩;have e:((q:Int)-p).toNat=q-p:=by omega
  simp only [Int.toNat_natCast] at hrow ⊢;rw [e] at hrow ⊢
  cases o2 with
  |nil=>
   have e1:p=0:=by omega
   have e2:q=0:=by omega
   subst e1;subst e2;exact ⟨none,0,[],rfl,Nat.le_refl _,.nil _ _,by simp,by simp⟩
  |emp _ _ b0 o0=>
   have e1:p=0:=by omega
   have e2:q=0:=by omega
   subst e1;subst e2;exact ⟨_,0,[],rfl,Nat.le_refl _,.emp _ _ _ _,by simp,by simp⟩
  |sl _ _ _ b offb cap ty cells fps hn hcp hbk hcs hl' hr=>
   obtain ⟨f1,f2⟩:=List.nodup_cons.1 o3;obtain ⟨f3,f4⟩:=Cw.1 f2;have hpq:p≤q:=by omega
   have hqn:q≤n:=by omega
   refine ⟨some ⟨b,offb * j.size,none⟩,cap,?_⟩
   by_cases hcl:cap=p
   ·refine ⟨[],rfl,hn,?_,by simp,by simp⟩
    have e1:q-p=0:=by omega
    unfold sliced;rw [if_pos hcl,e1,show cap-p=0 by omega]
    exact .emp _ _ _ _
   have ea:(some (⟨b,offb * j.size,none⟩:Addr)).map (·.add (p * j.size))=some ⟨b,(offb+p) * j.size,none⟩:=by
    simp only [Option.map_some,Hh,Nat.add_mul]
   refine ⟨b::(List.range ((q-p) * j.size)).flatMap (fun i=>fps (p * j.size+i)),rfl,hn,?_,?_,?_⟩
   ·unfold sliced
    rw [if_neg hcl,ea];refine .sl (q-p) j.size row' b (offb+p) (cap-p) ty cells (fun i=>fps (p * j.size+i)) Ad Ad hbk (by rw [show offb+p+(cap-p)=offb+cap by omega];exact hcs) (fun i hi=>by rw [hrow i hi];exact hl' _ Ad) (fun i m c hi hm=>?_)
    rw [hrow i hi] at hm
    have:=hr (p+i) m c Ad hm
    rw [show (p+i) * j.size+m=p * j.size+(i * j.size+m) by rw [Nat.add_mul];omega,show offb+(p+i)=offb+p+i by omega] at this
    exact this
   ·have hin:∀i,i<(q-p) * j.size→p * j.size+i<n * j.size:=fun i hi=>by
     have h1:(q-p) * j.size≤(n-p) * j.size:=Nat.mul_le_mul_right _ Ad;have h2:p * j.size+(n-p) * j.size=n * j.size:=by rw [←Nat.add_mul];congr 1;omega
     omega
    refine List.nodup_cons.2 ⟨fun hm=>?_,Cw.2 ⟨fun i hi=>f3 _ (List.mem_range.2 (hin i (List.mem_range.1 hi))),?_⟩⟩
    ·obtain ⟨i,hi,hm⟩:=List.mem_flatMap.1 hm
     exact f1 (Ek (hin i (List.mem_range.1 hi)) hm)
    refine List.pairwise_iff_getElem.2 (fun i m hi hm him z hz hz'=>?_);simp only [List.length_range] at hi hm;simp only [List.getElem_range] at hz hz';have hp:=List.pairwise_iff_getElem.1 f4 (p * j.size+i) (p * j.size+m) (by simpa using hin i hi) (by simpa using hin m hm) Ad z;simp only [List.getElem_range] at hp;exact hp hz hz'
   intro z hz
   rcases List.mem_cons.1 hz with rfl|hz
   ·simp
   obtain ⟨i,hi,hz⟩:=List.mem_flatMap.1 hz;refine List.mem_cons_of_mem _ (Ek ?_ hz);have h1:(q-p) * j.size≤(n-p) * j.size:=Nat.mul_le_mul_right _ Ad;have h2:p * j.size+(n-p) * j.size=n * j.size:=by rw [←Nat.add_mul];congr 1;omega
   have:=List.mem_range.1 hi
   omega
 obtain ⟨ad,cap,fp',hov,hcap,hrep,hnd,hsub⟩:=key;have hI:=hs.drop [k]
 obtain ⟨k1,k2⟩:=hI.addOwn hrep hnd (fun z hz=>by
  have hzk:=hsub z hz;have hav:s.avoid E z:= .inr ⟨_,hm,hzk⟩;refine ⟨hav,?_,hs.fresh z hav⟩
  rintro (⟨r,hr',rfl⟩|⟨r,hr',hz'⟩)
  ·exact hs.sepB r hr' _ hm hzk
  obtain ⟨q1,q2⟩:=Cr.1 hr'
  exact hs.sep _ hm r q1 (fun e=>q2 (by simp at e;simp [e])) z hzk hz')
 refine ⟨_,fun w' _=>?_,hgo.out _ _ w ((k1.put o.dst k2).is)⟩;have hrun:=Yy (a:=ad) (hT t i hi') he (hT e j hj) h1 h2 hb.1 hb.2.1 hb.2.2 hcap w';obtain ⟨dst,op',ty,pos,after,guard⟩:=o
 simp only at ho
 subst ho
 simp [execOp,hv,hov,hrun]
end Go.Sx
set_option maxRecDepth 100000
namespace Go.Sx
open Go
variable {P : Program} {ops : Array Oper}
theorem Xp {α:Sort _}{B:Be}{s:α→AS}(v:α):GW P B QF [.loop (fun a w=>∃v E,(s v).is B E a w)] (s v):=⟨fun E _ _ hs=>⟨v,E,hs⟩⟩
theorem Rl {α:Sort _}{B:Be}{N:Act→World→Prop}{fuel:Nat}{listed:Array Bool}{s:AS}{s':α→AS}(i:Nat){o:Oper}(hi:ops[i]? =some o)
  (hb:(Nat.beq (Eb o.op) 0&&Region.noSelect ops&&(Region.ready .any ops listed).contains i&&B77 ops listed i o&&A5f ops listed)=true)
  (ht:GW P B QF [.ops true ops [o],.loop (fun a w=>∃v E,(s' v).is B E a w)] s)(h:∀v,BW P B N ops fuel (listed.setIfInBounds i true) (s' v)):BW P B N ops (fuel+1) listed s:=by
 simp only [Bool.and_eq_true,List.contains_iff_mem] at hb;obtain ⟨⟨⟨⟨h0,h1⟩,h2⟩,h3⟩,h4⟩:=hb;have h0:=Nat.eq_of_beq_eq_true h0;refine ⟨fun E a w hs=>?_⟩;have hg:Gj P ops (fun a w=>∃v E,(s' v).is B E a w) [o] a w:=ht.out E a w hs
 have hfree:∀j oj,ops[j]? =some oj→j≠i→listed.getD j true=false→Ud ops ops.size j i=true∨(o.apart ops oj=true∧(Mw o.op=true∨Eb oj.op≤1)):=by
  intro j oj hoj hji hun
  have:=List.all_eq_true.1 h3 j (List.mem_range.2 (Array.getElem?_eq_some_iff.1 hoj).1)
  simp only [hoj,hun,Bool.or_false,Bool.or_eq_true,beq_iff_eq,hji,false_or,Bool.and_eq_true] at this;exact this.symm.imp id fun ⟨h1,h2⟩=>⟨h1,h2.imp id fun h=>Nat.le_of_ble_eq_true h⟩
 unfold Gj at hg
 by_cases hw:Region.wanted o (yielded ops a.tmps)=true
 ·rw [if_pos hw] at hg
  rcases hg with ⟨v,hv,hn⟩|⟨hk,_⟩
  ·obtain ⟨u,E',hs'⟩:=hn
   exact Mv hi (Region.noSelect_spec h1) ops.size fuel listed a w (Mi h4) hfree h2 (.inl ⟨hw,fun w' hw'=>hw'.elim (fun hb=>S4 hb a.eval (hv w (Ez.refl w))) (hv w')⟩) ((h u).out E' _ w hs')
  exact absurd h0 hk
 rw [if_neg hw] at hg;obtain ⟨u,E',hs'⟩:=hg;exact Mv hi (Region.noSelect_spec h1) ops.size fuel listed a w (Mi h4) hfree h2 (.inr ⟨by simpa using hw,rfl⟩) ((h u).out E' _ w hs')
theorem A1l {B:Be}{Q:Exit→Act→World→Prop}{K:List KI}{s:AS}(k j:Nat){b:Bx}{v:Value}(hb:Fl s.boxes k=some b)(hj:Hs b.cells j= .c (.val v))(h:Ho [v]=true→GW P B Q K s):GW P B Q K s:=by
 refine ⟨fun E a w hs=>?_⟩;obtain ⟨hm,hbk⟩:=F3 hb;obtain ⟨h1,vs,ty,h2,h3,h4⟩:=hs.boxes b hm
 have ho:v.oneCell'=true:=by
  rw [Dc] at hj
  cases hg:b.cells[j]? with
  |none=>rw [hg] at hj;simp at hj
  |some x=>
   rw [hg] at hj;have hx:x= .c (.val v):=by simpa using hj
   subst hx
   have:=h4 j _ hg
   have e:=Bo this;rw [e] at this;exact this.cell1 rfl hs.one
 have ho:Ho [v]=true:=by
  cases v<;>first|rfl|cases ho
 exact (h ho).out E a w hs
theorem C3q {B:Be}{fn:Func}{R:Ending→World→Prop}{s:AS}(h:RW B (bodyPost P fn R) s):GW P B (bodyPost P fn R) [] s:=
 ⟨fun E a w hs=>by
  have g:bodyPost P fn R .ret a w:=h.rec fun g=>g E a w hs
  exact g⟩
end Go.Sx
set_option maxRecDepth 100000
namespace Go.Sx
open Go
variable {P : Program} {T : List (TypeId × TI)}
def Gg (n:Nat) (row:Nat→List Ai):List AV:=(List.range n).flatMap fun i=>(row i).map AV.c
theorem Lf {n es:Nat}{row:Nat→List Ai}(hl:∀i,i<n→(row i).length=es):(Gg n row).length=n * es:=by
 unfold Gg
 induction n with
 |zero=>simp
 |succ n ih=>
  rw [List.range_succ,List.flatMap_append,List.length_append,ih (fun i hi=>hl i Ad)]
  simp [hl n (Nat.lt_succ_self n),Nat.succ_mul]
theorem U4 {n es:Nat}{row:Nat→List Ai}(hl:∀i,i<n→(row i).length=es){i j:Nat}(hi:i<n)(hj:j<es):(Gg n row)[i * es+j]? =((row i)[j]?).map AV.c:=by
 unfold Gg
 induction n with
 |zero=>omega
 |succ n ih=>
  have hlen:=Lf (n:=n) (row:=row) (es:=es) (fun i hi=>hl i Ad);unfold Gg at hlen;rw [List.range_succ,List.flatMap_append]
  by_cases h:i<n
  ·have:=Fz h hj
   rw [List.getElem?_append_left Ad];exact ih (fun i hi=>hl i Ad) h
  obtain rfl:i=n:=by omega
  rw [List.getElem?_append_right Ad,hlen]
  simp
theorem Rr {n es:Nat}{row:Nat→List Ai}(hl:∀i,i<n→(row i).length=es){m:Nat}{x:AV}(h:(Gg n row)[m]? =some x):∃i j c,i<n∧j<es∧m=i * es+j∧(row i)[j]? =some c∧x= .c c:=by
 have hm:m<n * es:=by rw [←Lf hl];exact (List.getElem?_eq_some_iff.1 h).1
 have he:0<es:=Nat.pos_of_ne_zero (fun e=>by subst e;simp at hm);have hi:m / es<n:=Nat.div_lt_of_lt_mul (by rw [Nat.mul_comm];exact hm);have hj:m % es<es:=Nat.mod_lt _ he;have hmm:m / es * es+m % es=m:=by rw [Nat.mul_comm];exact Nat.div_add_mod m es
 rw [←hmm,U4 hl hi hj] at h;rw [Option.map_eq_some_iff] at h;obtain ⟨c,hc,rfl⟩:=h;exact ⟨m / es,m % es,c,hi,hj,hmm.symm,hc,rfl⟩
def Ob (b:Nat):Value:= .pointer (some ⟨b,0,none⟩)
def Ll (b o n cap:Nat):Value:= .slice (some ⟨b,o,none⟩) n cap
theorem C2w {B:Be}{Q:Exit→Act→World→Prop}{K:List KI}{s:AS}(k:Nat){n es:Nat}{row:Nat→List Ai}(hk:Cb s.own k=some (.sl n es row))(hn:0<n)(hf:F5 n row)
  (h:∀(b off cap:Nat) (pre D5:List AV),pre.length=off * es→n≤cap→cap≤maxLen→(cap-n) * es≤D5.length→
   GW P B Q K {s with own:=Bz [k] s.own,next:=s.next+1,boxes:=⟨s.next,pre++Gg n row++D5⟩::s.boxes,links:=(s.next,Ob b)::(k,Ll b (off * es) n cap)::s.links}):GW P B Q K s:=by
 refine ⟨fun E a w hs=>?_⟩;have hm:=Cp hk;obtain ⟨hklt,o2,o3⟩:=hs.own _ hm
 simp only at o2 o3 hklt
 generalize hov:E.ov k=ovk,hfp:E.fp k=fp at o2 o3
 cases o2 with
 |nil=>omega
 |emp=>omega
 |sl _ _ _ b off cap ty cells fps hnc hcp hb hcs hl hr=>
  have hI:=hs.drop [k];have kE:=E7.with_keep E s.next b;have hbk:s.avoid E b:= .inr ⟨_,hm,by rw [hfp];simp⟩
  have nav:¬ ({s with own:=Bz [k] s.own}:AS).avoid E b:=by
   rintro (⟨r,hr',he⟩|⟨r,hr',hz'⟩)
   ·exact hs.sepB r hr' _ hm (by rw [he,hfp];simp)
   obtain ⟨q1,q2⟩:=Cr.1 hr';exact hs.sep _ hm r q1 (fun e=>q2 (by simp at e;simp [e])) b (by rw [hfp];simp) hz'
  let s1:AS:= {s with own:=Bz [k] s.own,next:=s.next+1,links:=(s.next,Ob b)::(k,Ll b (off * es) n cap)::s.links}
  have hA1:s1.isA B (E.with s.next b) (s.avoid E) a w:=by
   have mv:∀x v,Dr E w (s.avoid E) s.next x v→Dr (E.with s.next b) w (s.avoid E) (s.next+1) x v:=fun x v hx=>hx.move (Nat.le_succ _) kE (fun _ _ _=>rfl) (fun _ _ h=>h);have kb:∀x∈s.boxes,(E.with s.next b).β x.key=E.β x.key:=fun x hx=>(kE _ (hs.boxes x hx).1).1
   have av:∀c,s1.avoid (E.with s.next b) c→({s with own:=Bz [k] s.own}:AS).avoid E c:=by
    rintro c (⟨x,hx,hc⟩|hc)
    ·exact .inl ⟨x,hx,by rw [←kb x hx];exact hc⟩
    exact .inr hc
   refine ⟨hs.defers,fun p hp=>?_,hs.size,fun i x hx=>mv _ _ (hs.slots i x hx),fun x hx=>?_,fun x hx y hy e=>hs.boxes2 x hx y hy (by rw [←kb x hx,←kb y hy];exact e),hs.keys,fun y hy=>?_,hI.ownkeys,hI.sep,fun x hx y hy=>?_,fun j hj=>?_,hs.base,fun c hc=>hI.fresh c (av c hc),fun c hc=>hI.sub c (av c hc)⟩
   ·rcases List.mem_cons.1 hp with rfl|hp
    ·exact ⟨Nat.lt_succ_self _,by simp [E7.with,Ob]⟩
    rcases List.mem_cons.1 hp with rfl|hp
    ·exact ⟨Nat.lt_succ_of_lt hklt,by rw [(kE _ hklt).2,hov];rfl⟩
    exact ⟨Nat.lt_succ_of_lt (hs.links p hp).1,by rw [(kE _ (hs.links p hp).1).2];exact (hs.links p hp).2⟩
   ·obtain ⟨g1,ws,ty',g2,g3,g4⟩:=hs.boxes x hx
    exact ⟨Nat.lt_succ_of_lt g1,ws,ty',by rw [kb x hx];exact g2,g3,fun i y hy=>mv _ _ (g4 i y hy)⟩
   ·obtain ⟨g1,g2,g3⟩:=hI.own y hy
    exact ⟨Nat.lt_succ_of_lt g1,by rw [(kE _ g1).2];exact g2,g3⟩
   ·rw [kb x hx];exact hI.sepB x hx y hy
   by_cases e:j=s.next
   ·subst e;simp [E7.with,Value.oneCell']
   have hj':j<s.next:=by have:j<s.next+1:=hj;omega
   rw [(kE _ hj').2];exact hs.one j hj'
  have nav1:¬ s1.avoid (E.with s.next b) b:=by
   intro hc;refine nav ?_
   rcases hc with ⟨x,hx,hc⟩|hc
   ·exact .inl ⟨x,hx,by rw [←(kE _ (hs.boxes x hx).1).1];exact hc⟩
   exact .inr hc
  let pre:List AV:=List.replicate (off * es) .any
  let D5:List AV:=List.replicate (cells.size-(off+n) * es) .any
  have hle:(off+n) * es≤cells.size:=Nat.le_trans (Nat.mul_le_mul_right _ Ad) hcs;have hll:=Lf hl
  have hlen:(pre++Gg n row++D5).length=cells.size:=by
   simp only [pre,D5,List.length_append,List.length_replicate,hll,Nat.add_mul] at hle ⊢;omega
  have hB1:=hA1.addBox (k:=s.next) (Nat.lt_succ_self _) (fun x hx e=>by have:=(hs.boxes x hx).1;omega) (cells:=pre++Gg n row++D5) (vs:=cells) (ty:=ty) (by rw [E7.with_self];exact hb) hlen.symm
   (fun i y hy=>by
    by_cases h1:i<off * es
    ·rw [List.append_assoc,List.getElem?_append_left (by simpa [pre] using h1)] at hy
     have:y= .any:=by simp [pre,List.getElem?_replicate,h1] at hy;exact hy.symm
     rw [this];exact .any _
    rw [List.append_assoc,List.getElem?_append_right (by simpa [pre] using Nat.le_of_not_lt h1)] at hy;simp only [pre,List.length_replicate] at hy
    by_cases h2:i-off * es<n * es
    ·rw [List.getElem?_append_left (by rw [hll];exact h2)] at hy
     obtain ⟨i',j',c,hi',hj',hm',hc,rfl⟩:=Rr hl hy
     have:=hr i' j' c hi' hc
     obtain ⟨x,rfl⟩:=hf i' hi' c (List.mem_of_getElem? hc);rw [show (off+i') * es+j'=i by rw [Nat.add_mul];omega] at this
     generalize cells.getD i undef=u,fps (i' * es+j')=g at this
     cases this with
     |val _ h1=>exact .c (.val _ h1)
    rw [List.getElem?_append_right (by rw [hll];omega)] at hy
    have:y= .any:=by
     have:=List.mem_of_getElem? hy
     exact List.eq_of_mem_replicate this
    rw [this];exact .any _)
   (by rw [E7.with_self];exact nav1) (by rw [E7.with_self];exact hbk) (by rw [E7.with_self];exact hs.fresh b hbk)
  exact (h b off cap pre D5 (by simp [pre]) hnc hcp (by
   simp only [D5,List.length_replicate]
   have:(off+cap) * es=(off+n) * es+(cap-n) * es:=by rw [←Nat.add_mul];congr 1;omega
   omega)).out _ a w hB1.is
theorem N6 {B:Be}{Q:Exit→Act→World→Prop}{K:List KI}{s:AS}(i k:Nat){v:Value}(hl:Ed s.links k=some v)(hi:Hs s.slots i= .own k)(h:GW P B Q K {s with slots:=D6 s.slots i (.c (.val v))}):GW P B Q K s:=by
 refine ⟨fun E a w hs=>h.rec fun g=>g E a w ⟨hs.defers,hs.links,by rw [hs.size];exact (Cn _ _ _).symm,fun m z hz=>?_,hs.boxes,hs.boxes2,hs.keys,hs.own,hs.ownkeys,hs.sep,hs.sepB,hs.one,hs.base,hs.fresh⟩⟩
 simp only at hz
 rw [Dv] at hz
 split at hz
 ·rename_i hm
  obtain ⟨rfl,hm⟩:=hm;obtain rfl:=Option.some.inj hz;have hd:=hs.slots i (.own k) (by rw [Dc,List.getElem?_eq_getElem hm] at hi;rw [List.getElem?_eq_getElem hm];simpa using hi);obtain ⟨h1,h2⟩:=hs.links _ (Fy hl);have h2:E.ov k=v:=h2;have h1':k<s.next:=h1;generalize a.tmps.getD i undef=u at hd
  cases hd with
  |own _=>rw [h2];exact .c (.val _ (by rw [←h2];exact hs.one k h1'))
 exact hs.slots m z hz
theorem C5i {B:Be}{Q:Exit→Act→World→Prop}{K:List KI}{s:AS}(i kb:Nat){bx:Bx}{b off n es cap:Nat}(row:Nat→List Ai)(pre D5:List AV)(hb:Fl s.boxes kb=some bx)(hc:bx.cells=pre++Gg n row++D5)(hpre:pre.length=off * es)
  (hrow:∀i,i<n→(row i).length=es)(hf:F5 n row)(hn:n≤cap)(hcap:cap≤maxLen)(hpost:(cap-n) * es≤D5.length)(hl:Ed s.links kb=some (Ob b))(hi:Hs s.slots i= .c (.val (Ll b (off * es) n cap)))
  (h:GW P B Q K {s with boxes:=Ro kb s.boxes,own:=⟨s.next,.sl n es row⟩::s.own,next:=s.next+1,slots:=D6 s.slots i (.own s.next)}):GW P B Q K s:=by
 refine ⟨fun E a w hs=>?_⟩;obtain ⟨hm,rfl⟩:=F3 hb;obtain ⟨h1,vs,ty,h2,h3,h4⟩:=hs.boxes bx hm;obtain ⟨hlk,hov⟩:=hs.links _ (Fy hl);have hov:E.ov bx.key=Ob b:=hov;have hβ:E.β bx.key=b:=by unfold E7.β;rw [hov];rfl
 rw [hβ] at h2;have hI:=hs.dropP bx.key [];have hrem:Bz [] s.own=s.own:=Sg _;have hav:s.avoid E b:= .inl ⟨bx,hm,hβ⟩
 have nav:¬ (Sx.dropP bx.key [] s).avoid E b:=by
  rintro (⟨x,hx,hc'⟩|⟨y,hy,hc'⟩)
  ·obtain ⟨q1,q2⟩:=Ko.1 hx
   exact q2 (hs.boxes2 x q1 bx hm (by rw [hβ];exact hc'))
  exact hs.sepB bx hm y (Cr.1 hy).1 (by rw [hβ];exact hc')
 have hll:=Lf hrow
 have hsz:(off+cap) * es≤vs.size:=by
  rw [h3,hc];simp only [List.length_append,hpre,hll,Nat.add_mul]
  have:(cap-n) * es+n * es=cap * es:=by rw [←Nat.add_mul];congr 1;omega
  omega
 have hown:D3 w (.sl n es row) (Ll b (off * es) n cap) (b::(List.range (n * es)).flatMap fun _=>[]):=by
  refine .sl n es row b off cap ty vs (fun _=>[]) hn hcap h2 hsz hrow (fun i j c hi hj=>?_);have hjl:j<es:=by rw [←hrow i hi];exact (List.getElem?_eq_some_iff.1 hj).1
  have:=h4 ((off+i) * es+j) (.c c) (by
   rw [hc,List.append_assoc,List.getElem?_append_right (by rw [hpre,Nat.add_mul];omega),hpre,show (off+i) * es+j-off * es=i * es+j by rw [Nat.add_mul];omega,List.getElem?_append_left (by rw [hll];exact Fz hi hjl),U4 hrow hi hjl,hj]
   rfl)
  obtain ⟨x,rfl⟩:=hf i hi c (List.mem_of_getElem? hj);generalize vs.getD ((off+i) * es+j) undef=u at this
  cases this with
  |c hr=>cases hr with
   |val _ h1=>exact .val _ h1
 have hfl:(List.range (n * es)).flatMap (fun _=>([]:List Nat))=[]:=Iy _;rw [hfl] at hown
 obtain ⟨k1,k2⟩:=hI.addOwn hown C8 (fun z hz=>by
  rw [List.mem_singleton.1 hz]
  exact ⟨hav,nav,hs.fresh b hav⟩)
 have hs3:({s with boxes:=Ro bx.key s.boxes,own:=⟨s.next,.sl n es row⟩::s.own,next:=s.next+1}:AS)=(Sx.dropP bx.key [] s).addOwn (.sl n es row):=by simp [AS.addOwn,Sx.dropP,hrem]
 have k3:({s with boxes:=Ro bx.key s.boxes,own:=⟨s.next,.sl n es row⟩::s.own,next:=s.next+1}:AS).is B (E.withOwn s.next (Ll b (off * es) n cap) [b]) a w:=by rw [hs3];exact k1.is
 have hsub:∀z,({s with boxes:=Ro bx.key s.boxes,own:=⟨s.next,.sl n es row⟩::s.own,next:=s.next+1}:AS).avoid (E.withOwn s.next (Ll b (off * es) n cap) [b]) z→s.avoid E z:=by rw [hs3];exact k1.sub
 refine h.out (E.withOwn s.next (Ll b (off * es) n cap) [b]) a w ⟨k3.defers,k3.links,by rw [k3.size];exact (Cn _ _ _).symm,fun m z hz=>?_,k3.boxes,k3.boxes2,k3.keys,k3.own,k3.ownkeys,k3.sep,k3.sepB,k3.one,k3.base,k3.fresh⟩
 simp only at hz
 rw [Dv] at hz
 split at hz
 ·rename_i hm2
  obtain ⟨rfl,hm2⟩:=hm2;obtain rfl:=Option.some.inj hz;have hd:=hs.slots i (.c (.val (Ll b (off * es) n cap))) (by rw [Dc,List.getElem?_eq_getElem hm2] at hi;rw [List.getElem?_eq_getElem hm2];simpa using hi);rw [Bo hd]
  have:Dr (E.withOwn s.next (Ll b (off * es) n cap) [b]) w _ _ (.own s.next) (Ll b (off * es) n cap):=k2
  exact this.move (Nat.le_refl _) (fun _ _=>⟨rfl,rfl⟩) (fun _ _ _=>rfl) (fun b _ hb=>hsub b hb)
 exact k3.slots m z hz
theorem J9 (hT:Cs P T){B:Be}{Q:Exit→Act→World→Prop}{q:Bool}{all:Array Oper}{o:Oper}{rest:List Oper}{K:List KI}{s:AS}{t e:TypeId}{x:Operand}{lo hi:Option Operand}{i j:TI}
  (hg:o.guard=none)(ho:o.op= .slice t x lo hi none)(hi':find T t=some i)(he:i.elem=some e)(hj:find T e=some j)
  {b ad n cap:Nat}(hx:s.ev x= .c (.val (Ll b ad n cap))){l h:Int}(hl:bnd s lo 0=some l)(hh:bnd s hi n=some h)(hb:0≤l∧l≤h∧h≤cap∧(hi=none→h≤n)∧l<cap)
  (ad' n' c':Nat)(q1:ad'=ad+l.toNat * j.size)(q2:n'=h.toNat-l.toNat)(q3:c'=cap-l.toNat)(hgo:GW P B Q (.ops q all rest::K) (s.put o.dst (.c (.val (Ll b ad' n' c'))))):GW P B Q (.ops q all (o::rest)::K) s:=by
 subst q1 q2 q3;refine ⟨Er hg (fun E a w hs=>?_)⟩;have hd:=hs.ev x;rw [hx] at hd;have hv:=Bo hd;have h1:=Kf hs hl;have h2:=Kf hs hh;have hu:=Cm (hT t i hi') he;have hel:P.elem t=e:=by simp [Program.elem,hu]
 have hu':P.underlying t=some (.slice (P.elem t)):=by rw [hel];exact hu
 have hz:∀w,(sizeOf (P.elem t)).run P w= .ok j.size w:=fun w=>by rw [hel];exact C0 (hT e j hj) w
 have hval:sliced (some ⟨b,ad,none⟩) l.toNat h.toNat cap j.size=Ll b (ad+l.toNat * j.size) (h.toNat-l.toNat) (cap-l.toNat):=by
  unfold sliced Ll;rw [if_neg Ad];simp only [Option.map_some,Hh]
 refine ⟨_,fun w' _=>?_,hgo.out E _ w (hs.put o.dst (.c (.val _ rfl)))⟩
 have hrun:(Instr.sliceAt t (Ll b ad n cap) (lo.map a.eval) (hi.map a.eval) none).run P w'= .ok (Ll b (ad+l.toNat * j.size) (h.toNat-l.toNat) (cap-l.toNat)) w':=by
  rw [←hval,run_sliceAt_slice w' t _ _ _ _ hu'];unfold Ll
  rcases h1 with ⟨e1,rfl⟩|⟨k1,e1⟩<;>rcases h2 with ⟨e2,rfl⟩|⟨k2,e2⟩<;>rw [e1,e2]
  ·rw [run_slice_all w' t _ n cap hu',hz];simp [Result.andThen]
  ·rw [run_slice_h w' t _ n cap hu' k2 h Ad Ad,hz];simp [Result.andThen]
  ·rw [run_slice_l w' t _ n cap hu' k1 l Ad Ad,hz];simp [Result.andThen]
  rw [run_slice_lh w' t _ n cap hu' k1 k2 l h Ad Ad Ad,hz];simp [Result.andThen]
 obtain ⟨dst,op',ty,pos,after,guard⟩:=o
 simp only at ho
 subst ho
 simp [execOp,hv,hrun]
theorem B95 (hT:Cs P T){B:Be}{Q:Exit→Act→World→Prop}{q:Bool}{all:Array Oper}{o:Oper}{rest:List Oper}{K:List KI}{s:AS}{t e:TypeId}{x:Operand}{lo:Option Operand}{i j:TI}
  (hg:o.guard=none)(ho:o.op= .slice t x lo none none)(hi':find T t=some i)(he:i.elem=some e)(hj:find T e=some j)
  {k n es:Nat}{row:Nat→List Ai}(hx:s.ev x= .own k)(hk:Cb s.own k=some (.sl n es row)){l:Int}(hl:bnd s lo 0=some l)(hb:0≤l∧l≤n)
  (hgo:GW P B Q (.ops q all rest::K) (s.put o.dst .any)):GW P B Q (.ops q all (o::rest)::K) s:=by
 refine ⟨Er hg (fun E a w hs=>?_)⟩;have hd:=hs.ev x;rw [hx] at hd
 have hv:a.eval x=E.ov k:=by
  generalize a.eval x=v at hd
  cases hd with
  |own _=>rfl
 have h1:=Kf hs hl;obtain ⟨_,o2,_⟩:=hs.own _ (Cp hk)
 have hsh:∃ad cap,E.ov k= .slice ad n cap∧n≤cap:=by
  simp only at o2
  generalize E.ov k=u,E.fp k=fp at o2
  cases o2 with
  |nil=>exact ⟨none,0,rfl,Nat.le_refl _⟩
  |emp=>exact ⟨_,0,rfl,Nat.le_refl _⟩
  |sl _ _ _ b off cap ty cells fps hn=>exact ⟨_,cap,rfl,hn⟩
 obtain ⟨ad,cap,hov,hcap⟩:=hsh;refine ⟨sliced ad l.toNat ((n:Int)).toNat cap j.size,fun w' _=>?_,hgo.out E _ w (hs.put o.dst (.any _))⟩;have hrun:=Yy (a:=ad) (h:=n) (hT t i hi') he (hT e j hj) h1 (.inl ⟨rfl,rfl⟩) hb.1 hb.2 (Int.le_refl _) hcap w';obtain ⟨dst,op',ty,pos,after,guard⟩:=o
 simp only at ho
 subst ho
 simp [execOp,hv,hov,hrun]
theorem A6i {s:AS}{B:Be}{E:E7}{a:Act}{w:World}(hs:s.is B E a w){kb b:Nat}{bx:Bx}(hl:Ed s.links kb=some (Ob b))(hb:Fl s.boxes kb=some bx)(L1 D L2 S:List AV)(hc:bx.cells=L1++D++L2)(hD:D.length=S.length)
  (vals:List Value)(hv:vals.length=S.length)(hden:∀i y,S[i]? =some y→Dr E w (s.avoid E) s.next y (vals.getD i undef)):
  ∃ty vs,w.heap[b]? =some (.cells vs ty (0,0))∧L1.length+vals.length≤vs.size∧
   ({s with boxes:=F7 s.boxes kb (L1++S++L2)}:AS).is B E a (w.setRow b (vs.toList.take L1.length++vals++vs.toList.drop (L1.length+vals.length)).toArray):=by
 obtain ⟨hm,rfl⟩:=F3 hb;obtain ⟨h1,vs,ty,h2,h3,h4⟩:=hs.boxes bx hm;obtain ⟨hlk,hov⟩:=hs.links _ (Fy hl);have hov:E.ov bx.key=Ob b:=hov;have hβ:E.β bx.key=b:=by unfold E7.β;rw [hov];rfl
 rw [hc] at h3 h4;simp only [List.length_append] at h3;refine ⟨ty,vs,by rw [←hβ];exact h2,by omega,?_⟩
 have:=hs.setBox hb (L1++S++L2) (vs.toList.take L1.length++vals++vs.toList.drop (L1.length+vals.length)).toArray (by simp;omega) (fun j y hj=>by
  rw [←Cg];simp only [List.getD];have e1:(vs.toList.take L1.length).length=L1.length:=by simp;omega
  by_cases c1:j<L1.length
  ·rw [List.append_assoc,List.getElem?_append_left c1] at hj
   rw [List.append_assoc,List.getElem?_append_left Ad]
   have:=h4 j y (by rw [List.append_assoc,List.getElem?_append_left c1];exact hj)
   rw [←Cg] at this
   simpa [List.getD,List.getElem?_take,c1] using this
  rw [List.append_assoc,List.getElem?_append_right Ad] at hj;rw [List.append_assoc,List.getElem?_append_right Ad,e1]
  by_cases c2:j-L1.length<S.length
  ·rw [List.getElem?_append_left c2] at hj
   rw [List.getElem?_append_left Ad]
   have:=hden _ y hj
   simpa [List.getD] using this
  rw [List.getElem?_append_right Ad] at hj;rw [List.getElem?_append_right Ad,List.getElem?_drop,hv]
  have:=h4 j y (by rw [List.append_assoc,List.getElem?_append_right Ad,List.getElem?_append_right Ad,hD];exact hj)
  rw [←Cg] at this;rw [show L1.length+S.length+(j-L1.length-S.length)=j by omega]
  simpa [List.getD] using this)
 rw [hβ] at this;exact this
theorem B0y {s:AS}{B:Be}{E:E7}{a:Act}{w:World}(hs:s.is B E a w){kb b:Nat}{bx:Bx}(hl:Ed s.links kb=some (Ob b))(hb:Fl s.boxes kb=some bx)(M1 S M2:List AV)(hc:bx.cells=M1++S++M2)(hS:∀y∈S,∃c,y= .c c):
  ∃vals:List Value,vals.length=S.length∧(∀i y,S[i]? =some y→Dr E w (s.avoid E) s.next y (vals.getD i undef))∧(∀j v,vals[j]? =some v→w.cell? ((⟨b,M1.length,none⟩:Addr).add j)=some v)∧∀v∈vals,v.oneCell'=true:=by
 obtain ⟨hm,rfl⟩:=F3 hb;obtain ⟨h1,vs,ty,h2,h3,h4⟩:=hs.boxes bx hm;obtain ⟨hlk,hov⟩:=hs.links _ (Fy hl);have hov:E.ov bx.key=Ob b:=hov;have hβ:E.β bx.key=b:=by unfold E7.β;rw [hov];rfl
 rw [hβ] at h2;rw [hc] at h3 h4;simp only [List.length_append] at h3
 have hD:∀i y,S[i]? =some y→Dr E w (s.avoid E) s.next y (vs.getD (M1.length+i) undef):=fun i y hy=>by
  have hi:i<S.length:=(List.getElem?_eq_some_iff.1 hy).1;refine h4 (M1.length+i) y ?_;rw [List.append_assoc,List.getElem?_append_right Ad,show M1.length+i-M1.length=i by omega,List.getElem?_append_left hi]
  exact hy
 refine ⟨(List.range S.length).map fun i=>vs.getD (M1.length+i) undef,by simp,fun i y hy=>?_,fun j v hj=>?_,fun v hv=>?_⟩
 ·have hi:i<S.length:=(List.getElem?_eq_some_iff.1 hy).1
  have:=hD i y hy
  simpa [List.getD,hi] using this
 ·rw [Hh,cell_of_row w b _ vs ty (0,0) h2]
  simp only [List.getElem?_map,Option.map_eq_some_iff] at hj;obtain ⟨i,hi,rfl⟩:=hj;obtain ⟨hij,rfl⟩:=List.getElem?_eq_some_iff.1 hi;simp only [List.length_range] at hij;simp only [List.getElem_range]
  have:M1.length+j<vs.size:=by omega
  simp [Array.getD,this]
 simp only [List.mem_map,List.mem_range] at hv;obtain ⟨i,hi,rfl⟩:=hv;have hy:=List.getElem?_eq_getElem hi
 have:=hD i _ hy
 obtain ⟨c,hc'⟩:=hS _ (List.getElem_mem hi);rw [hc'] at this;generalize vs.getD (M1.length+i) undef=u at this
 cases this with
 |c hr=>exact hr.one
theorem B7l (hT:Cs P T){B:Be}{Q:Exit→Act→World→Prop}{q:Bool}{all:Array Oper}{o:Oper}{rest:List Oper}{K:List KI}{s:AS}{t t' e:TypeId}{x y:Operand}{i j:TI}
  (hg:o.guard=none)(ho:o.op= .call {callee:= .builtin .copy,args:= #[x,y],argTypes:= #[t,t']})(hi:find T t=some i)(he:i.elem=some e)(hj:find T e=some j)
  {b o1 n1 c1 kb:Nat}{bx:Bx}(hx:s.ev x= .c (.val (Ll b o1 n1 c1)))(hl:Ed s.links kb=some (Ob b))(hb:Fl s.boxes kb=some bx)
  {b2 o2 n2 c2 kb2:Nat}{bx2:Bx}(hy:s.ev y= .c (.val (Ll b2 o2 n2 c2)))(hl2:Ed s.links kb2=some (Ob b2))(hb2:Fl s.boxes kb2=some bx2)
  (L1 D L2 M1 S M2:List AV)(hc:bx.cells=L1++D++L2)(h1:L1.length=o1)(hD:D.length=S.length)(hc2:bx2.cells=M1++S++M2)(h2:M1.length=o2)(hS:S.length=Nat.min n2 n1 * j.size)(hSc:∀y∈S,∃c,y= .c c)
  (h:GW P B Q (.ops q all rest::K) (({s with boxes:=F7 s.boxes kb (L1++S++L2)}:AS).put o.dst .any)):GW P B Q (.ops q all (o::rest)::K) s:=by
 refine ⟨H5 hg (by rw [ho];simp [Eb]) (fun E a w hs=>?_)⟩;have e1:=Bo (show Dr E w (s.avoid E) s.next (.v (Ll b o1 n1 c1)) (a.eval x) by have:=hs.ev x;rwa [hx] at this)
 have e2:=Bo (show Dr E w (s.avoid E) s.next (.v (Ll b2 o2 n2 c2)) (a.eval y) by have:=hs.ev y;rwa [hy] at this)
 obtain ⟨vals,g1,g2,g3,g4⟩:=B0y hs hl2 hb2 M1 S M2 hc2 hSc;obtain ⟨ty,vs,k1,k2,k3⟩:=A6i hs hl hb L1 D L2 S hc hD vals g1 g2;have hu:=Cm (hT t i hi) he;have hld:=run_loadCells_list (P:=P) w ⟨b2,M1.length,none⟩ vals g3;have hst:=run_storeCells_at P b L1.length ty vals 0 vs w k1 Ad g4;simp only [Nat.add_zero] at hst;refine ⟨goInt (Nat.min n2 n1),_,.inl ?_,fun hk=>(by rw [ho] at hk;simp [Eb] at hk),h.out E _ _ (k3.put o.dst (.any _))⟩;obtain ⟨dst,op',ty',pos,after,guard⟩:=o
 simp only at ho
 subst ho;rw [g1,hS] at hld;subst h1;subst h2
 simp [execOp,resolve,invoke,builtin,e1,e2,Ll,Builtin.copy_,run_underlying hu,C0 (hT e j hj),Builtin.lenOf,Builtin.firstCells,hld,hst]
theorem C1g {s:AS}{B:Be}{E:E7}{a:Act}{w:World}(hs:s.is B E a w){k n es:Nat}{row:Nat→List Ai}(hk:Cb s.own k=some (.sl n es row))(hf:F5 n row)(hn:0<n):
  ∃(b o cap:Nat) (vals:List Value),E.ov k=Ll b o n cap∧vals.length=n * es∧(∀i y,(Gg n row)[i]? =some y→Dr E w (s.avoid E) s.next y (vals.getD i undef))∧(∀j v,vals[j]? =some v→w.cell? ((⟨b,o,none⟩:Addr).add j)=some v)∧(∀v∈vals,v.oneCell'=true)∧(Gg n row).length=n * es:=by
 obtain ⟨_,o2,_⟩:=hs.own _ (Cp hk)
 simp only at o2
 generalize E.ov k=u,E.fp k=fp at o2
 cases o2 with
 |nil=>omega
 |emp=>omega
 |sl _ _ _ b off cap ty cells fps hnc hcp hb hcs hl hr=>
  have hll:=Lf hl;have hle:(off+n) * es≤cells.size:=Nat.le_trans (Nat.mul_le_mul_right _ Ad) hcs
  have hD:∀i y,(Gg n row)[i]? =some y→Dr E w (s.avoid E) s.next y (cells.getD (off * es+i) undef)∧(cells.getD (off * es+i) undef).oneCell'=true:=fun i y hy=>by
   obtain ⟨i',j',c,hi',hj',rfl,hc,rfl⟩:=Rr hl hy
   have:=hr i' j' c hi' hc
   obtain ⟨x,rfl⟩:=hf i' hi' c (List.mem_of_getElem? hc);rw [show (off+i') * es+j'=off * es+(i' * es+j') by rw [Nat.add_mul];omega] at this
   generalize cells.getD (off * es+(i' * es+j')) undef=u,fps (i' * es+j')=g at this
   cases this with
   |val _ h1=>exact ⟨.c (.val _ h1),h1⟩
  refine ⟨b,off * es,cap,(List.range (n * es)).map fun i=>cells.getD (off * es+i) undef,rfl,by simp,fun i y hy=>?_,fun j v hj=>?_,fun v hv=>?_,hll⟩
  ·have hi:i<n * es:=by rw [←hll];exact (List.getElem?_eq_some_iff.1 hy).1
   have:=(hD i y hy).1
   simpa [List.getD,hi] using this
  ·rw [Hh,cell_of_row w b _ cells ty (0,0) hb]
   simp only [List.getElem?_map,Option.map_eq_some_iff] at hj;obtain ⟨i,hi,rfl⟩:=hj;obtain ⟨hij,rfl⟩:=List.getElem?_eq_some_iff.1 hi;simp only [List.length_range] at hij;simp only [List.getElem_range]
   have:off * es+j<cells.size:=by rw [Nat.add_mul] at hle;omega
   simp [Array.getD,this]
  simp only [List.mem_map,List.mem_range] at hv;obtain ⟨i,hi,rfl⟩:=hv;exact (hD i _ (List.getElem?_eq_getElem (by rw [hll];exact hi))).2
theorem B7k (hT:Cs P T){B:Be}{Q:Exit→Act→World→Prop}{q:Bool}{all:Array Oper}{o:Oper}{rest:List Oper}{K:List KI}{s:AS}{t t' e:TypeId}{x y:Operand}{i j:TI}
  (hg:o.guard=none)(ho:o.op= .call {callee:= .builtin .copy,args:= #[x,y],argTypes:= #[t,t']})(hi:find T t=some i)(he:i.elem=some e)(hj:find T e=some j)
  {b o1 n1 c1 kb:Nat}{bx:Bx}(hx:s.ev x= .c (.val (Ll b o1 n1 c1)))(hl:Ed s.links kb=some (Ob b))(hb:Fl s.boxes kb=some bx)
  {k n es:Nat}{row:Nat→List Ai}(hy:s.ev y= .own k)(hk:Cb s.own k=some (.sl n es row))(hf:F5 n row)(hn:0<n)(hes:es=j.size)(hle:n≤n1)
  (L1 D L2:List AV)(hc:bx.cells=L1++D++L2)(h1:L1.length=o1)(hD:D.length=n * es)
  (h:GW P B Q (.ops q all rest::K) (({s with boxes:=F7 s.boxes kb (L1++Gg n row++L2)}:AS).put o.dst .any)):GW P B Q (.ops q all (o::rest)::K) s:=by
 refine ⟨H5 hg (by rw [ho];simp [Eb]) (fun E a w hs=>?_)⟩;have e1:=Bo (show Dr E w (s.avoid E) s.next (.v (Ll b o1 n1 c1)) (a.eval x) by have:=hs.ev x;rwa [hx] at this)
 have e2:a.eval y=E.ov k:=by
  have:=hs.ev y
  rw [hy] at this;generalize a.eval y=v at this
  cases this with
  |own _=>rfl
 obtain ⟨b2,o2,c2,vals,g0,g1,g2,g3,g4,g5⟩:=C1g hs hk hf hn;obtain ⟨ty,vs,k1,k2,k3⟩:=A6i hs hl hb L1 D L2 (Gg n row) hc (by rw [hD,g5]) vals (by rw [g1,g5]) g2;have hu:=Cm (hT t i hi) he;have hld:=run_loadCells_list (P:=P) w ⟨b2,o2,none⟩ vals g3;have hst:=run_storeCells_at P b L1.length ty vals 0 vs w k1 Ad g4;simp only [Nat.add_zero] at hst;refine ⟨goInt n,_,.inl ?_,fun hk=>(by rw [ho] at hk;simp [Eb] at hk),h.out E _ _ (k3.put o.dst (.any _))⟩;obtain ⟨dst,op',ty',pos,after,guard⟩:=o
 simp only at ho
 subst ho;have hmin:Nat.min n n1=n:=Nat.min_eq_left hle;rw [g1,hes] at hld;subst h1;rw [g0] at e2
 simp [execOp,resolve,invoke,builtin,e1,e2,Ll,Builtin.copy_,run_underlying hu,C0 (hT e j hj),Builtin.lenOf,Builtin.firstCells,hmin,hld,hst]
theorem C22 (hT:Cs P T){B:Be}{Q:Exit→Act→World→Prop}{q:Bool}{all:Array Oper}{o:Oper}{rest:List Oper}{K:List KI}{s:AS}{t t' e e2:TypeId}{x y:Operand}{i j i2:TI}
  (hg:o.guard=none)(ho:o.op= .call {callee:= .builtin .append,args:= #[x,y],argTypes:= #[t,t']})(hi:find T t=some i)(he:i.elem=some e)(hj:find T e=some j)(hi2:find T t'=some i2)(he2:i2.elem=some e2)
  {b o1 n1 c1 kb:Nat}{bx:Bx}(hx:s.ev x= .c (.val (Ll b o1 n1 c1)))(hl:Ed s.links kb=some (Ob b))(hb:Fl s.boxes kb=some bx)
  {b2 o2 n2 c2 kb2:Nat}{bx2:Bx}(hy:s.ev y= .c (.val (Ll b2 o2 n2 c2)))(hl2:Ed s.links kb2=some (Ob b2))(hb2:Fl s.boxes kb2=some bx2)(hroom:n1+n2≤c1)
  (L1 D L2 M1 S M2:List AV)(hc:bx.cells=L1++D++L2)(h1:L1.length=o1+n1 * j.size)(hD:D.length=S.length)(hc2:bx2.cells=M1++S++M2)(h2:M1.length=o2)(hS:S.length=n2 * j.size)(hSc:∀y∈S,∃c,y= .c c)
  (h:GW P B Q (.ops q all rest::K) (({s with boxes:=F7 s.boxes kb (L1++S++L2)}:AS).put o.dst (.c (.val (Ll b o1 (n1+n2) c1))))):GW P B Q (.ops q all (o::rest)::K) s:=by
 refine ⟨H5 hg (by rw [ho];simp [Eb]) (fun E a w hs=>?_)⟩;have e1:=Bo (show Dr E w (s.avoid E) s.next (.v (Ll b o1 n1 c1)) (a.eval x) by have:=hs.ev x;rwa [hx] at this)
 have e2':=Bo (show Dr E w (s.avoid E) s.next (.v (Ll b2 o2 n2 c2)) (a.eval y) by have:=hs.ev y;rwa [hy] at this)
 obtain ⟨vals,g1,g2,g3,g4⟩:=B0y hs hl2 hb2 M1 S M2 hc2 hSc;obtain ⟨ty,vs,k1,k2,k3⟩:=A6i hs hl hb L1 D L2 S hc hD vals g1 g2;have hu:=Cm (hT t i hi) he;have hu2:=Cm (hT t' i2 hi2) he2;have hld:=run_loadCells_list (P:=P) w ⟨b2,M1.length,none⟩ vals g3;have hst:=run_storeCells_at P b L1.length ty vals 0 vs w k1 Ad g4;simp only [Nat.add_zero] at hst;refine ⟨Ll b o1 (n1+n2) c1,_,.inl ?_,fun hk=>(by rw [ho] at hk;simp [Eb] at hk),h.out E _ _ (k3.put o.dst (.c (.val _ rfl)))⟩;obtain ⟨dst,op',ty',pos,after,guard⟩:=o
 simp only at ho
 subst ho;rw [g1,hS] at hld;subst h2;rw [h1] at hst ⊢
 simp [execOp,resolve,invoke,builtin,e1,e2',Ll,Builtin.append_,run_underlying hu,run_underlying hu2,C0 (hT e j hj),Builtin.lenOf,Builtin.firstCells,hroom,hld,Hh,hst]
theorem B0q (hT:Cs P T){B:Be}{Q:Exit→Act→World→Prop}{q:Bool}{all:Array Oper}{o:Oper}{rest:List Oper}{K:List KI}{s:AS}{t e:TypeId}{x:Operand}{i j:TI}
  (hg:o.guard=none)(ho:o.op= .call {callee:= .builtin .clear,args:= #[x],argTypes:= #[t]})(hi:find T t=some i)(he:i.elem=some e)(hj:find T e=some j)
  {b o1 n1 c1 kb:Nat}{bx:Bx}(hx:s.ev x= .c (.val (Ll b o1 n1 c1)))(hl:Ed s.links kb=some (Ob b))(hb:Fl s.boxes kb=some bx)(hn:0<n1)
  (L1 D L2:List AV)(hc:bx.cells=L1++D++L2)(h1:L1.length=o1)(hD:D.length=n1 * j.size)
  (h:GW P B Q (.ops q all rest::K) (({s with boxes:=F7 s.boxes kb (L1++List.replicate (n1 * j.size) .any++L2)}:AS).put o.dst .any)):GW P B Q (.ops q all (o::rest)::K) s:=by
 refine ⟨H5 hg (by rw [ho];simp [Eb]) (fun E a w hs=>?_)⟩;have e1:=Bo (show Dr E w (s.avoid E) s.next (.v (Ll b o1 n1 c1)) (a.eval x) by have:=hs.ev x;rwa [hx] at this)
 have hu:=Cm (hT t i hi) he;obtain ⟨z,hz,hzr⟩:=Rs (hT e j hj);obtain ⟨f,d,z',SP⟩:=TI.of_spec (hT e j hj);have hzs:z.cells.size=j.size:=by have:=SP.zlen;rw [←hz] at this;simpa using this
 have hzl:(Builtin.zeroCells z.cells n1).size=n1 * j.size:=by rw [Ku,hzs]
 have hz1:∀v∈(Builtin.zeroCells z.cells n1).toList,v.oneCell'=true:=fun v hv=>by
  simp only [Builtin.zeroCells,Array.toList_map,List.mem_map,Array.toList_range,List.mem_range] at hv;obtain ⟨m,hm,rfl⟩:=hv;have hpos:0<z.cells.size:=Nat.pos_of_ne_zero (fun h0=>by rw [h0] at hm;simp at hm);have hlt:=Nat.mod_lt m hpos;rw [getElem!_pos z.cells _ hlt];exact Ig SP.zone _ (by rw [←hz];exact Array.getElem_mem_toList hlt)
 obtain ⟨ty,vs,k1,k2,k3⟩:=A6i hs hl hb L1 D L2 (List.replicate (n1 * j.size) .any) hc (by rw [hD];simp) (Builtin.zeroCells z.cells n1).toList (by simp [hzl]) (fun i y hy=>by
  rw [List.eq_of_mem_replicate (List.mem_of_getElem? hy)];exact .any _)
 have hst:=run_storeCells_at P b L1.length ty (Builtin.zeroCells z.cells n1).toList 0 vs w k1 Ad hz1;simp only [Nat.add_zero] at hst;refine ⟨.tuple #[],_,.inl ?_,fun hk=>(by rw [ho] at hk;simp [Eb] at hk),h.out E _ _ (k3.put o.dst (.any _))⟩;obtain ⟨dst,op',ty',pos,after,guard⟩:=o
 simp only at ho
 subst ho;subst h1;obtain ⟨m,rfl⟩:∃m,n1=m+1:=⟨n1-1,by omega⟩
 simp [execOp,resolve,invoke,builtin,e1,Ll,Builtin.clear_,run_underlying hu,hzr,hst]
theorem C55 (hT:Cs P T){B:Be}{Q:Exit→Act→World→Prop}{q:Bool}{all:Array Oper}{o:Oper}{rest:List Oper}{K:List KI}{s:AS}{t e:TypeId}{x:Operand}{i:TI}
  (hg:o.guard=none)(ho:o.op= .call {callee:= .builtin .cap,args:= #[x],argTypes:= #[t]})(hi:find T t=some i)(he:i.elem=some e)
  {b o1 n1 c1:Nat}(hx:s.ev x= .c (.val (Ll b o1 n1 c1)))(h:GW P B Q (.ops q all rest::K) (s.put o.dst (.c (.val (.int .i64 (c1:Int)))))):GW P B Q (.ops q all (o::rest)::K) s:=by
 refine ⟨Er hg (fun E a w hs=>?_)⟩;have e1:=Bo (show Dr E w (s.avoid E) s.next (.v (Ll b o1 n1 c1)) (a.eval x) by have:=hs.ev x;rwa [hx] at this)
 have hu:=Cm (hT t i hi) he;refine ⟨.int .i64 c1,fun w' _=>?_,h.out E _ w (hs.put o.dst (.c (.val _ rfl)))⟩;obtain ⟨dst,op',ty',pos,after,guard⟩:=o
 simp only at ho
 subst ho
 simp [execOp,resolve,invoke,builtin,e1,Ll,Builtin.cap_,run_underlying hu,goInt]
theorem C53 (hT:Cs P T){B:Be}{Q:Exit→Act→World→Prop}{q:Bool}{all:Array Oper}{o:Oper}{rest:List Oper}{K:List KI}{s:AS}{t tn e:TypeId}{x y:Operand}{i j jn:TI}{kn kq:IntKind}
  (hg:o.guard=none)(ho:o.op= .call {callee:= .builtin .append,args:= #[x,y],argTypes:= #[t,tn]})(hi:find T t=some i)(he:i.elem=some e)(hj:find T e=some j)(hn:find T tn=some jn)(hag:jn.agg=false)(hfl:jn.flat=some [.int kn])
  {b o1 n1 c1 kb:Nat}{bx:Bx}(hx:s.ev x= .c (.val (Ll b o1 n1 c1)))(hl:Ed s.links kb=some (Ob b))(hb:Fl s.boxes kb=some bx){k:Nat}(hy:s.ev y= .c (.val (.int kq (k:Int))))
  {es:Nat}{row:Nat→List Ai}(M1 M2:List AV)(hc:bx.cells=M1++Gg n1 row++M2)(h1:M1.length=o1)(hes:es=j.size)(hpos:0<es)(hrow:∀i,i<n1→(row i).length=es)(hf:F5 n1 row)
  (hk:0<k)(hgrow:c1<n1+k)(hlen:n1+k≤549755813888)(hby:Nat.ble j.bytes 256=true)(row':Nat→List Ai)(r1:∀i,i<n1→row' i=row i)(r2:∀i,n1≤i→i<n1+k→row' i=j.zero.map Ai.val)
  (h:GW P B Q (.ops q all rest::K) (({s with own:=⟨s.next,.sl (n1+k) es row'⟩::s.own,next:=s.next+1}:AS).put o.dst (.own s.next))):GW P B Q (.ops q all (o::rest)::K) s:=by
 subst hes;have hby:=Nat.le_of_ble_eq_true hby;refine ⟨H5 hg (by rw [ho];simp [Eb]) (fun E a w hs=>?_)⟩;have e1:=Bo (show Dr E w (s.avoid E) s.next (.v (Ll b o1 n1 c1)) (a.eval x) by have:=hs.ev x;rwa [hx] at this)
 have e2:=Bo (show Dr E w (s.avoid E) s.next (.v (.int kq (k:Int))) (a.eval y) by have:=hs.ev y;rwa [hy] at this)
 have hll:=Lf hrow
 obtain ⟨vals,g1,g2,g3,g4⟩:=B0y hs hl hb M1 (Gg n1 row) M2 hc (fun y hy=>by
  obtain ⟨m,hm,rfl⟩:=List.getElem_of_mem hy;obtain ⟨_,_,c,_,_,_,_,hc'⟩:=Rr hrow (List.getElem?_eq_getElem hm)
  exact ⟨c,hc'⟩)
 have hu:=Cm (hT t i hi) he;obtain ⟨f,d,z,S⟩:=TI.of_spec (hT e j hj);have hzs:z.cells.size=j.size:=by have:=S.zlen;rw [←S.cells] at this;simpa using this
 have hun:=A74 hT hn hag hfl;have hcd:∀ad,w.drew.cell? ad=w.cell? ad:=fun ad=>rfl
 have hld:=run_loadCells_list (P:=P) w.drew ⟨b,M1.length,none⟩ vals (fun m v hm=>by rw [hcd];exact g3 m v hm);rw [g1,hll,h1] at hld;have hbytes:(n1+k) * j.bytes≤140737488355328:=Nat.le_trans (Nat.mul_le_mul hlen hby) B5;have hmax:n1+k≤maxLen:=by simp only [maxLen];omega
 have hrun:=Go.Lib.run_append_grow_zeros (P:=P) w t tn o.type e f z kq kn hu hun S.hf S.hz (some ⟨b,o1,none⟩) n1 c1 vals (by rw [S.size];simpa [Builtin.firstCells] using hld) k hk (by rw [S.size];exact hpos) hgrow Ad
  (by rw [S.bytes];exact Nat.le_trans (Nat.mul_le_mul (show k≤n1+k by omega) (Nat.le_refl _)) (Nat.le_trans hbytes B5)) (by rw [S.bytes];exact growslice_fits hgrow hbytes)
 have hge:=grownCap_ge w (n1+k) c1 e;have hcm:=grownCap_le_maxLen w (n1+k) c1 e hmax;generalize grownCap w (n1+k) c1 e=cap at *
 let cells:=vals.toArray++Builtin.zeroCells z.cells k++Builtin.zeroCells z.cells (cap-(n1+k))
 let w':=w.drew.alloc (.cells cells e)
 have hbel:Ju w.heap.size w w':=by
  have hb0:=Jw w.drew (.cells cells e);exact ⟨hb0.os,hb0.tape,hb0.output,hb0.size,hb0.block,Nat.le_trans (Nat.le_succ _) hb0.drawn⟩
 have hsz:cells.size=cap * j.size:=by
  simp only [cells,Array.size_append,List.size_toArray,Ku,hzs,g1,hll,←Nat.add_mul]
  congr 1
  omega
 have hnew:w'.heap[w.heap.size]? =some (.cells cells e (0,0)):=heap_alloc_new w.drew _;have hzl:(Builtin.zeroCells z.cells k).size=k * j.size:=by rw [Ku,hzs]
 have hget:∀m,m<(n1+k) * j.size→cells.getD m undef=if m<n1 * j.size then vals.getD m undef else j.zero.getD (m % j.size) undef:=by
  intro m hm;have hm2:m<cells.size:=by rw [hsz];exact Nat.lt_of_lt_of_le hm (Nat.mul_le_mul_right _ hge)
  rw [←Cg];simp only [cells,Array.toList_append,List.getD];rw [List.append_assoc]
  split
  ·rename_i hlt
   rw [List.getElem?_append_left (by rw [g1,hll];exact hlt)]
  rename_i hlt
  rw [List.getElem?_append_right (by rw [g1,hll];omega),g1,hll];have hin:m-n1 * j.size<k * j.size:=by rw [Nat.add_mul] at hm;omega
  rw [List.getElem?_append_left (by rw [Array.length_toList,hzl];exact hin)]
  have hmod:(m-n1 * j.size) % j.size=m % j.size:=by
   have:=Nat.sub_mul_mod (x:=m) (n:=j.size) (k:=n1) (by rw [Nat.mul_comm];omega)
   rwa [Nat.mul_comm j.size n1] at this
  have hlt2:m % j.size<z.cells.size:=by rw [hzs];exact Nat.mod_lt _ hpos
  simp only [Builtin.zeroCells,hzs,Array.toList_map,Array.toList_range,List.getElem?_map,List.getElem?_range hin,Option.map_some,Option.getD_some,hmod];rw [getElem!_pos z.cells _ hlt2,←S.cells]
  simp [List.getD,hlt2]
 have hown:D3 w' (.sl (n1+k) j.size row') (.slice (some ⟨w.heap.size,0 * j.size,none⟩) (n1+k) cap) (w.heap.size::(List.range ((n1+k) * j.size)).flatMap fun _=>[]):=by
  refine .sl (n1+k) j.size row' w.heap.size 0 cap e cells (fun _=>[]) hge hcm hnew (by rw [hsz];simp) (fun m hm=>?_) (fun m p c hm hp=>?_)
  ·by_cases h0:m<n1
   ·rw [r1 m h0];exact hrow m h0
   rw [r2 m Ad hm,List.length_map,S.zlen]
  simp only [Nat.zero_add]
  by_cases h0:m<n1
  ·rw [r1 m h0] at hp
   have hpl:p<j.size:=by rw [←hrow m h0];exact (List.getElem?_eq_some_iff.1 hp).1
   have hlt:=Fz h0 hpl;rw [hget _ (by rw [Nat.add_mul];omega),if_pos hlt];obtain ⟨u,rfl⟩:=hf m h0 c (List.mem_of_getElem? hp)
   have:=g2 (m * j.size+p) (.c (.val u)) (by rw [U4 hrow h0 hpl,hp];rfl)
   generalize vals.getD (m * j.size+p) undef=q at this
   cases this with
   |c hr=>cases hr with
    |val _ h1=>exact .val _ h1
  rw [r2 m Ad hm] at hp;have hpl:p<j.size:=by have:=(List.getElem?_eq_some_iff.1 hp).1;rwa [List.length_map,S.zlen] at this
  have hlt:=Fz hm hpl
  have hnlt:¬ m * j.size+p<n1 * j.size:=by
   have:n1 * j.size≤m * j.size:=Nat.mul_le_mul_right _ Ad
   omega
  rw [hget _ hlt,if_neg hnlt];have hmod:(m * j.size+p) % j.size=p:=by rw [Nat.mul_comm,Nat.mul_add_mod];exact Nat.mod_eq_of_lt hpl
  rw [hmod];rw [List.getElem?_map,Option.map_eq_some_iff] at hp;obtain ⟨u,hu',rfl⟩:=hp
  have:j.zero.getD p undef=u:=by simp [List.getD,hu']
  rw [this];exact .val _ (Ig S.zone u (List.mem_of_getElem? hu'))
 rw [Iy] at hown;have hA:=hs.call hbel
 obtain ⟨k1,k2⟩:=hA.addOwn hown C8 (fun m hm=>by
  rw [List.mem_singleton.1 hm];refine ⟨.inr (Nat.le_refl _),fun hav=>?_,.inl hs.base.size⟩
  have:=hs.avoid_lt hav
  omega)
 simp only [Nat.zero_mul] at k1 k2;refine ⟨_,w',.inl ?_,fun hk=>(by rw [ho] at hk;simp [Eb] at hk),h.out _ _ _ ((k1.put o.dst k2).is)⟩;obtain ⟨dst,op',ty',pos,after,guard⟩:=o
 simp only at ho
 subst ho
 simp only at hrun
 simp [execOp,resolve,invoke,builtin,e1,e2,Ll,hrun,w',cells]
theorem A9r {w:World}{b:Nat}{cells:Array Value}{ty:TypeId}(h:w.heap[b]? =some (.cells cells ty (0,0))):w.shape? b=some (ty,cells.size):=by
 simp [World.shape?,h]
theorem A36 {w:World}{b:Nat}{cells:Array Value}{ty:TypeId}(h:w.heap[b]? =some (.cells cells ty (0,0)))(o:Nat):w.frozen? ⟨b,o,none⟩=false:=by
 simp [World.frozen?,h]
theorem B5r (hT:Cs P T){B:Be}{Q:Exit→Act→World→Prop}{q:Bool}{all:Array Oper}{o:Oper}{rest:List Oper}{K:List KI}{s:AS}{f:FuncId}{fn:Func}{tS tR e:TypeId}{ats:Array TypeId}{x y:Operand}{i j:TI}
  (hfn:P.funcs[f]? =some fn)(hname:(fn.name== "runtime.NumGoroutine")=false)(hbody:fn.body.isNone=true)(hnx:Extern.findNext fn=none)(hex:Extern.find fn=some (Extern.SlicesOverlaps.overlaps #[tS,tS] #[tR]))
  (hg:o.guard=none)(ho:o.op= .call {callee:= .value (.func f),args:= #[x,y],argTypes:=ats})(hi:find T tS=some i)(he:i.elem=some e)(hj:find T e=some j)
  {k n es:Nat}{row:Nat→List Ai}(hx:s.ev x= .own k)(hk:Cb s.own k=some (.sl n es row))(hn:0<n)
  {b o1 n1 c1 kb:Nat}{bx:Bx}(hy:s.ev y= .c (.val (Ll b o1 n1 c1)))(hl:Ed s.links kb=some (Ob b))(hb:Fl s.boxes kb=some bx)(hlen:0<bx.cells.length)
  (h:GW P B Q (.ops q all rest::K) (s.put o.dst (.c (.val (.bool false))))):GW P B Q (.ops q all (o::rest)::K) s:=by
 refine ⟨H5 hg (by rw [ho];simp [Eb]) (fun E a w hs=>?_)⟩;have e2:=Bo (show Dr E w (s.avoid E) s.next (.v (Ll b o1 n1 c1)) (a.eval y) by have:=hs.ev y;rwa [hy] at this)
 have e1:a.eval x=E.ov k:=by
  have:=hs.ev x
  rw [hx] at this;generalize a.eval x=v at this
  cases this with
  |own _=>rfl
 obtain ⟨hm,rfl⟩:=F3 hb;obtain ⟨h1,vs,ty,h2,h3,h4⟩:=hs.boxes bx hm;obtain ⟨hlk,hov⟩:=hs.links _ (Fy hl);have hov:E.ov bx.key=Ob b:=hov;have hβ:E.β bx.key=b:=by unfold E7.β;rw [hov];rfl
 obtain ⟨_,o2,_⟩:=hs.own _ (Cp hk);have hsep:=hs.sepB bx hm _ (Cp hk);rw [hβ] at h2 hsep
 simp only at o2 hsep
 generalize E.ov k=u,E.fp k=fp at o2 e1 hsep
 cases o2 with
 |nil=>omega
 |emp=>omega
 |sl _ _ _ b' off cap ty' cells fps hnc hcp hbk hcs hl' hr=>
  have hne:b'≠b:=fun e=>hsep (by rw [e];simp);have hz:=fun w=>C0 (P:=P) (hT e j hj) w;have hu:=Cm (hT tS i hi) he;have hov:=Go.Lib.run_overlaps_apart (P:=P) w tS tR e hu j.size hz ⟨b',off * es,none⟩ ⟨b,o1,none⟩ n cap n1 c1 hne ty' ty cells.size vs.size (A9r hbk) (A9r h2) Ad (A36 hbk _) (A36 hbk _);refine ⟨.bool false,w,.inl ?_,fun _=>Ez.refl w,h.out E _ _ (hs.put o.dst (.c (.val _ rfl)))⟩;obtain ⟨dst,op',ty2,pos,after,guard⟩:=o
  simp only at ho
  subst ho;have hcall:=run_callFunc_extern hfn hname hbody hnx hex #[.slice (some ⟨b',off * es,none⟩) n cap,Ll b o1 n1 c1] w;simp only [Ll] at hcall e2;rw [hov] at hcall;have ef:a.eval (.func f)= .func (.func f) #[] #[]:=rfl
  simp [execOp,resolve,Deferred.ofValue,invoke,ef,e1,e2,hcall,Result.andThen]
def He {α:Type} (e:α→List Ai) (l:List α):List AV:=l.flatMap fun x=>(e x).map AV.c
theorem I4 {α:Type}(e:α→List Ai)(l m:List α):He e (l++m)=He e l++He e m:=by simp [He]
theorem A60 {α:Type}{e:α→List Ai}{es:Nat}(he:∀x,(e x).length=es)(l:List α):(He e l).length=l.length * es:=by
 induction l with
 |nil=>simp [He]
 |cons x r ih=>
  have:He e (x::r)=(e x).map AV.c++He e r:=rfl
  rw [this,List.length_append,ih,List.length_map,he,List.length_cons,Nat.succ_mul];omega
theorem C0h {α:Type}(e:α→List Ai)(l:List α):∀y∈He e l,∃c,y= .c c:=by
 intro y hy;obtain ⟨x,_,hx⟩:=List.mem_flatMap.1 hy;obtain ⟨c,_,rfl⟩:=List.mem_map.1 hx;exact ⟨c,rfl⟩
theorem S0 {α:Type} [Inhabited α] (e:α→List Ai)(l:List α):Gg l.length (fun i=>e (l.getD i default))=He e l:=by
 unfold Gg
 have h:∀(m:List α),(List.range m.length).flatMap (fun i=>(e (m.getD i default)).map AV.c)=He e m:=by
  intro m
  induction m with
  |nil=>rfl
  |cons x r ih=>
   rw [List.length_cons,List.range_succ_eq_map,List.flatMap_cons,List.flatMap_map]
   have:He e (x::r)=(e x).map AV.c++He e r:=rfl
   rw [this,←ih];rfl
 exact h l
theorem Z1 {α:Type} [Inhabited α] {B:Be}{Q:Exit→Act→World→Prop}{K:List KI}{s:AS}(k:Nat)(es:Nat)(e:α→List Ai)(l:List α)(hk:Cb s.own k=some (Kv es e l))(hn:0<l.length)(hf:F5 l.length fun i=>e (l.getD i default))
  (h:∀(b off cap:Nat) (pre D5:List AV),pre.length=off * es→l.length≤cap→cap≤maxLen→(cap-l.length) * es≤D5.length→
   GW P B Q K {s with own:=Bz [k] s.own,next:=s.next+1,boxes:=⟨s.next,pre++He e l++D5⟩::s.boxes,links:=(s.next,Ob b)::(k,Ll b (off * es) l.length cap)::s.links}):GW P B Q K s:=
 C2w k hk hn hf (fun b off cap pre D5 h1 h2 h3 h4=>by
  have:=h b off cap pre D5 h1 h2 h3 h4
  rw [←S0] at this
  exact this)
theorem C5h {α:Type} [Inhabited α] {B:Be}{Q:Exit→Act→World→Prop}{K:List KI}{s:AS}(i kb:Nat){bx:Bx}{b o n cap:Nat}(off es:Nat)(e:α→List Ai)(l:List α)(pre D5:List AV)(hb:Fl s.boxes kb=some bx)(hc:bx.cells=pre++He e l++D5)(hpre:pre.length=off * es)
  (he:∀x,(e x).length=es)(hf:F5 l.length fun i=>e (l.getD i default))(hcap:cap≤maxLen)(hpost:l.length≤cap∧(cap-l.length) * es≤D5.length)(hl:Ed s.links kb=some (Ob b))(hi:Hs s.slots i= .c (.val (Ll b o n cap)))(ho:o=off * es)(hn:n=l.length)
  (h:GW P B Q K {s with boxes:=Ro kb s.boxes,own:=⟨s.next,Kv es e l⟩::s.own,next:=s.next+1,slots:=D6 s.slots i (.own s.next)}):GW P B Q K s:=by
 subst ho hn;exact C5i i kb (fun i=>e (l.getD i default)) pre D5 hb (by rw [hc,S0]) hpre (fun _ _=>he _) hf hpost.1 hcap hpost.2 hl hi h
end Go.Sx
set_option maxRecDepth 100000
namespace Go.Sx
open Go
variable {P : Program} {T : List (TypeId × TI)}
def Yt {α:Type} (l:List Bx) (k:List Bx→α):α:=
 match l with
 | []=>k []
 |x::r=>match x with|⟨key,cells⟩=>Jr key fun key=>Yt r fun r'=>k (⟨key,cells⟩::r')
theorem B0x {α:Type}(l:List Bx)(k:List Bx→α):Yt l k=k l:=by
 induction l generalizing k with
 |nil=>rfl
 |cons x r ih=>cases x;simp [Yt,Hl,ih]
def I0 {α:Type} (s:AS) (k:AS→α):α:=
 match s with
 |⟨next,slots,boxes,own,links⟩=>Jr next fun next=>Ps slots fun slots=>Yt boxes fun boxes=>A0s own fun own=>A0r links fun links=>k ⟨next,slots,boxes,own,links⟩
theorem Wt {α:Type}(s:AS)(k:AS→α):I0 s k=k s:=by cases s;simp [I0,Hl,S8,B0x,A33,A32]
def G8 (T:List (TypeId×TI)) (wr:Bool):Nat→List KI→AS→Out
 | 0,K,s=>I0 s (.at_ K)
 |n+1,K,s=>
  match K with
  | []=>I0 s (.at_ [])
  | .block _::K=>G8 T wr n K s
  | .loop I::K=>I0 s (.at_ (.loop I::K))
  | .code c::K=>
   match c with
   | .skip=>G8 T wr n K s
   | .seq a b=>G8 T wr n (.code a:: .code b::K) s
   | .block id c=>G8 T wr n (.code c:: .block id::K) s
   | .cond o t e=>
    match s.ev o with
    | .c (.val (.bool b))=> .ite b (G8 T wr n (.code t::K) s) (G8 T wr n (.code e::K) s)
    |_=>I0 s (.at_ (.code (.cond o t e)::K))
   | .exit id=>match T9 id K with
    |some K'=>G8 T wr n K' s
    |none=>I0 s (.at_ (.code (.exit id)::K))
   | .ret=>I0 s .ret
   | .region _id ops false=>G8 T wr n (.ops false ops ops.toList::K) s
   |c=>I0 s (.at_ (.code c::K))
  | .ops q all l::K=>
   match l with
   | []=>G8 T wr n K s
   |o::rest=>
    match o.guard with
    |none=>
     match o.op with
     | .pick c x y=>
      match s.ev c with
      | .c (.val (.bool b))=> .ite b (K8 s o.dst (s.ev x) (G8 T wr n (.ops q all rest::K))) (K8 s o.dst (s.ev y) (G8 T wr n (.ops q all rest::K)))
      |_=>I0 s (.at_ (.ops q all (o::rest)::K))
     | .call {callee:= .value (.func f),args,..}=>Ps (args.toList.map s.ev) fun xs=>I0 s fun s=> .call q f xs o.dst (.ops q all rest::K) s
     | .call {callee:= .value (.tmp t),args,..}=>
      match Hs s.slots t with
      | .fn f caps=>Ps (args.toList.map s.ev++caps) fun xs=>I0 s fun s=> .call q f xs o.dst (.ops q all rest::K) s
      |_=>I0 s (.at_ (.ops q all (o::rest)::K))
     |op=>
      match step T wr s op with
      | .stop=>I0 s (.at_ (.ops q all (o::rest)::K))
      | .ok ps x=>A1i ps (K8 s o.dst x (G8 T wr n (.ops q all rest::K)))
      | .new cells=>B3h s cells fun s'=>K8 s' o.dst (.box s.next 0) (G8 T wr n (.ops q all rest::K))
      | .own ps c=>A1i ps (N8 s c fun s'=>K8 s' o.dst (.own s.next) (G8 T wr n (.ops q all rest::K)))
      | .mem bx=>B3f s bx fun s=>K8 s o.dst .any (G8 T wr n (.ops q all rest::K))
    |some (j,true)=>
     match Iz all j with
     |some d=>match Hs s.slots d with
      | .c (.val (.bool b))=> .ite b
        (K8 s (some d) (.v (.bool true)) (G8 T wr n (.ops q all ({o with guard:=none}::rest)::K)))
        (K8 s (some d) (.v (.bool false)) fun s=>K8 s o.dst (Oc all o.dst) (G8 T wr n (.ops q all rest::K)))
      | .tup []=>K8 s o.dst (Oc all o.dst) (G8 T wr n (.ops q all rest::K))
      |_=>I0 s (.at_ (.ops q all (o::rest)::K))
     |none=>I0 s (.at_ (.ops q all (o::rest)::K))
    |some (j,false)=>
     match Iz all j with
     |some d=>match Hs s.slots d with
      | .c (.val (.bool b))=> .ite b
        (K8 s (some d) (.v (.bool true)) fun s=>K8 s o.dst (Oc all o.dst) (G8 T wr n (.ops q all rest::K)))
        (K8 s (some d) (.v (.bool false)) (G8 T wr n (.ops q all ({o with guard:=none}::rest)::K)))
      | .tup []=>K8 s o.dst (Oc all o.dst) (G8 T wr n (.ops q all rest::K))
      |_=>I0 s (.at_ (.ops q all (o::rest)::K))
     |none=>I0 s (.at_ (.ops q all (o::rest)::K))
theorem B3x (T:List (TypeId×TI))(wr:Bool):∀n,G8 T wr n=run T wr n
 | 0=>by funext K s;simp only [G8,run,Ej,Wt]
 |n+1=>by
  funext K s
  simp only [G8,run,B3x T wr n,Ej,Wt];rfl
def B3w (T:List (TypeId×TI)) (wr:Bool) (n:Nat) (K:List KI) (s:AS):Out:=I0 s (G8 T wr n K)
theorem A9i (T:List (TypeId×TI))(wr:Bool)(n:Nat)(K:List KI)(s:AS):B3w T wr n K s=Oz T wr n K s:=by
 unfold B3w Oz;rw [Wt,Ej,B3x]
theorem N2 (hT:Cs P T)(wr:Bool){B:Be}{Q:Exit→Act→World→Prop}{K:List KI}{s:AS}(h:vcW P B Q (B3w T wr 100000 K s)):GW P B Q K s:=
 go hT wr (by rw [←A9i];exact h)
theorem C58 (n:Nat)(hT:Cs P T)(wr:Bool){B:Be}{Q:Exit→Act→World→Prop}{K:List KI}{s:AS}(h:vcW P B Q (B3w T wr n K s)):GW P B Q K s:=
 goF n hT wr (by rw [←A9i];exact h)
theorem A84 (P:Program){α:Type} [Inhabited α] {B:Be}{Q:Exit→Act→World→Prop}{s:AS}(i kb:Nat){bx:Bx}{b o n cap:Nat}(off es:Nat)(e:α→List Ai)(l:List α)(pre D5:List AV)(hb:Fl s.boxes kb=some bx)(hc:bx.cells=pre++He e l++D5)(hpre:pre.length=off * es)
  (he:∀x,(e x).length=es)(hf:Go.Sx.F5 l.length fun i=>e (l.getD i default))(hcap:cap≤maxLen)(hpost:l.length≤cap∧(cap-l.length) * es≤D5.length)(hl:Ed s.links kb=some (Ob b))(hi:Hs s.slots i= .c (.val (Ll b o n cap)))(ho:o=off * es)(hn:n=l.length)
  (h:RW B Q {s with boxes:=Ro kb s.boxes,own:=⟨s.next,Kv es e l⟩::s.own,next:=s.next+1,slots:=D6 s.slots i (.own s.next)}):RW B Q s:=
 B52 P (s':= {s with boxes:=Ro kb s.boxes,own:=⟨s.next,Kv es e l⟩::s.own,next:=s.next+1,slots:=D6 s.slots i (.own s.next)}) (fun _ g=>C5h i kb off es e l pre D5 hb hc hpre he hf hcap hpost hl hi ho hn g) h
end Go.Sx
set_option maxRecDepth 100000
namespace Go.Sx
open Go
variable {P : Program} {T : List (TypeId × TI)} {ops : Array Oper}
theorem C2c {i:Nat}{o:Oper}{Q:Act→World→Prop}{a:Act}{w:World}(ho:ops[i]? =some o)(h:Gj P ops Q [o] a w):opM P ops i Q a w:=by
 unfold opM;simp only [ho];unfold Gj at h
 split
 ·rename_i hw
  rw [if_pos hw] at h
  rcases h with ⟨v,h1,h2⟩|⟨_,hd⟩
  ·unfold J5
   rw [h1 w (Ez.refl w)];exact ⟨fun _=>Ez.refl w,h2⟩
  exact hd
 rename_i hw
 rw [if_neg hw] at h;exact h
def B62 (P:Program) (B:Be) (N:Act→World→Prop) (ops:Array Oper) (fuel:Nat) (listed:Array Bool) (s:AS):List Nat→Prop
 | []=>True
 |i::r=>(match ops[i]? with
  |some o=>GW P B QF [.ops true ops [o],.loop (fun a w=>P8 P ops N fuel (listed.setIfInBounds i true) a w)] s
  |none=>False)∧B62 P B N ops fuel listed s r
theorem B4f {B:Be}{N:Act→World→Prop}{fuel:Nat}{listed:Array Bool}{s:AS}{l:List Nat}(h:B62 P B N ops fuel listed s l){i:Nat}(hi:i∈l):
  ∃o,ops[i]? =some o∧GW P B QF [.ops true ops [o],.loop (fun a w=>P8 P ops N fuel (listed.setIfInBounds i true) a w)] s:=by
 induction l with
 |nil=>simp at hi
 |cons j r ih=>
  obtain ⟨h1,h2⟩:=h
  rcases List.mem_cons.1 hi with rfl|hi
  ·split at h1
   ·rename_i o ho;exact ⟨o,ho,h1⟩
   exact h1.elim
  exact ih h2 hi
theorem Dp {B:Be}{N:Act→World→Prop}{fuel:Nat}{listed:Array Bool}{s:AS}(l:List Nat)(hr:(eqL (Region.ready .any ops listed) l&&!l.isEmpty)=true)(h:B62 P B N ops fuel listed s l):BW P B N ops (fuel+1) listed s:=by
 simp only [Bool.and_eq_true,Bool.not_eq_true'] at hr;have hr1:=B7z hr.1;refine ⟨fun E a w hs=>⟨fun h0=>?_,fun i hi=>?_⟩⟩
 ·rw [hr1] at h0
  rw [h0] at hr
  simp at hr
 rw [hr1] at hi;obtain ⟨o,ho,hg⟩:=B4f h hi;exact C2c ho (hg.out E a w hs)
theorem Dq {B:Be}{N:Act→World→Prop}{fuel:Nat}{listed:Array Bool}{s:AS}(h:BW P B N ops fuel listed s):GW P B QF [.loop (fun a w=>P8 P ops N fuel listed a w)] s:=
 ⟨fun E a w hs=>h.out E a w hs⟩
theorem Qk {B:Be}{Q:Exit→Act→World→Prop}{K:List KI}{s:AS}{listed:Array Bool}(hr:(Region.ready .any ops listed).isEmpty=true)(h:GW P B Q K s):BW P B (fun a w=>D5 P Q K .normal a w) ops 0 listed s:=
 ⟨fun E a w hs=>⟨by simpa using hr,h.out E a w hs⟩⟩
def B3k:Op→Bool
 | .move _=>true
 | .assign _=>true
 | .extract _ _=>true
 |_=>false
theorem C16 {o:Oper}(h:B3k o.op=true)(ρ:Operand→Value){w w':World}{v:Value}(hr:(execOp ρ o).run P w= .ok (.value v) w):(execOp ρ o).run P w'= .ok (.value v) w':=by
 by_cases hb:Mw o.op=true
 ·exact S4 hb ρ hr
 obtain ⟨dst,op,ty,pos,after,guard⟩:=o
 cases op<;>simp [B3k] at h<;>simp [Mw] at hb
 rename_i x i
 simp only [execOp,Instr.extract] at hr ⊢;generalize ρ x=u at hr ⊢
 cases u<;>simp_all
 split at hr<;>simp_all
theorem Kx {B:Be}{N:Act→World→Prop}{fuel:Nat}{listed:Array Bool}{s s':AS}(i:Nat){o:Oper}(hi:ops[i]? =some o)
  (hb:(B3k o.op&&Region.noSelect ops&&(Region.ready .any ops listed).contains i&&B23 ops listed i o)=true)
  (ht:GW P B QF [.ops true ops [o],.loop (fun a w=>∃E,s'.is B E a w)] s)(h:BW P B N ops fuel (listed.setIfInBounds i true) s'):BW P B N ops (fuel+1) listed s:=by
 simp only [Bool.and_eq_true,List.contains_iff_mem] at hb;obtain ⟨⟨⟨h0,h1⟩,h2⟩,h3⟩:=hb;refine ⟨fun E a w hs=>?_⟩;have hg:Gj P ops (fun a w=>∃E,s'.is B E a w) [o] a w:=ht.out E a w hs;unfold Gj at hg
 by_cases hw:Region.wanted o (yielded ops a.tmps)=true
 ·rw [if_pos hw] at hg
  rcases hg with ⟨v,hv,hn⟩|⟨hk,_⟩
  ·obtain ⟨E',hs'⟩:=hn
   exact Qx hi (Region.noSelect_spec h1) fuel listed a w h3 h2 (.inl ⟨hw,fun w'=>C16 h0 a.eval (hv w (Ez.refl w))⟩) (h.out E' _ w hs')
  exfalso
  apply hk
  cases ho:o.op<;>rw [ho] at h0<;>first|rfl|simp [B3k] at h0
 rw [if_neg hw] at hg;obtain ⟨E',hs'⟩:=hg;exact Qx hi (Region.noSelect_spec h1) fuel listed a w h3 h2 (.inr ⟨by simpa using hw,rfl⟩) (h.out E' _ w hs')
end Go.Sx
set_option maxRecDepth 100000
namespace Go.Sx
open Go
variable {P : Program} {T : List (TypeId × TI)}
theorem C3h {B:Be}{Q:Exit→Act→World→Prop}{H:World→Prop}{f:FuncId}{rest:List AV}{dst:Option Tmp}{K:List KI}{s:AS}{pins:List (Ai×Value)}{xs ins:List Gy}{ι:Type}{φ:ι→Prop}{outs:ι→List Gy}(x0s:List AV)
  (hf:J6 P H f pins xs ins φ outs)(hH:∀w,B.rel w→H w)(hp:M6 B pins)(ho:Oy s.own x0s xs)(hk:Gv (x0s.flatMap E9)=true)(r1:rest.length=ins.length)
  (hx:∀(E:E7) (a:Act) (w:World),s.is B E a w→∀X:Nat→Prop,A3j s E (x0s.flatMap E9) X→(∀u∈s.boxes,¬ X (E.β u.key))→∀(i:Nat) (z:Gy),ins[i]? =some z→∃y:AV,rest[i]? =some y∧∀v,Dr E w (s.avoid E) s.next y v→Ms w X z v)
  (h:∀i,φ i→GW P B Q K ((Iq (outs i) (N0 (x0s.flatMap E9) s)).2.put dst (Iq (outs i) (N0 (x0s.flatMap E9) s)).1)):CW P B Q false f (x0s++rest) dst K s:=by
 refine ⟨⟨hf.1,fun E a w hs vs hl hv=>?_⟩⟩;have hxl:=(Mo ho).1;have hvl:vs.length=x0s.length+rest.length:=by simpa using hl
 have hd1:∀i x,x0s[i]? =some x→Dr E w (s.avoid E) s.next x ((vs.take x0s.length).getD i undef):=by
  intro i x hi;have hil:i<x0s.length:=(List.getElem?_eq_some_iff.1 hi).1
  have:=hv i x (by rw [List.getElem?_append_left hil];exact hi)
  simpa [List.getD,List.getElem?_take,hil] using this
 have hd2:∀i x,rest[i]? =some x→Dr E w (s.avoid E) s.next x ((vs.drop x0s.length).getD i undef):=by
  intro i x hi
  have:=hv (x0s.length+i) x (by rw [List.getElem?_append_right Ad];simpa using hi)
  simpa [List.getD] using this
 obtain ⟨o1,o2,o3,o4⟩:=A1q hs hd1 hk ho
 let fps:Nat→List Nat:=fun i=>(E9 (Hs x0s i)).flatMap E.fp
 have hin:∀b,b∈Oh xs.length fps→∃k∈x0s.flatMap E9,∃y∈s.own,y.key=k∧b∈E.fp k:=by
  intro b hb;obtain ⟨i,hi,hb⟩:=List.mem_flatMap.1 hb;have hi:=List.mem_range.1 hi;obtain ⟨k,hk1,hb⟩:=List.mem_flatMap.1 hb;obtain ⟨y,hy,e⟩:=o3 i hi k hk1;refine ⟨k,List.mem_flatMap.2 ⟨Hs x0s i,?_,hk1⟩,y,hy,e,hb⟩;have hil:i<x0s.length:=by omega
  rw [Dc,List.getElem?_eq_getElem hil];exact List.getElem_mem hil
 have hX:A3j s E (x0s.flatMap E9) (fun b=>b∈Oh xs.length fps):=by
  refine ⟨fun b hb=>?_,fun y hy hne b hb hb'=>?_⟩
  ·obtain ⟨k,_,y,hy,rfl,hb⟩:=hin b hb
   exact .inr ⟨y,hy,hb⟩
  obtain ⟨k,hk1,y2,hy2,rfl,hb2⟩:=hin b hb';exact hs.sep y hy y2 hy2 (fun e=>hne (e▸hk1)) b hb hb2
 have hXb:∀u∈s.boxes,¬ (E.β u.key)∈Oh xs.length fps:=by
  intro u hu hb;obtain ⟨k,_,y,hy,rfl,hb⟩:=hin _ hb;exact hs.sepB u hu y hy hb
 have e:vs=vs.take x0s.length++vs.drop x0s.length:=(List.take_append_drop _ _).symm;rw [e];refine (hf.2 w (vs.take x0s.length) fps (vs.drop x0s.length) (by simp;omega) o1 o2 o4 (fun w' hr=>hH w' (B9v hs hX.av hr)) (hp.now hs hX.av) (by simp;omega) (fun i z hi=>?_)).mono (fun e w' ⟨i,hi,hg⟩=>?_)
 ·obtain ⟨y,hy,hro⟩:=hx E a w hs _ hX hXb i z hi
  exact hro _ (hd2 i y hy)
 obtain ⟨hrel,rs,gps,rfl,hrl,hro,hfr,hdis⟩:=hg;have hkept:=R8 hrel;have hI:=hs.drop (x0s.flatMap E9)
 have hX2:∀b,b∈Oh xs.length fps→s.avoid E b∧¬ (N0 (x0s.flatMap E9) s).avoid E b∧B.fresh b:=by
  intro b hb;refine ⟨hX.av b hb,?_,hs.fresh b (hX.av b hb)⟩
  rintro (⟨u,hu,rfl⟩|⟨u,hu,hb'⟩)
  ·obtain ⟨k,hk1,y,hy,rfl,hb⟩:=hin _ hb
   exact hs.sepB u hu y hy hb
  obtain ⟨q1,q2⟩:=Cr.1 hu;exact hX.own u q1 q2 b hb' hb
 have hI2:=hI.kept hkept hX2
 obtain ⟨E',hAd,hL,hD⟩:=Mu (outs i) rs gps (N0 (x0s.flatMap E9) s) E hI2 hrl hro (fun j hj=>(hfr j hj).1) hdis (fun j hj b hb=>by
  rcases (hfr j hj).2 b hb with h|h
  ·refine ⟨.inr h,fun hav=>?_,.inl (Nat.le_trans hs.base.size h)⟩
   have:=hs.avoid_lt (hI.sub b hav)
   have h:w.heap.size≤b:=h;omega
  obtain ⟨q1,q2,q3⟩:=hX2 b h
  exact ⟨.inl q1,q2,q3⟩)
 have hres:=Jz (outs i) (Ec (outs i) (N0 (x0s.flatMap E9) s)).1 rs hrl hL hD;have h:=h i hi;rw [Wh] at h;exact ⟨_,rfl,(fun h=>by cases h),h.rec fun g=>g E' _ w' ((hAd.isA.put dst hres).is)⟩
theorem B7c {B:Be}{Q:Exit→Act→World→Prop}{H:World→Prop}{f g:FuncId}{dst:Option Tmp}{K:List KI}{s:AS}{pins:List (Ai×Value)}{xs:List Gy}{ι:Type}{φ:ι→Prop}{outs:ι→List Gy}{k:Nat}{bx:Bx}{cs:List Ai}(x0s:List AV)
  (hf:J6 P H f pins xs [.fn g [.ptr cs]] φ outs)(hH:∀w,B.rel w→H w)(hp:M6 B pins)(ho:Oy s.own x0s xs)(hk:Gv (x0s.flatMap E9)=true)(hb:Fl s.boxes k=some bx)(hc:bx.cells=cs.map AV.c)
  (h:∀i,φ i→GW P B Q K ((Iq (outs i) (N0 (x0s.flatMap E9) s)).2.put dst (Iq (outs i) (N0 (x0s.flatMap E9) s)).1)):CW P B Q false f (x0s++[.fn g [.box k 0]]) dst K s:=
 C3h x0s hf hH hp ho hk rfl (fun E a w hs X hX hXb i z hi=>by
  match i,hi with
  | 0,hi=>
   obtain rfl:=Option.some.inj hi;refine ⟨_,rfl,fun v hd=>?_⟩
   cases hd with
   |fn vs hl hv=>
    refine ⟨vs,rfl,by simpa using hl,fun j c hj=>?_⟩
    match j,hj with
    | 0,hj=>
     obtain rfl:=Option.some.inj hj;have hd:=hv 0 (.box k 0) rfl;generalize hu:vs.getD 0 undef=u at hd ⊢;obtain ⟨hm,rfl⟩:=F3 hb;obtain ⟨_,ws,ty,h1,h2,h3⟩:=hs.boxes bx hm;have hlen:ws.size=cs.length:=by rw [h2,hc,List.length_map]
     cases hd with
     |box _ hk'=>
      refine ⟨_,_,1,rfl,.sl 1 cs.length _ (E.β bx.key) 0 1 (fun i j=>ws.getD (i * cs.length+j) undef) (fun _=>hXb bx hm) (Nat.le_refl _) (by simp only [maxLen];omega) (fun _ _=>rfl) (fun i j hi hj=>?_) (fun i j c hi hc'=>?_)⟩
      ·obtain rfl:i=0:=by omega
       have hj':0+0 * cs.length+j<ws.size:=by omega
       rw [cell_of_row w _ _ ws ty (0,0) h1]
       simp [Array.getD,show j<ws.size by omega]
      obtain rfl:i=0:=by omega
      have:=h3 j (.c c) (by rw [hc,List.getElem?_map,hc'];rfl)
      simp only [Nat.zero_mul,Nat.zero_add]
      cases this with
      |c hr=>exact hr.move (fun _ _ _=>rfl) (fun b _ hb=>hX.av b hb)
    |j+1,hj=>simp at hj
  |i+1,hi=>simp at hi) h
theorem B55 (hT:Cs P T){B:Be}{Q:Exit→Act→World→Prop}{q:Bool}{all:Array Oper}{o:Oper}{rest:List Oper}{K:List KI}{s:AS}{t e:TypeId}{x lo hi mx:Operand}{i j:TI}
  (hg:o.guard=none)(ho:o.op= .slice t x (some lo) (some hi) (some mx))(hi':find T t=some i)(he:i.elem=some e)(hj:find T e=some j)
  {k n es:Nat}{row:Nat→List Ai}(hx:s.ev x= .own k)(hk:Cb s.own k=some (.sl n es row)){l h m:Int}(hl:bnd s (some lo) 0=some l)(hh:bnd s (some hi) 0=some h)(hm:bnd s (some mx) 0=some m)(hb:0≤l∧l≤h∧h≤m∧m≤n)
  (hgo:GW P B Q (.ops q all rest::K) (s.put o.dst .any)):GW P B Q (.ops q all (o::rest)::K) s:=by
 refine ⟨Er hg (fun E a w hs=>?_)⟩;have hd:=hs.ev x;rw [hx] at hd
 have hv:a.eval x=E.ov k:=by
  generalize a.eval x=v at hd
  cases hd with
  |own _=>rfl
 have h1:=Kf hs hl;have h2:=Kf hs hh;have h3:=Kf hs hm;obtain ⟨_,o2,_⟩:=hs.own _ (Cp hk)
 have hsh:∃ad cap,E.ov k= .slice ad n cap∧n≤cap:=by
  simp only at o2
  generalize E.ov k=u,E.fp k=fp at o2
  cases o2 with
  |nil=>exact ⟨none,0,rfl,Nat.le_refl _⟩
  |emp=>exact ⟨_,0,rfl,Nat.le_refl _⟩
  |sl _ _ _ b off cap ty cells fps hn=>exact ⟨_,cap,rfl,hn⟩
 obtain ⟨ad,cap,hov,hcap⟩:=hsh;have hu:=Cm (hT t i hi') he;have hel:P.elem t=e:=by simp [Program.elem,hu]
 have hu':P.underlying t=some (.slice (P.elem t)):=by rw [hel];exact hu
 have hz:∀w,(sizeOf (P.elem t)).run P w= .ok j.size w:=fun w=>by rw [hel];exact C0 (hT e j hj) w
 rcases h1 with ⟨e1,_⟩|⟨k1,e1⟩
 ·simp at e1
 rcases h2 with ⟨e2,_⟩|⟨k2,e2⟩
 ·simp at e2
 rcases h3 with ⟨e3,_⟩|⟨k3,e3⟩
 ·simp at e3
 refine ⟨sliced ad l.toNat h.toNat m.toNat j.size,fun w' _=>?_,hgo.out E _ w (hs.put o.dst (.any _))⟩
 have hrun:(Instr.sliceAt t (.slice ad n cap) (some (a.eval lo)) (some (a.eval hi)) (some (a.eval mx))).run P w'= .ok (sliced ad l.toNat h.toNat m.toNat j.size) w':=by
  rw [run_sliceAt_slice w' t _ _ _ _ hu'];simp only [Option.map_some,Option.some.injEq] at e1 e2 e3;rw [e1,e2,e3,run_slice_lhm w' t _ n cap hu' k1 k2 k3 l h m Ad Ad Ad Ad,hz]
  simp [Result.andThen]
 obtain ⟨dst,op',ty,pos,after,guard⟩:=o
 simp only at ho
 subst ho
 simp [execOp,hv,hov,hrun]
theorem C4c (hT:Cs P T){B:Be}{Q:Exit→Act→World→Prop}{q:Bool}{all:Array Oper}{o:Oper}{rest:List Oper}{K:List KI}{s:AS}{t e:TypeId}{x:Operand}{lo:Option Operand}{i j:TI}
  (hg:o.guard=none)(ho:o.op= .slice t x lo none none)(hi':find T t=some i)(he:i.elem=some e)(hj:find T e=some j)
  {b ad n cap:Nat}(hx:s.ev x= .c (.val (Ll b ad n cap))){l:Int}(hl:bnd s lo 0=some l)(hb:0<l∧l=n∧n=cap)
  (hgo:GW P B Q (.ops q all rest::K) (s.put o.dst (.c (.val (Ll b ad 0 0))))):GW P B Q (.ops q all (o::rest)::K) s:=by
 obtain ⟨b0,rfl,rfl⟩:=hb;refine ⟨Er hg (fun E a w hs=>?_)⟩;have hd:=hs.ev x;rw [hx] at hd;have hv:=Bo hd;have h1:=Kf hs hl;have hu:=Cm (hT t i hi') he;have hel:P.elem t=e:=by simp [Program.elem,hu]
 have hu':P.underlying t=some (.slice (P.elem t)):=by rw [hel];exact hu
 have hz:∀w,(sizeOf (P.elem t)).run P w= .ok j.size w:=fun w=>by rw [hel];exact C0 (hT e j hj) w
 rcases h1 with ⟨_,e1⟩|⟨k1,e1⟩
 ·omega
 refine ⟨_,fun w' _=>?_,hgo.out E _ w (hs.put o.dst (.c (.val _ rfl)))⟩
 have hrun:(Instr.sliceAt t (Ll b ad n n) (lo.map a.eval) none none).run P w'= .ok (Ll b ad 0 0) w':=by
  rw [run_sliceAt_slice w' t _ _ _ _ hu',e1];unfold Ll;rw [run_slice_l w' t _ n n hu' k1 (n:Int) Ad Ad,hz]
  simp [Result.andThen,sliced]
 obtain ⟨dst,op',ty,pos,after,guard⟩:=o
 simp only at ho
 subst ho
 simp [execOp,hv,hrun]
theorem B78 {B:Be}{Q:Exit→Act→World→Prop}{K:List KI}{s:AS}(k j key:Nat){b:Bx}{c:Ai}(hb:Fl s.boxes k=some b)(hj:Hs b.cells j= .own key)(hk:Cb s.own key=some c)
  (h:GW P B Q K {s with own:=Bz [key] s.own,boxes:=F7 s.boxes k (D6 b.cells j (.c c))}):GW P B Q K s:=by
 refine ⟨fun E a w hs=>?_⟩;have hI:=(hs.drop [key]).is;have hm:=Cp hk
 have hrep:Qi w (({s with own:=Bz [key] s.own}:AS).avoid E) c (E.ov key):=(hs.own _ hm).2.1.rep (fun b hb=>by
  rintro (⟨u,hu,rfl⟩|⟨u,hu,hb'⟩)
  ·exact hs.sepB u hu _ hm hb
  obtain ⟨q1,q2⟩:=Cr.1 hu
  exact hs.sep _ hm u q1 (fun e=>q2 (by rw [←e];exact List.mem_singleton.2 rfl)) b hb hb')
 refine h.out E a w (AS.is.reBox hI hb (D6 b.cells j (.c c)) (fun vs h1 h2=>⟨by rw [Cn];exact h1,fun i y hy=>?_⟩));rw [Dv] at hy
 split at hy
 ·rename_i hm'
  obtain ⟨rfl,hm'⟩:=hm';obtain rfl:=Option.some.inj hy
  have:=h2 j (.own key) (by rw [Dc,List.getElem?_eq_getElem hm'] at hj;rw [List.getElem?_eq_getElem hm'];simpa using hj)
  generalize vs.getD j undef=u at this ⊢
  cases this with
  |own _=>exact .c hrep
 exact h2 i y hy
end Go.Sx
