/- Part 5 of the proof that each of the laws FnTotals returns true for every input. No conditions. -/
import Derived.Test.YtdendlkeiaccpaaGreatP4
import Derived.Lib.AppendZerosOnto
import Derived.Lib.Overlaps

set_option linter.unusedSimpArgs false
set_option linter.unusedVariables false
set_option maxRecDepth 100000
namespace Go.Sx
open Go
variable {P : Program} {T : List (TypeId × TI)}
theorem B39 {a b:Nat}(h:Nat.blt a b=true):a<b:=Nat.le_of_ble_eq_true h
theorem B0k {B:B0}{Q:Exit→Act→World→Prop}{K:List KI}{s:AS}(l:List Ow)(hp0:(s.own.map (·.key)).Nodup→l.Perm s.own)(h:GW P B Q K {s with own:=l}):GW P B Q K s:=by
 refine ⟨fun E a w hs=>?_⟩
 have hp:=hp0 hs.ownkeys
 have hav:({s with own:=l}:AS).avoid E=s.avoid E:=by
  funext b
  refine propext ⟨?_,?_⟩
  ·rintro (h|⟨y,hy,h⟩)
   ·exact .inl h
   exact .inr ⟨y,hp.mem_iff.1 hy,h⟩
  rintro (h|⟨y,hy,h⟩)
  ·exact .inl h
  exact .inr ⟨y,hp.mem_iff.2 hy,h⟩
 refine h.out E a w ⟨hs.defers,hs.links,hs.size,?_,?_,hs.boxes2,hs.keys,fun y hy=>hs.own y (hp.mem_iff.1 hy),(hp.map _).nodup_iff.2 hs.ownkeys,fun y hy z hz=>hs.sep y (hp.mem_iff.1 hy) z (hp.mem_iff.1 hz),fun x hx y hy=>hs.sepB x hx y (hp.mem_iff.1 hy),hs.one,hs.base,?_⟩
 ·rw [hav];exact hs.slots
 ·rw [hav];exact hs.boxes
 rw [hav];exact hs.fresh
theorem Q6 {k j:Nat}:Qq j [k]=true↔j=k:=by rw [F5];simp
theorem A2u {k j:Nat}(h:j≠k):Qq j [k]=false:=by
 cases hh:Qq j [k] with
 |false=>rfl
 |true=>exact absurd (Q6.1 hh) h
theorem A3b {ks:List Nat}:∀(m:List Ow),(∀y∈m,y.key∉ks)→Bl ks m=m:=by
 intro m
 induction m with
 |nil=>intro _;rfl
 |cons z m ih=>
  intro hm
  have hz:Qq z.key ks=false:=by
   cases hh:Qq z.key ks with
   |false=>rfl
   |true=>exact absurd (F5.1 hh) (hm z Cg)
  simp only [Bl,hz,ih (fun y hy=>hm y (List.mem_cons_of_mem _ hy))]
theorem Tz {k:Nat}{c:Ae}:∀(l:List Ow),(l.map (·.key)).Nodup→Bw l k=some c→((⟨k,c⟩:Ow)::Bl [k] l).Perm l:=by
 intro l
 induction l with
 |nil=>intro _ hg;simp [Bw] at hg
 |cons y r ih=>
  intro hnd hg
  simp only [List.map_cons,List.nodup_cons] at hnd
  unfold Bw at hg
  cases hb:Nat.beq y.key k with
  |true=>
   have he:=Nat.eq_of_beq_eq_true hb
   rw [hb] at hg
   have hc:y.cell=c:=by simpa using hg
   have hr:Bl [k] r=r:=A3b r (fun z hz e=>hnd.1 (by rw [he,←(show z.key=k by simpa using e)];exact List.mem_map_of_mem hz))
   have hin:Qq y.key [k]=true:=Q6.2 he
   simp only [Bl,hin,hr]
   have:(⟨k,c⟩:Ow)=y:=by cases y;simp_all
   rw [this]
  |false=>
   rw [hb] at hg
   have hin:Qq y.key [k]=false:=A2u (fun e=>by rw [e] at hb;simp at hb)
   simp only [Bl,hin]
   exact (List.Perm.swap _ _ _).trans ((ih hnd.2 hg).cons _)
def nSl:List Ae→Nat
 | []=>0
 |c::r=>match Kz c with|true=>nSl r+1|false=>nSl r
def opO (k:Nat):List Ae→List Ow
 | []=>[]
 |c::r=>match Kz c with|true=>⟨k,c⟩::opO (k+1) r|false=>opO k r
def Vx (k:Nat) (u:Nat→Value):List Ae→List Ae
 | []=>[]
 |c::r=>match Kz c with|true=> .val (u k)::Vx (k+1) u r|false=>c::Vx k u r
def Zk (k:Nat) (u:Nat→Value) (l:List (Nat×Value)):List Ae→List (Nat×Value)
 | []=>l
 |c::r=>match Kz c with|true=>Zk (k+1) u ((k,u k)::l) r|false=>Zk k u l r
def opA (k:Nat):List Ae→List AV
 | []=>[]
 |c::r=>match Kz c with|true=> .own k::opA (k+1) r|false=> .c c::opA k r
theorem B25 (k:Nat)(u:Nat→Value)(r:List Ae):(Vx k u r).length=r.length:=by
 induction r generalizing k with
 |nil=>rfl
 |cons c r ih=>cases c<;>simp [Vx,Kz,ih]
theorem A6z {k:Nat}{u u':Nat→Value}{r:List Ae}(h:∀i,k≤i→u i=u' i):Vx k u r=Vx k u' r:=by
 induction r generalizing k with
 |nil=>rfl
 |cons c r ih=>
  cases c with
  |val v=>simp only [Vx,Kz];rw [ih h]
  |sl n es row=>simp only [Vx,Kz];rw [h k (Nat.le_refl _),ih (fun i hi=>h i Ab)]
theorem A60 {k:Nat}{u u':Nat→Value}{r:List Ae}{l:List (Nat×Value)}(h:∀i,k≤i→u i=u' i):Zk k u l r=Zk k u' l r:=by
 induction r generalizing k l with
 |nil=>rfl
 |cons c r ih=>
  cases c with
  |val v=>simp only [Zk,Kz];rw [ih h]
  |sl n es row=>simp only [Zk,Kz];rw [h k (Nat.le_refl _),ih (fun i hi=>h i Ab)]
theorem A3c (k:Nat)(l:List Ow):Bl [k] (Bl [k] l)=Bl [k] l:=by
 induction l with
 |nil=>rfl
 |cons y r ih=>
  simp only [Bl]
  cases h:Qq y.key [k] with
  |true=>simp only [ih]
  |false=>simp only [Bl,h,ih]
theorem A3r (d:List Ae)(c:Ae)(t:List Ae)(v:Ae):Cy (d++c::t) d.length [v]=d++v::t:=by
 unfold Cy
 rw [List.take_left,List.length_singleton,show d.length+1=(d++[c]).length by simp,show d++c::t=(d++[c])++t by simp,List.drop_left]
 simp
theorem Ko {k n:Nat}{c:Ae}{l:List Ow}(h:n≠k):Bw (⟨n,c⟩::l) k=Bw l k:=by
 have:Nat.beq n k=false:=by
  cases hb:Nat.beq n k with
  |false=>rfl
  |true=>exact absurd (Nat.eq_of_beq_eq_true hb) h
 simp only [Bw,this]
theorem J1 {k:Nat}{c:Ae}{l:List Ow}:Bw (⟨k,c⟩::l) k=some c:=by
 have:Nat.beq k k=true:=by simp
 simp only [Bw,this]
theorem B0l {α:Type}(A:List α)(x y:α)(R:List α):(x::(A++y::R)).Perm (A++y::x::R):=
 ((List.perm_middle (a:=y) (l₁:=A) (l₂:=R)).cons x).trans ((List.Perm.swap y x (A++R)).trans (((List.perm_middle (a:=x) (l₁:=A) (l₂:=R)).symm.cons y).trans (List.perm_middle (a:=y) (l₁:=A) (l₂:=x::R)).symm))
theorem B5x {B:B0}{Q:Exit→Act→World→Prop}{K:List KI}(k jn:Nat){es n:Nat}{row:Nat→List Ae}(hj:jn<n):∀(todo done:List Ae) {s:AS} (_:k<s.next)
  (_:Bw s.own k=some (.sl n es (Ey row jn (done++todo))))
  (_:∀u,GW P B Q K {s with own:=opO s.next todo++⟨k,.sl n es (Ey row jn (done++Vx s.next u todo))⟩::Bl [k] s.own,next:=s.next+nSl todo,links:=Zk s.next u s.links todo}),GW P B Q K s:=by
 intro todo
 induction todo with
 |nil=>
  intro done s hlt hk h
  have:=h fun _=>undef
  simp only [opO,Vx,nSl,Zk,List.nil_append,Nat.add_zero] at this
  exact B0k _ (fun hnd=>Tz _ hnd hk) this
 |cons c todo ih=>
  intro done s hlt hk h
  cases c with
  |val v=>
   refine ih (done++[.val v]) hlt (by simpa using hk) (fun u=>?_)
   have:=h u
   simpa [opO,Vx,nSl,Zk,Kz] using this
  |sl m fs rw'=>
   refine B4j k jn done.length hk hj (c:= .sl m fs rw') Cg (fun v=>?_)
   rw [A3r]
   have hne:s.next≠k:=by omega
   refine ih (done++[.val v]) (s:= {s with own:=⟨s.next,.sl m fs rw'⟩::⟨k,.sl n es (Ey row jn (done++ .val v::todo))⟩::Bl [k] s.own,next:=s.next+1,links:=(s.next,v)::s.links}) (by simp only;omega)
    (by simp only;rw [Ko hne,J1];simp) (fun u=>?_)
   have hu:=h (fun i=>if i=s.next then v else u i)
   have e1:Vx (s.next+1) (fun i=>if i=s.next then v else u i) todo=Vx (s.next+1) u todo:=A6z (fun i hi=>by rw [if_neg Ab])
   have e2:∀l,Zk (s.next+1) (fun i=>if i=s.next then v else u i) l todo=Zk (s.next+1) u l todo:=fun l=>A60 (fun i hi=>by rw [if_neg Ab])
   simp only [opO,Vx,Zk,nSl,Kz,if_true,e1,e2] at hu
   have e3:Bl [k] (⟨s.next,.sl m fs rw'⟩::⟨k,.sl n es (Ey row jn (done++ .val v::todo))⟩::Bl [k] s.own)=⟨s.next,.sl m fs rw'⟩::Bl [k] s.own:=by
    have a1:Qq s.next [k]=false:=A2u hne
    have a2:Qq k [k]=true:=Q6.2 rfl
    simp only [Bl,a1,a2,A3c]
   simp only [e3]
   rw [show s.next+1+nSl todo=s.next+(nSl todo+1) by omega]
   refine B0k _ (fun _=>?_) (by simpa using hu)
   simp only [List.append_assoc,List.cons_append,List.nil_append]
   exact B0l _ _ _ _
def A0w (links:List (Nat×Value)):List AV→List AV→Prop
 | [],[]=>True
 |x::xs,y::ys=>(x=y∨∃k v,x= .c (.val v)∧y= .own k∧En links k=some v)∧A0w links xs ys
 |_,_=>False
theorem X6 {links:List (Nat×Value)}:∀{xs ys:List AV},A0w links xs ys→xs.length=ys.length∧∀(i:Nat) y,ys[i]? =some y→∃x,xs[i]? =some x∧(x=y∨∃k v,x= .c (.val v)∧y= .own k∧En links k=some v)
 | [],[],_=>⟨rfl,fun i y h=>by simp at h⟩
 |x::xs,y::ys,h=>by
  obtain ⟨h1,h2⟩:=h
  obtain ⟨g1,g2⟩:=X6 h2
  refine ⟨by simp [g1],fun i z hz=>?_⟩
  cases i with
  |zero=>exact ⟨x,rfl,by simpa using (Option.some.inj hz)▸h1⟩
  |succ i=>simpa using g2 i z (by simpa using hz)
 | [],_::_,h=>h.elim
 |_::_,[],h=>h.elim
theorem B16 {E:Cz}{w:World}{A:Nat→Prop}{N:Nat}{links:List (Nat×Value)}{xs ys:List AV}{v:Value}(hl:A0w links xs ys)(hE:∀p∈links,p.1<N∧E.ov p.1=p.2)(h:Cu E w A N (.agg xs) v):Cu E w A N (.agg ys) v:=by
 obtain ⟨g1,g2⟩:=X6 hl
 cases h with
 |agg vs hvl hx=>
  refine .agg vs Ab (fun i y hy=>?_)
  obtain ⟨x,hx1,hx2⟩:=g2 i y hy
  have:=hx i x hx1
  rcases hx2 with rfl|⟨k,u,rfl,rfl,hk⟩
  ·exact this
  obtain ⟨q1,q2⟩:=hE _ (Hn hk)
  have q2:E.ov k=u:=q2
  rw [Bn this,←q2]
  exact .own q1
theorem B3b {B:B0}{Q:Exit→Act→World→Prop}{K:List KI}{s:AS}(d:Option Tmp){xs ys:List AV}(hl:A0w s.links xs ys)(h:GW P B Q K (s.put d (.agg ys))):GW P B Q K (s.put d (.agg xs)):=by
 cases d with
 |none=>exact h
 |some d=>
  refine ⟨fun E a w hs=>h.out E a w ⟨hs.defers,hs.links,by rw [hs.size];simp [AS.put,Ci],fun m z hz=>?_,hs.boxes,hs.boxes2,hs.keys,hs.own,hs.ownkeys,hs.sep,hs.sepB,hs.one,hs.base,hs.fresh⟩⟩
  simp only [AS.put] at hz
  rw [Dh] at hz
  split at hz
  ·rename_i hm
   obtain ⟨rfl,hm⟩:=hm
   obtain rfl:=Option.some.inj hz
   have hd:=hs.slots d (.agg xs) (by show (Cm s.slots d (.agg xs))[d]? =_;rw [Dh,if_pos ⟨rfl,hm⟩])
   exact B16 hl hs.links hd
  rename_i hm
  exact hs.slots m z (by simp only [AS.put,Dh];rw [if_neg hm];exact hz)
theorem Yf {k n:Nat}{v:Value}{l:List (Nat×Value)}(h:n≠k):En ((n,v)::l) k=En l k:=by
 have:Nat.beq n k=false:=by
  cases hb:Nat.beq n k with
  |false=>rfl
  |true=>exact absurd (Nat.eq_of_beq_eq_true hb) h
 simp only [En,this]
theorem A0o (u:Nat→Value):∀(r:List Ae) (k j:Nat) (l:List (Nat×Value)),j<k→En (Zk k u l r) j=En l j:=by
 intro r
 induction r with
 |nil=>intro k j l _;rfl
 |cons c r ih=>
  intro k j l h
  cases c with
  |val v=>simp only [Zk,Kz];exact ih k j l h
  |sl n es row=>simp only [Zk,Kz];rw [ih (k+1) j _ Ab,Yf Ab]
theorem B24 (u:Nat→Value):∀(r:List Ae) (k:Nat) (l:List (Nat×Value)) (xs:List AV),J9 (Vx k u r)=some xs→A0w (Zk k u l r) xs (opA k r):=by
 intro r
 induction r with
 |nil=>intro k l xs h;obtain rfl:=Option.some.inj h;trivial
 |cons c r ih=>
  intro k l xs h
  cases c with
  |val v=>
   simp only [Vx,Kz,J9] at h
   split at h
   ·rename_i cs hcs
    obtain rfl:=Option.some.inj h
    exact ⟨.inl rfl,ih k l cs hcs⟩
   cases h
  |sl n es row=>
   simp only [Vx,Kz,J9] at h
   split at h
   ·rename_i cs hcs
    obtain rfl:=Option.some.inj h
    refine ⟨.inr ⟨k,u k,rfl,rfl,?_⟩,ih (k+1) _ cs hcs⟩
    simp only [Zk,Kz]
    rw [A0o u r (k+1) k _ Ab]
    have:Nat.beq k k=true:=by simp
    simp only [En,this]
   cases h
theorem Ug (u:Nat→Value):∀(r:List Ae) (k:Nat),∃xs,J9 (Vx k u r)=some xs∧xs.length=r.length
 | [],_=>⟨[],rfl,rfl⟩
 | .val v::r,k=>by
  obtain ⟨xs,h1,h2⟩:=Ug u r k
  exact ⟨.c (.val v)::xs,by simp [Vx,Kz,J9,h1],by simp [h2]⟩
 | .sl n es row::r,k=>by
  obtain ⟨xs,h1,h2⟩:=Ug u r (k+1)
  exact ⟨.c (.val (u k))::xs,by simp [Vx,Kz,J9,h1],by simp [h2]⟩
theorem A2q {k j:Nat}(r:List Ae)(l:List Ow)(h:j<k):Bw (opO k r++l) j=Bw l j:=by
 induction r generalizing k with
 |nil=>rfl
 |cons c r ih=>
  cases c with
  |val v=>simp only [opO,Kz];exact ih h
  |sl n es row=>simp only [opO,Kz,List.cons_append];rw [Ko Ab,ih Ab]
theorem Up (hT:Cn P T){B:B0}{Q:Exit→Act→World→Prop}{q:Bool}{all:Array Oper}{o:Oper}{rest:List Oper}{K:List KI}{s:AS}{x:Operand}{t:TypeId}{i:TI}
  (hg:o.guard=none)(ho:o.op= .load t x)(hi:E9 T t=some i){k es n jn:Nat}{j:Int}{row:Nat→List Ae}{r:List Ae}
  (hx:s.ev x= .oel k es j 0)(hk:Bw s.own k=some (.sl n es row))(hjn:j.toNat=jn)(hr:row jn=r)(hj:jn<n)(hlt:Nat.blt k s.next=true)(hsz:(i.agg&&Nat.beq i.size r.length)=true)
  (h:∀u,GW P B Q (.ops q all rest::K) (({s with own:=opO s.next r++⟨k,.sl n es (Ey row jn (Vx s.next u r))⟩::Bl [k] s.own,next:=s.next+nSl r,links:=Zk s.next u s.links r}:AS).put o.dst (.agg (opA s.next r)))):
  GW P B Q (.ops q all (o::rest)::K) s:=by
 simp only [Bool.and_eq_true] at hsz
 obtain ⟨hag,hsz⟩:=hsz
 have hsz:=Nat.eq_of_beq_eq_true hsz
 have hlt:=B39 hlt
 refine B5y k jn hk hr ?_
 have hko:Bw (Fy s.own k (.sl n es (Ey row jn r))) k=some (.sl n es (Ey row jn r)):=by
  generalize s.own=l at hk
  induction l with
  |nil=>simp [Bw] at hk
  |cons y l ih=>
   unfold Bw at hk
   unfold Fy
   cases hb:Nat.beq y.key k with
   |true=>exact J1
   |false=>
    rw [hb] at hk
    simp only [Bw,hb]
    exact ih hk
 have hrem:Bl [k] (Fy s.own k (.sl n es (Ey row jn r)))=Bl [k] s.own:=by
  generalize s.own=l
  induction l with
  |nil=>rfl
  |cons y l ih=>
   unfold Fy
   cases hb:Nat.beq y.key k with
   |true=>
    have he:=Nat.eq_of_beq_eq_true hb
    have a1:Qq y.key [k]=true:=Q6.2 he
    have a2:Qq k [k]=true:=Q6.2 rfl
    simp only [Bl,a1,a2,ih]
   |false=>
    have a1:Qq y.key [k]=false:=A2u (fun e=>by rw [e] at hb;simp at hb)
    simp only [Bl,a1,ih]
 refine B5x k jn hj r [] hlt (by simpa using hko) (fun u=>?_)
 simp only [List.nil_append,hrem]
 obtain ⟨xs,hf,hfl⟩:=Ug u r s.next
 refine B5m hT hg ho hi (r:=Vx s.next u r) (xs:=xs) hx (by simp only;rw [A2q _ _ hlt,J1]) hjn hf (by rw [B25,hsz];simp) ?_
 have hre:Ij i xs 0= .agg xs:=by
  unfold Ij
  rw [hag]
  simp [seg,hsz,←hfl]
 rw [hre]
 exact B3b o.dst (B24 u r s.next s.links xs hf) (h u)
theorem A2r {ks:List Nat}{l:List Ow}{k:Nat}(h:k∉ks):Bw (Bl ks l) k=Bw l k:=by
 induction l with
 |nil=>rfl
 |cons y l ih=>
  cases hb:Qq y.key ks with
  |true=>
   have hm:=F5.1 hb
   have hne:y.key≠k:=fun e=>h (e▸hm)
   simp only [Bl,hb]
   rw [show y=⟨y.key,y.cell⟩ from rfl,Ko hne,ih]
  |false=>
   simp only [Bl,hb,Bw,ih]
theorem A1e (ks js:List Nat)(l:List Ow):Bl ks (Bl js l)=Bl (js++ks) l:=by
 induction l with
 |nil=>rfl
 |cons y l ih=>
  cases hb:Qq y.key js with
  |true=>
   have:Qq y.key (js++ks)=true:=F5.2 (List.mem_append_left _ (F5.1 hb))
   simp only [Bl,hb,this,ih]
  |false=>
   cases hc:Qq y.key ks with
   |true=>
    have:Qq y.key (js++ks)=true:=F5.2 (List.mem_append_right _ (F5.1 hc))
    simp only [Bl,hb,hc,this,ih]
   |false=>
    have:Qq y.key (js++ks)=false:=by
     cases hd:Qq y.key (js++ks) with
     |false=>rfl
     |true=>
      rcases List.mem_append.1 (F5.1 hd) with h|h
      ·rw [F5.2 h] at hb;cases hb
      rw [F5.2 h] at hc;cases hc
    simp only [Bl,hb,hc,this,ih]
theorem A1d {ks js:List Nat}(h:∀k,k∈ks↔k∈js)(l:List Ow):Bl ks l=Bl js l:=by
 induction l with
 |nil=>rfl
 |cons y l ih=>
  have:Qq y.key ks=Qq y.key js:=by
   rw [Bool.eq_iff_iff,F5,F5];exact h _
  simp only [Bl,this,ih]
def Rf (l:List Ae) (i:Nat) (c:Ae):List Ae:=
 match l,i with
 | [],_=>[]
 |_::r,0=>c::r
 |x::r,i+1=>x::Rf r i c
theorem S8 (c:Ae):∀(l:List Ae) (i:Nat),i<l.length→Rf l i c=Cy l i [c]
 | [],_,h=>absurd h (Nat.not_lt_zero _)
 |x::r,0,_=>by simp [Rf,Cy]
 |x::r,i+1,h=>by
  have:=S8 c r i (by simpa using h)
  simp only [Rf,this,Cy,List.length_singleton,List.take_succ_cons,List.cons_append,List.drop_succ_cons]
theorem V5 (c:Ae):∀(l:List Ae) (i j:Nat),i≠j→(Rf l i c)[j]? =l[j]?
 | [],_,_,_=>rfl
 |x::r,0,j,h=>by cases j with
  |zero=>exact absurd rfl h
  |succ j=>rfl
 |x::r,i+1,j,h=>by cases j with
  |zero=>rfl
  |succ j=>simpa [Rf] using V5 c r i j Ab
def Nj (own:List Ow) (r:List Ae):List (Nat×Nat)→Option (List Ae)
 | []=>some r
 |(off,k)::ps=>match Bw own k with
  |some c=>Nj own (Rf r off c) ps
  |none=>none
def Pb (links:List (Nat×Value)) (r:List Ae):List (Nat×Nat)→Prop
 | []=>True
 |(off,k)::ps=>(∃v,r[off]? =some (.val v)∧En links k=some v)∧Pb links r ps
theorem V6 {links:List (Nat×Value)}{r:List Ae}{off:Nat}{c:Ae}:∀{ps:List (Nat×Nat)},off∉ps.map Prod.fst→Pb links r ps→Pb links (Rf r off c) ps
 | [],_,_=>trivial
 |(o,k)::ps,hn,h=>by
  simp only [List.map_cons,List.mem_cons,not_or] at hn
  obtain ⟨⟨v,h1,h2⟩,h3⟩:=h
  exact ⟨⟨v,by rw [V5 _ _ _ _ hn.1];exact h1,h2⟩,V6 hn.2 h3⟩
theorem B52 {B:B0}{Q:Exit→Act→World→Prop}{K:List KI}(k jn:Nat){es n:Nat}{row:Nat→List Ae}(hj:jn<n):∀(ps:List (Nat×Nat)) (r r':List Ae) {s:AS}
  (_:Bw s.own k=some (.sl n es (Ey row jn r))) (_:(k::ps.map Prod.snd).Nodup) (_:(ps.map Prod.fst).Nodup) (_:Pb s.links r ps) (_:Nj s.own r ps=some r')
  (_:GW P B Q K {s with own:=⟨k,.sl n es (Ey row jn r')⟩::Bl (k::ps.map Prod.snd) s.own}),GW P B Q K s:=by
 intro ps
 induction ps with
 |nil=>
  intro r r' s hk hn hf ho hc h
  obtain rfl:=Option.some.inj hc
  exact B0k _ (fun hnd=>Tz _ hnd hk) h
 |cons p ps ih=>
  obtain ⟨off,k2⟩:=p
  intro r r' s hk hn hf ho hc h
  have hn':=hn
  simp only [List.map_cons] at hn hf
  obtain ⟨hkk',hn2⟩:=List.nodup_cons.1 hn
  obtain ⟨hk2ps,hps⟩:=List.nodup_cons.1 hn2
  obtain ⟨hoffps,hfps⟩:=List.nodup_cons.1 hf
  have hkk:k≠k2:=fun e=>hkk' (by rw [e];exact List.mem_cons_self ..)
  have hkps:k∉ps.map Prod.snd:=fun e=>hkk' (List.mem_cons_of_mem _ e)
  obtain ⟨⟨v,hv1,hv2⟩,ho⟩:=ho
  unfold Nj at hc
  split at hc
  ·rename_i c hg
   have hoff:off<r.length:=(List.getElem?_eq_some_iff.1 hv1).1
   refine B1j k k2 off hk hj hv1 hg hv2 (by cases hb:Nat.beq k k2 with|false=>rfl|true=>exact absurd (Nat.eq_of_beq_eq_true hb) hkk) (S8 c r off hoff).symm ?_
   have hrem:Bl (k::ps.map Prod.snd) (⟨k,.sl n es (Ey row jn (Rf r off c))⟩::Bl [k,k2] s.own)=Bl (k::k2::ps.map Prod.snd) s.own:=by
    have a1:Qq k (k::ps.map Prod.snd)=true:=F5.2 (List.mem_cons_self ..)
    simp only [Bl,a1]
    rw [A1e]
    refine A1d (fun z=>?_) _
    generalize ps.map Prod.snd=m
    simp only [List.cons_append,List.nil_append,List.mem_cons]
    constructor
    ·rintro (h|h|h|h)
     ·exact .inl h
     ·exact .inr (.inl h)
     ·exact .inl h
     exact .inr (.inr h)
    rintro (h|h|h)
    ·exact .inl h
    ·exact .inr (.inl h)
    exact .inr (.inr (.inr h))
   have hgo:∀z,z∈ps.map Prod.snd→Bw (⟨k,.sl n es (Ey row jn (Rf r off c))⟩::Bl [k,k2] s.own) z=Bw s.own z:=by
    intro z hz
    have z1:k≠z:=fun e=>hkps (e▸hz)
    have z2:k2≠z:=fun e=>hk2ps (e▸hz)
    rw [Ko z1,A2r (by simp only [List.mem_cons,List.not_mem_nil,or_false];rintro (e|e);exact z1 e.symm;exact z2 e.symm)]
   have hsh:∀(qs:List (Nat×Nat)) (r0:List Ae),(∀z∈qs.map Prod.snd,z∈ps.map Prod.snd)→Nj (⟨k,.sl n es (Ey row jn (Rf r off c))⟩::Bl [k,k2] s.own) r0 qs=Nj s.own r0 qs:=by
    intro qs
    have:∀(own':List Ow),(∀z,z∈ps.map Prod.snd→Bw own' z=Bw s.own z)→∀(r:List Ae),(∀z∈qs.map Prod.snd,z∈ps.map Prod.snd)→Nj own' r qs=Nj s.own r qs:=by
     intro own' ho'
     induction qs with
     |nil=>intro r _;rfl
     |cons q qs ih2=>
      obtain ⟨o2,k3⟩:=q
      intro r hz
      unfold Nj
      rw [ho' k3 (hz k3 Cg)]
      split
      ·exact ih2 _ (fun z hz'=>hz z (by simp only [List.map_cons];exact List.mem_cons_of_mem _ hz'))
      rfl
    exact this _ hgo
   refine ih (Rf r off c) r' (s:= {s with own:=⟨k,.sl n es (Ey row jn (Rf r off c))⟩::Bl [k,k2] s.own}) J1 (List.nodup_cons.2 ⟨hkps,hps⟩) hfps (V6 hoffps ho) (by simp only;rw [hsh ps _ (fun _ h=>h)];exact hc) ?_
   simp only
   rw [hrem]
   exact h
  cases hc
theorem Mq {B:B0}{Q:Exit→Act→World→Prop}{K:List KI}{s:AS}(k jn:Nat)(ps:List (Nat×Nat)){es n:Nat}{row:Nat→List Ae}{r r':List Ae}(c:Ae)(hj:jn<n)
  (hk:Bw s.own k=some (.sl n es (Ey row jn r)))(hn:(F9 (k::ps.map Prod.snd)&&F9 (ps.map Prod.fst))=true)(ho:Pb s.links r ps)(hc:Nj s.own r ps=some r')(hcast:Ge (.sl n es (Ey row jn r')) c)
  (h:GW P B Q K {s with own:=⟨k,c⟩::Bl (k::ps.map Prod.snd) s.own}):GW P B Q K s:=by
 simp only [Bool.and_eq_true] at hn
 refine B52 k jn hj ps r r' hk (Dg hn.1) (Dg hn.2) ho hc ?_
 refine Dv k c J1 hcast ?_
 have e1:Nat.beq k k=true:=by simp
 have e2:Fy (Bl (k::ps.map Prod.snd) s.own) k c=Bl (k::ps.map Prod.snd) s.own:=by
  have:∀(l:List Ow),(∀y∈l,y.key≠k)→Fy l k c=l:=by
   intro l
   induction l with
   |nil=>intro _;rfl
   |cons y l ih=>
    intro hl
    have hb:Nat.beq y.key k=false:=by
     cases hb:Nat.beq y.key k with
     |false=>rfl
     |true=>exact absurd (Nat.eq_of_beq_eq_true hb) (hl y Cg)
    simp only [Fy,hb,ih (fun z hz=>hl z (List.mem_cons_of_mem _ hz))]
  exact this _ (fun y hy e=>(C5.1 hy).2 (by rw [e];exact List.mem_cons_self ..))
 simp only [Fy,e1,e2]
 exact h
theorem A9u (hT:Cn P T){B:B0}{Q:Exit→Act→World→Prop}{q:Bool}{all:Array Oper}{o:Oper}{rest:List Oper}{K:List KI}{s:AS}{x:Operand}{t:TypeId}{i:TI}
  (hg:o.guard=none)(ho:o.op= .load t x)(hi:E9 T t=some i)(hag:i.agg=false){k es off n jn:Nat}{j:Int}{row:Nat→List Ae}{r:List Ae}{v:Value}
  (hx:s.ev x= .oel k es j off)(hk:Bw s.own k=some (.sl n es row))(hjn:j.toNat=jn)(hr:row jn=r)(hc:r[off]? =some (.val v))
  (h:GW P B Q (.ops q all rest::K) (s.put o.dst (.c (.val v)))):GW P B Q (.ops q all (o::rest)::K) s:=by
 refine ⟨Ei hg (fun E a w hs=>?_)⟩
 have hm:=Ck hk
 obtain ⟨hklt,o2,o3⟩:=hs.own _ hm
 simp only at o2 o3 hklt
 have hev:=hs.ev x
 rw [hx] at hev
 generalize hv:a.eval x=v' at hev
 cases hev with
 |oel _ b o' n' cap hkl hov h0 hj=>
  rw [hov] at o2
  obtain ⟨m,rfl⟩:=Int.eq_ofNat_of_zero_le h0
  simp only [Int.toNat_natCast,Int.ofNat_lt] at *
  subst hjn
  generalize E.fp k=fp at o2
  cases o2 with
  |emp=>exact absurd hj (Nat.not_lt_zero _)
  |sl _ _ _ _ offb _ ty cells fps hn hc' hb hsz hl hr'=>
   have hoff:off<es:=by rw [←hl m hj,hr];exact (List.getElem?_eq_some_iff.1 hc).1
   have hin:=hr' m off _ hj (by rw [hr];exact hc)
   have hcl:(offb+m) * es+off<cells.size:=by
    have:=Fb (show offb+m<offb+cap by omega) hoff
    omega
   have hval:cells.getD ((offb+m) * es+off) undef=v∧v.oneCell'=true:=by
    generalize cells.getD ((offb+m) * es+off) undef=u,fps (m * es+off)=g at hin
    cases hin with
    |val _ h1=>exact ⟨rfl,h1⟩
   obtain ⟨hval,h1v⟩:=hval
   refine ⟨v,fun w' hkw=>?_,h.out E _ w (hs.put o.dst (.c (.val v h1v)))⟩
   obtain ⟨dst,op',ty',pos,after,guard⟩:=o
   simp only at ho
   subst ho
   obtain ⟨f,d,z,S⟩:=TI.of_spec (hT t i hi)
   have h1:=S.one (by rw [←S.agg];exact hag)
   have hrun:=Fv (hT t i hi) w' b (offb * es+m * es+off) ((List.range i.size).map fun _=>v) Cg (fun p hp=>by
    obtain rfl:p=0:=by omega
    refine hkw.cell ?_
    rw [show offb * es+m * es+off+0=(offb+m) * es+off by rw [Nat.add_mul];omega,cell_of_row w b _ cells ty (0,0) hb]
    simp only [h1,List.range_one,List.map_cons,List.map_nil,List.getD_cons_zero]
    rw [←hval,Array.getD_eq_getD_getElem?]
    simp [hcl])
   simp only [execOp,hv,Instr.loadAt,Instr.sureAddr,Sem.run_bind,Sem.run_pure,Result.andThen_ok,hrun,hag,h1]
   rfl
theorem I1 (hT:Cn P T){B:B0}{Q:Exit→Act→World→Prop}{q:Bool}{all:Array Oper}{o:Oper}{rest:List Oper}{K:List KI}{s:AS}{x:Operand}{t:TypeId}{i:TI}
  (hg:o.guard=none)(ho:o.op= .load t x)(hi:E9 T t=some i)(hag:i.agg=false){k es off n jn:Nat}{j:Int}{row:Nat→List Ae}{r:List Ae}{c:Ae}
  (hx:s.ev x= .oel k es j off)(hk:Bw s.own k=some (.sl n es row))(hjn:j.toNat=jn)(hr:row jn=r)(hc:r[off]? =some c)
  (h:∀v,GW P B Q (.ops q all rest::K) (({s with own:=⟨s.next,c⟩::⟨k,.sl n es (Ey row jn (Cy r off [.val v]))⟩::Bl [k] s.own,next:=s.next+1,links:=(s.next,v)::s.links}:AS).put o.dst (.own s.next))):
  GW P B Q (.ops q all (o::rest)::K) s:=by
 subst hjn
 refine C7 hT hg ho hi hag hx hk (c:=c) (by rw [hr];exact hc) fun v=>?_
 have:=h v
 rw [←B2e row j.toNat off v hr] at this
 exact this
theorem B6i {B:B0}{Q:Exit→Act→World→Prop}{q:Bool}{f:FuncId}{xs:List AV}{dst:Option Tmp}{K:List KI}{s s':AS}(hslots:s'.slots=s.slots)(tr:∀(K':List KI) (sl:List AV),GW P B QF K' {s' with slots:=sl}→GW P B QF K' {s with slots:=sl})
  (h:CW P B Q q f xs dst K s'):CW P B Q q f xs dst K s:=by
 obtain ⟨hc,h⟩:=h
 refine ⟨⟨hc,fun E a w hs vs hl hv=>?_⟩⟩
 let a2:Act:= {a with tmps:=a.tmps++vs.toArray}
 have h2:({s with slots:=s.slots++xs}:AS).is B E a2 w:=by
  refine ⟨hs.defers,hs.links,by simp [a2,hs.size,hl],fun i x hx=>?_,hs.boxes,hs.boxes2,hs.keys,hs.own,hs.ownkeys,hs.sep,hs.sepB,hs.one,hs.base,hs.fresh⟩
  have hsz:=hs.size
  simp only at hx
  by_cases hi:i<s.slots.length
  ·rw [List.getElem?_append_left hi] at hx
   have:=hs.slots i x hx
   have e:a2.tmps.getD i undef=a.tmps.getD i undef:=by
    rw [←C2,←C2]
    simp only [a2,Array.toList_append,List.getD]
    rw [List.getElem?_append_left (by simpa [hsz] using hi)]
   rw [e]
   exact this
  rw [List.getElem?_append_right Ab] at hx
  have:=hv _ x hx
  have e:a2.tmps.getD i undef=vs.getD (i-s.slots.length) undef:=by
   rw [←C2]
   simp only [a2,Array.toList_append,List.getD]
   rw [List.getElem?_append_right (by simp [hsz];omega)]
   simp [hsz]
  rw [e]
  exact this
 have:=(tr [.loop (fun a' w'=>∃E',({s' with slots:=s.slots++xs}:AS).is B E' a' w')] (s.slots++xs) ⟨fun E' a' w' hs'=>⟨E',hs'⟩⟩).out E a2 w h2
 obtain ⟨E',hs'⟩:=this
 have hsz:=hs.size
 refine h E' a w ⟨hs.defers,hs'.links,by rw [hslots];exact hs.size,fun i x hx=>?_,hs'.boxes,hs'.boxes2,hs'.keys,hs'.own,hs'.ownkeys,hs'.sep,hs'.sepB,hs'.one,hs'.base,hs'.fresh⟩ vs hl fun i x hx=>?_
 ·rw [hslots] at hx
  have hi:i<s.slots.length:=(List.getElem?_eq_some_iff.1 hx).1
  have:=hs'.slots i x (by simp only;rw [List.getElem?_append_left hi];exact hx)
  have e:a2.tmps.getD i undef=a.tmps.getD i undef:=by
   rw [←C2,←C2]
   simp only [a2,Array.toList_append,List.getD]
   rw [List.getElem?_append_left (by simpa [hsz] using hi)]
  rw [e] at this
  exact this
 have hi:i<xs.length:=(List.getElem?_eq_some_iff.1 hx).1
 have:=hs'.slots (s.slots.length+i) x (by simp only;rw [List.getElem?_append_right Ab];simpa using hx)
 have e:a2.tmps.getD (s.slots.length+i) undef=vs.getD i undef:=by
  rw [←C2]
  simp only [a2,Array.toList_append,List.getD]
  rw [List.getElem?_append_right (by simp [hsz])]
  simp [hsz]
 rw [e] at this
 exact this
theorem A3g {B:B0}{Q:Exit→Act→World→Prop}{q:Bool}{f:FuncId}{xs:List AV}{dst:Option Tmp}{K:List KI}{s:AS}(k jn:Nat)(ps:List (Nat×Nat)){es n:Nat}{row:Nat→List Ae}{r r':List Ae}(c:Ae)(hj:jn<n)
  (hk:Bw s.own k=some (.sl n es (Ey row jn r)))(hn:(F9 (k::ps.map Prod.snd)&&F9 (ps.map Prod.fst))=true)(ho:Pb s.links r ps)(hc:Nj s.own r ps=some r')(hcast:Ge (.sl n es (Ey row jn r')) c)
  (h:CW P B Q q f xs dst K {s with own:=⟨k,c⟩::Bl (k::ps.map Prod.snd) s.own}):CW P B Q q f xs dst K s:=
 B6i (s':= {s with own:=⟨k,c⟩::Bl (k::ps.map Prod.snd) s.own}) rfl (fun _ sl g=>Mq (s:= {s with slots:=sl}) k jn ps c hj hk hn ho hc hcast g) h
theorem B3h (P:Program){B:B0}{Q:Exit→Act→World→Prop}{s s':AS}(tr:∀(K':List KI),GW P B QF K' s'→GW P B QF K' s)(h:RW B Q s'):RW B Q s:=
 ⟨fun E a w hs=>(tr [.loop (fun a w=>Q .ret a w)] ⟨fun E a w hs=>h.rec fun g=>g E a w hs⟩).out E a w hs⟩
theorem R7 {B:B0}{Q:Exit→Act→World→Prop}{K:List KI}{s:AS}(k j key:Nat){b:Bx}(hb:Gj s.boxes k=some b)(hj:Gm b.cells j= .own key)
  (h:∀v,GW P B Q K {s with boxes:=E8 s.boxes k (Cm b.cells j (.c (.val v))),links:=(key,v)::s.links}):GW P B Q K s:=by
 refine ⟨fun E a w hs=>?_⟩
 obtain ⟨hm,hbk⟩:=Ex hb
 obtain ⟨h1,vs,ty,h2,h3,h4⟩:=hs.boxes b hm
 have hlt:key<s.next:=by
  rw [Co] at hj
  cases hg:b.cells[j]? with
  |none=>rw [hg] at hj;simp at hj
  |some x=>
   rw [hg] at hj
   have hx:x= .own key:=by simpa using hj
   subst hx
   have:=h4 j _ hg
   generalize vs.getD j undef=q at this
   cases this with
   |own hk=>exact hk
 have hone:(E.ov key).oneCell'=true:=hs.one key hlt
 refine (h (E.ov key)).out E a w ⟨hs.defers,fun p hp=>?_,hs.size,?_,fun x hx=>?_,fun x hx y hy=>?_,by rw [K1];exact hs.keys,hs.own,hs.ownkeys,hs.sep,fun x hx y hy=>?_,hs.one,hs.base,?_⟩
 ·rcases List.mem_cons.1 hp with rfl|hp
  ·exact ⟨hlt,rfl⟩
  exact hs.links p hp
 all_goals
  have av:∀c,({s with boxes:=E8 s.boxes k (Cm b.cells j (.c (.val (E.ov key)))),links:=(key,E.ov key)::s.links}:AS).avoid E c→s.avoid E c:=by
   rintro c (⟨x,hx,rfl⟩|hc)
   ·rcases Dq hx hs.keys with ⟨e1,_,y,hy,e2⟩|⟨hx,_⟩
    ·exact .inl ⟨y,hy,by rw [e1,e2]⟩
    exact .inl ⟨x,hx,rfl⟩
   exact .inr hc
  have mv:∀x v,Cu E w (s.avoid E) s.next x v→Cu E w (({s with boxes:=E8 s.boxes k (Cm b.cells j (.c (.val (E.ov key)))),links:=(key,E.ov key)::s.links}:AS).avoid E) s.next x v:=fun x v hx=>
   hx.move (Nat.le_refl _) (fun _ _=>⟨rfl,rfl⟩) (fun _ _ _=>rfl) (fun b _ hb=>av b hb)
 ·exact fun i x hx=>mv _ _ (hs.slots i x hx)
 ·rcases Dq hx hs.keys with ⟨e1,e2,_⟩|⟨hx,_⟩
  ·rw [e1,e2]
   refine ⟨by rw [←hbk];exact h1,vs,ty,by rw [←hbk];exact h2,by rw [Ci];exact h3,fun i y hy=>?_⟩
   rw [Dh] at hy
   split at hy
   ·rename_i hm'
    obtain ⟨rfl,hm'⟩:=hm'
    obtain rfl:=Option.some.inj hy
    have:=h4 j (.own key) (by rw [Co,List.getElem?_eq_getElem hm'] at hj;rw [List.getElem?_eq_getElem hm'];simpa using hj)
    generalize vs.getD j undef=q at this
    cases this with
    |own hk=>exact .c (.val _ hone)
   exact mv _ _ (h4 i y hy)
  obtain ⟨g1,vs',ty',g2,g3,g4⟩:=hs.boxes x hx
  exact ⟨g1,vs',ty',g2,g3,fun i y hy=>mv _ _ (g4 i y hy)⟩
 ·intro e
  have kx:∃x'∈s.boxes,x'.key=x.key:=by
   rcases Dq hx hs.keys with ⟨e1,_,y,hy,e2⟩|⟨hx,_⟩
   ·exact ⟨y,hy,by rw [e1,e2]⟩
   exact ⟨x,hx,rfl⟩
  have ky:∃x'∈s.boxes,x'.key=y.key:=by
   rcases Dq hy hs.keys with ⟨e1,_,y',hy',e2⟩|⟨hy,_⟩
   ·exact ⟨y',hy',by rw [e1,e2]⟩
   exact ⟨y,hy,rfl⟩
  obtain ⟨x',hx',ex⟩:=kx
  obtain ⟨y',hy',ey⟩:=ky
  rw [←ex,←ey]
  exact hs.boxes2 x' hx' y' hy' (by rw [ex,ey];exact e)
 ·rcases Dq hx hs.keys with ⟨e1,_,z,hz,e2⟩|⟨hx,_⟩
  ·rw [e1,←e2];exact hs.sepB z hz y hy
  exact hs.sepB x hx y hy
 exact fun c hc=>hs.fresh c (av c hc)
theorem R3 {B:B0}{Q:Exit→Act→World→Prop}{K:List KI}{s:AS}(k j key:Nat){b:Bx}{v:Value}(hb:Gj s.boxes k=some b)(hj:Gm b.cells j= .c (.val v))(hl:En s.links key=some v)
  (h:GW P B Q K {s with boxes:=E8 s.boxes k (Cm b.cells j (.own key))}):GW P B Q K s:=by
 refine ⟨fun E a w hs=>?_⟩
 obtain ⟨hm,hbk⟩:=Ex hb
 obtain ⟨h1,vs,ty,h2,h3,h4⟩:=hs.boxes b hm
 obtain ⟨hlt,hov⟩:=hs.links _ (Hn hl)
 have hov:E.ov key=v:=hov
 have av:∀c,({s with boxes:=E8 s.boxes k (Cm b.cells j (.own key))}:AS).avoid E c→s.avoid E c:=by
  rintro c (⟨x,hx,rfl⟩|hc)
  ·rcases Dq hx hs.keys with ⟨e1,_,y,hy,e2⟩|⟨hx,_⟩
   ·exact .inl ⟨y,hy,by rw [e1,e2]⟩
   exact .inl ⟨x,hx,rfl⟩
  exact .inr hc
 have mv:∀x v,Cu E w (s.avoid E) s.next x v→Cu E w (({s with boxes:=E8 s.boxes k (Cm b.cells j (.own key))}:AS).avoid E) s.next x v:=fun x v hx=>
  hx.move (Nat.le_refl _) (fun _ _=>⟨rfl,rfl⟩) (fun _ _ _=>rfl) (fun b _ hb=>av b hb)
 have kx:∀x∈E8 s.boxes k (Cm b.cells j (.own key)),∃x'∈s.boxes,x'.key=x.key:=fun x hx=>by
  rcases Dq hx hs.keys with ⟨e1,_,y,hy,e2⟩|⟨hx,_⟩
  ·exact ⟨y,hy,by rw [e1,e2]⟩
  exact ⟨x,hx,rfl⟩
 refine h.out E a w ⟨hs.defers,hs.links,hs.size,fun i x hx=>mv _ _ (hs.slots i x hx),fun x hx=>?_,fun x hx y hy e=>?_,by rw [K1];exact hs.keys,hs.own,hs.ownkeys,hs.sep,fun x hx y hy=>?_,hs.one,hs.base,fun c hc=>hs.fresh c (av c hc)⟩
 ·rcases Dq hx hs.keys with ⟨e1,e2,_⟩|⟨hx,_⟩
  ·rw [e1,e2]
   refine ⟨by rw [←hbk];exact h1,vs,ty,by rw [←hbk];exact h2,by rw [Ci];exact h3,fun i y hy=>?_⟩
   rw [Dh] at hy
   split at hy
   ·rename_i hm'
    obtain ⟨rfl,hm'⟩:=hm'
    obtain rfl:=Option.some.inj hy
    have:=h4 j (.c (.val v)) (by rw [Co,List.getElem?_eq_getElem hm'] at hj;rw [List.getElem?_eq_getElem hm'];simpa using hj)
    rw [Bn this,←hov]
    exact .own hlt
   exact mv _ _ (h4 i y hy)
  obtain ⟨g1,vs',ty',g2,g3,g4⟩:=hs.boxes x hx
  exact ⟨g1,vs',ty',g2,g3,fun i y hy=>mv _ _ (g4 i y hy)⟩
 ·obtain ⟨x',hx',ex⟩:=kx x hx
  obtain ⟨y',hy',ey⟩:=kx y hy
  rw [←ex,←ey]
  exact hs.boxes2 x' hx' y' hy' (by rw [ex,ey];exact e)
 obtain ⟨x',hx',ex⟩:=kx x hx
 rw [←ex]
 exact hs.sepB x' hx' y hy
theorem Gi (P:Program){B:B0}{Q:Exit→Act→World→Prop}{s:AS}(k jn:Nat)(ps:List (Nat×Nat)){es n:Nat}{row:Nat→List Ae}{r r':List Ae}(c:Ae)(hj:jn<n)
  (hk:Bw s.own k=some (.sl n es (Ey row jn r)))(hn:(F9 (k::ps.map Prod.snd)&&F9 (ps.map Prod.fst))=true)(ho:Pb s.links r ps)(hc:Nj s.own r ps=some r')(hcast:Ge (.sl n es (Ey row jn r')) c)
  (h:RW B Q {s with own:=⟨k,c⟩::Bl (k::ps.map Prod.snd) s.own}):RW B Q s:=
 B3h P (s':= {s with own:=⟨k,c⟩::Bl (k::ps.map Prod.snd) s.own}) (fun _ g=>Mq k jn ps c hj hk hn ho hc hcast g) h
variable {ops : Array Oper}
def Y2 (ops:Array Oper) (listed:Array Bool):Bool:=
 (List.range ops.size).all fun j=>!listed.getD j false||match ops[j]? with
  |some o=>o.after.toList.all fun e=>!Region.binds .any e||listed.getD e.on false
  |none=>true
theorem Ji {listed:Array Bool}(h:Y2 ops listed=true):Kd ops listed:=by
 intro j o ho hl e he hb
 have:=List.all_eq_true.1 h j (List.mem_range.2 (Array.getElem?_eq_some_iff.1 ho).1)
 simp only [hl,ho,Bool.not_true,Bool.false_or] at this
 have:=List.all_eq_true.1 this e (Array.mem_toList_iff.2 he)
 simpa [hb] using this
theorem Dt {B:B0}{N:Act→World→Prop}{fuel:Nat}{listed:Array Bool}{s s':AS}(i:Nat){o:Oper}(hi:ops[i]? =some o)
  (hb:(Nat.beq (Du o.op) 0&&Region.noSelect ops&&(Region.ready .any ops listed).contains i&&A88 ops listed i o&&Y2 ops listed)=true)
  (ht:GW P B QF [.ops true ops [o],.loop (fun a w=>∃E,s'.is B E a w)] s)(h:BW P B N ops fuel (listed.setIfInBounds i true) s'):BW P B N ops (fuel+1) listed s:=by
 simp only [Bool.and_eq_true,List.contains_iff_mem] at hb
 obtain ⟨⟨⟨⟨h0,h1⟩,h2⟩,h3⟩,h4⟩:=hb
 have h0:=Nat.eq_of_beq_eq_true h0
 refine ⟨fun E a w hs=>?_⟩
 have hg:Ew P ops (fun a w=>∃E,s'.is B E a w) [o] a w:=ht.out E a w hs
 have hfree:∀j oj,ops[j]? =some oj→j≠i→listed.getD j true=false→Pf ops ops.size j i=true∨(o.apart ops oj=true∧(Ju o.op=true∨Du oj.op≤1)):=by
  intro j oj hoj hji hun
  have:=List.all_eq_true.1 h3 j (List.mem_range.2 (Array.getElem?_eq_some_iff.1 hoj).1)
  simp only [hoj,hun,Bool.or_false,Bool.or_eq_true,beq_iff_eq,hji,false_or,Bool.and_eq_true] at this
  exact this.symm.imp id fun ⟨h1,h2⟩=>⟨h1,h2.imp id fun h=>Nat.le_of_ble_eq_true h⟩
 unfold Ew at hg
 by_cases hw:Region.wanted o (yielded ops a.tmps)=true
 ·rw [if_pos hw] at hg
  rcases hg with ⟨v,hv,hn⟩|⟨hk,_⟩
  ·obtain ⟨E',hs'⟩:=hn
   exact Jt hi (Region.noSelect_spec h1) ops.size fuel listed a w (Ji h4) hfree h2 (.inl ⟨hw,fun w' hw'=>hw'.elim (fun hb=>Nr hb a.eval (hv w (Dr.refl w))) (hv w')⟩) (h.out E' _ w hs')
  exact absurd h0 hk
 rw [if_neg hw] at hg
 obtain ⟨E',hs'⟩:=hg
 exact Jt hi (Region.noSelect_spec h1) ops.size fuel listed a w (Ji h4) hfree h2 (.inr ⟨by simpa using hw,rfl⟩) (h.out E' _ w hs')
theorem A1v (hT:Cn P T){B:B0}{Q:Exit→Act→World→Prop}{q:Bool}{all:Array Oper}{o:Oper}{rest:List Oper}{K:List KI}{s:AS}{t e:TypeId}{x:Operand}{lo hi:Option Operand}{i j:TI}
  (hg:o.guard=none)(ho:o.op= .slice t x lo hi none)(hi':E9 T t=some i)(he:i.elem=some e)(hj:E9 T e=some j)
  {k n es:Nat}{row:Nat→List Ae}(hx:s.ev x= .own k)(hk:Bw s.own k=some (.sl n es row))(hes:es=j.size){l h:Int}(hl:bnd s lo 0=some l)(hh:bnd s hi n=some h)
  (hb:0≤l∧l≤h∧h≤n)(c:Ae)(hc:Wn n es row l h c)
  (hgo:GW P B Q (.ops q all rest::K) (({s with own:=⟨s.next,c⟩::Bl [k] s.own,next:=s.next+1}:AS).put o.dst (.own s.next))):GW P B Q (.ops q all (o::rest)::K) s:=by
 subst hes
 refine ⟨Ei hg (fun E a w hs=>?_)⟩
 have hd:=hs.ev x
 rw [hx] at hd
 have hm:=Ck hk
 obtain ⟨hklt,o2,o3⟩:=hs.own _ hm
 simp only at o2 o3 hklt
 have h1:=Su hs hl
 have h2:=Su hs hh
 have hv:a.eval x=E.ov k:=by
  generalize a.eval x=v at hd
  cases hd with
  |own _=>rfl
 have key:∃ad cap fp',E.ov k= .slice ad n cap∧n≤cap∧C1 w c (sliced ad l.toNat h.toNat cap j.size) fp'∧fp'.Nodup∧∀b∈fp',b∈E.fp k:=by
  obtain ⟨row',rfl,hrow⟩:=hc
  generalize E.ov k=u,E.fp k=fp at o2 o3 ⊢
  obtain ⟨p,rfl⟩:∃p:Nat,l=p:=⟨l.toNat,by omega⟩
  obtain ⟨q,rfl⟩:∃q:Nat,h=q:=⟨h.toNat,by omega⟩
  have e:((q:Int)-p).toNat=q-p:=by omega
  simp only [Int.toNat_natCast] at hrow ⊢
  rw [e] at hrow ⊢
  cases o2 with
  |nil=>
   have e1:p=0:=by omega
   have e2:q=0:=by omega
   subst e1;subst e2
   exact ⟨none,0,[],rfl,Nat.le_refl _,.nil _ _,by simp,by simp⟩
  |emp _ _ b0 o0=>
   have e1:p=0:=by omega
   have e2:q=0:=by omega
   subst e1;subst e2
   exact ⟨_,0,[],rfl,Nat.le_refl _,.emp _ _ _ _,by simp,by simp⟩
  |sl _ _ _ b offb cap ty cells fps hn hcp hbk hcs hl' hr=>
   obtain ⟨f1,f2⟩:=List.nodup_cons.1 o3
   obtain ⟨f3,f4⟩:=C4.1 f2
   have hpq:p≤q:=by omega
   have hqn:q≤n:=by omega
   refine ⟨some ⟨b,offb * j.size,none⟩,cap,?_⟩
   by_cases hcl:cap=p
   ·refine ⟨[],rfl,hn,?_,by simp,by simp⟩
    have e1:q-p=0:=by omega
    unfold sliced
    rw [if_pos hcl,e1,show cap-p=0 by omega]
    exact .emp _ _ _ _
   have ea:(some (⟨b,offb * j.size,none⟩:Addr)).map (·.add (p * j.size))=some ⟨b,(offb+p) * j.size,none⟩:=by
    simp only [Option.map_some,Hx,Nat.add_mul]
   refine ⟨b::(List.range ((q-p) * j.size)).flatMap (fun i=>fps (p * j.size+i)),rfl,hn,?_,?_,?_⟩
   ·unfold sliced
    rw [if_neg hcl,ea]
    refine .sl (q-p) j.size row' b (offb+p) (cap-p) ty cells (fun i=>fps (p * j.size+i)) Ab Ab hbk (by rw [show offb+p+(cap-p)=offb+cap by omega];exact hcs) (fun i hi=>by rw [hrow i hi];exact hl' _ Ab) (fun i m c hi hm=>?_)
    rw [hrow i hi] at hm
    have:=hr (p+i) m c Ab hm
    rw [show (p+i) * j.size+m=p * j.size+(i * j.size+m) by rw [Nat.add_mul];omega,show offb+(p+i)=offb+p+i by omega] at this
    exact this
   ·have hin:∀i,i<(q-p) * j.size→p * j.size+i<n * j.size:=fun i hi=>by
     have h1:(q-p) * j.size≤(n-p) * j.size:=Nat.mul_le_mul_right _ Ab
     have h2:p * j.size+(n-p) * j.size=n * j.size:=by rw [←Nat.add_mul];congr 1;omega
     omega
    refine List.nodup_cons.2 ⟨fun hm=>?_,C4.2 ⟨fun i hi=>f3 _ (List.mem_range.2 (hin i (List.mem_range.1 hi))),?_⟩⟩
    ·obtain ⟨i,hi,hm⟩:=List.mem_flatMap.1 hm
     exact f1 (Db (hin i (List.mem_range.1 hi)) hm)
    refine List.pairwise_iff_getElem.2 (fun i m hi hm him z hz hz'=>?_)
    simp only [List.length_range] at hi hm
    simp only [List.getElem_range] at hz hz'
    have hp:=List.pairwise_iff_getElem.1 f4 (p * j.size+i) (p * j.size+m) (by simpa using hin i hi) (by simpa using hin m hm) Ab z
    simp only [List.getElem_range] at hp
    exact hp hz hz'
   intro z hz
   rcases List.mem_cons.1 hz with rfl|hz
   ·simp
   obtain ⟨i,hi,hz⟩:=List.mem_flatMap.1 hz
   refine List.mem_cons_of_mem _ (Db ?_ hz)
   have h1:(q-p) * j.size≤(n-p) * j.size:=Nat.mul_le_mul_right _ Ab
   have h2:p * j.size+(n-p) * j.size=n * j.size:=by rw [←Nat.add_mul];congr 1;omega
   have:=List.mem_range.1 hi
   omega
 obtain ⟨ad,cap,fp',hov,hcap,hrep,hnd,hsub⟩:=key
 have hI:=hs.drop [k]
 obtain ⟨k1,k2⟩:=hI.addOwn hrep hnd (fun z hz=>by
  have hzk:=hsub z hz
  have hav:s.avoid E z:= .inr ⟨_,hm,hzk⟩
  refine ⟨hav,?_,hs.fresh z hav⟩
  rintro (⟨r,hr',rfl⟩|⟨r,hr',hz'⟩)
  ·exact hs.sepB r hr' _ hm hzk
  obtain ⟨q1,q2⟩:=C5.1 hr'
  exact hs.sep _ hm r q1 (fun e=>q2 (by simp at e;simp [e])) z hzk hz')
 refine ⟨_,fun w' _=>?_,hgo.out _ _ w ((k1.put o.dst k2).is)⟩
 have hrun:=Z1 (a:=ad) (hT t i hi') he (hT e j hj) h1 h2 hb.1 hb.2.1 hb.2.2 hcap w'
 obtain ⟨dst,op',ty,pos,after,guard⟩:=o
 simp only at ho
 subst ho
 simp [execOp,hv,hov,hrun]
end Go.Sx
set_option maxRecDepth 100000
namespace Go.Sx
open Go
variable {P : Program} {T : List (TypeId × TI)}
end Go.Sx
set_option maxRecDepth 100000
namespace Go.Sx
open Go
variable {P : Program} {ops : Array Oper}
theorem Tn {α:Sort _}{B:B0}{s:α→AS}(v:α):GW P B QF [.loop (fun a w=>∃v E,(s v).is B E a w)] (s v):=⟨fun E _ _ hs=>⟨v,E,hs⟩⟩
theorem P7 {α:Sort _}{B:B0}{N:Act→World→Prop}{fuel:Nat}{listed:Array Bool}{s:AS}{s':α→AS}(i:Nat){o:Oper}(hi:ops[i]? =some o)
  (hb:(Nat.beq (Du o.op) 0&&Region.noSelect ops&&(Region.ready .any ops listed).contains i&&A88 ops listed i o&&Y2 ops listed)=true)
  (ht:GW P B QF [.ops true ops [o],.loop (fun a w=>∃v E,(s' v).is B E a w)] s)(h:∀v,BW P B N ops fuel (listed.setIfInBounds i true) (s' v)):BW P B N ops (fuel+1) listed s:=by
 simp only [Bool.and_eq_true,List.contains_iff_mem] at hb
 obtain ⟨⟨⟨⟨h0,h1⟩,h2⟩,h3⟩,h4⟩:=hb
 have h0:=Nat.eq_of_beq_eq_true h0
 refine ⟨fun E a w hs=>?_⟩
 have hg:Ew P ops (fun a w=>∃v E,(s' v).is B E a w) [o] a w:=ht.out E a w hs
 have hfree:∀j oj,ops[j]? =some oj→j≠i→listed.getD j true=false→Pf ops ops.size j i=true∨(o.apart ops oj=true∧(Ju o.op=true∨Du oj.op≤1)):=by
  intro j oj hoj hji hun
  have:=List.all_eq_true.1 h3 j (List.mem_range.2 (Array.getElem?_eq_some_iff.1 hoj).1)
  simp only [hoj,hun,Bool.or_false,Bool.or_eq_true,beq_iff_eq,hji,false_or,Bool.and_eq_true] at this
  exact this.symm.imp id fun ⟨h1,h2⟩=>⟨h1,h2.imp id fun h=>Nat.le_of_ble_eq_true h⟩
 unfold Ew at hg
 by_cases hw:Region.wanted o (yielded ops a.tmps)=true
 ·rw [if_pos hw] at hg
  rcases hg with ⟨v,hv,hn⟩|⟨hk,_⟩
  ·obtain ⟨u,E',hs'⟩:=hn
   exact Jt hi (Region.noSelect_spec h1) ops.size fuel listed a w (Ji h4) hfree h2 (.inl ⟨hw,fun w' hw'=>hw'.elim (fun hb=>Nr hb a.eval (hv w (Dr.refl w))) (hv w')⟩) ((h u).out E' _ w hs')
  exact absurd h0 hk
 rw [if_neg hw] at hg
 obtain ⟨u,E',hs'⟩:=hg
 exact Jt hi (Region.noSelect_spec h1) ops.size fuel listed a w (Ji h4) hfree h2 (.inr ⟨by simpa using hw,rfl⟩) ((h u).out E' _ w hs')
theorem Xc {B:B0}{Q:Exit→Act→World→Prop}{K:List KI}{s:AS}(k j:Nat){b:Bx}{v:Value}(hb:Gj s.boxes k=some b)(hj:Gm b.cells j= .c (.val v))(h:Ft [v]=true→GW P B Q K s):GW P B Q K s:=by
 refine ⟨fun E a w hs=>?_⟩
 obtain ⟨hm,hbk⟩:=Ex hb
 obtain ⟨h1,vs,ty,h2,h3,h4⟩:=hs.boxes b hm
 have ho:v.oneCell'=true:=by
  rw [Co] at hj
  cases hg:b.cells[j]? with
  |none=>rw [hg] at hj;simp at hj
  |some x=>
   rw [hg] at hj
   have hx:x= .c (.val v):=by simpa using hj
   subst hx
   have:=h4 j _ hg
   have e:=Bn this
   rw [e] at this
   exact this.cell1 rfl hs.one
 have ho:Ft [v]=true:=by
  cases v<;>first|rfl|cases ho
 exact (h ho).out E a w hs
theorem B4f {B:B0}{fn:Func}{R:Ending→World→Prop}{s:AS}(h:RW B (bodyPost P fn R) s):GW P B (bodyPost P fn R) [] s:=
 ⟨fun E a w hs=>by
  have g:bodyPost P fn R .ret a w:=h.rec fun g=>g E a w hs
  exact g⟩
end Go.Sx
set_option maxRecDepth 100000
namespace Go.Sx
open Go
variable {P : Program} {T : List (TypeId × TI)}
def A4m {α:Type} (l:List Bx) (k:List Bx→α):α:=
 match l with
 | []=>k []
 |x::r=>match x with|⟨key,cells⟩=>Hj key fun key=>A4m r fun r'=>k (⟨key,cells⟩::r')
def H6 {α:Type} (s:AS) (k:AS→α):α:=
 match s with
 |⟨next,slots,boxes,own,links⟩=>Hj next fun next=>Lw slots fun slots=>A4m boxes fun boxes=>Ty own fun own=>Tx links fun links=>k ⟨next,slots,boxes,own,links⟩
def Gh (T:List (TypeId×TI)) (wr:Bool):Nat→List KI→AS→Out
 | 0,K,s=>H6 s (.at_ K)
 |n+1,K,s=>
  match K with
  | []=>H6 s (.at_ [])
  | .block _::K=>Gh T wr n K s
  | .loop I::K=>H6 s (.at_ (.loop I::K))
  | .code c::K=>
   match c with
   | .skip=>Gh T wr n K s
   | .seq a b=>Gh T wr n (.code a:: .code b::K) s
   | .block id c=>Gh T wr n (.code c:: .block id::K) s
   | .cond o t e=>
    match s.ev o with
    | .c (.val (.bool b))=> .ite b (Gh T wr n (.code t::K) s) (Gh T wr n (.code e::K) s)
    |_=>H6 s (.at_ (.code (.cond o t e)::K))
   | .exit id=>match Ob id K with
    |some K'=>Gh T wr n K' s
    |none=>H6 s (.at_ (.code (.exit id)::K))
   | .ret=>H6 s .ret
   | .region _id ops false=>Gh T wr n (.ops false ops ops.toList::K) s
   |c=>H6 s (.at_ (.code c::K))
  | .ops q all l::K=>
   match l with
   | []=>Gh T wr n K s
   |o::rest=>
    match o.guard with
    |none=>
     match o.op with
     | .pick c x y=>
      match s.ev c with
      | .c (.val (.bool b))=> .ite b (Ht s o.dst (s.ev x) (Gh T wr n (.ops q all rest::K))) (Ht s o.dst (s.ev y) (Gh T wr n (.ops q all rest::K)))
      |_=>H6 s (.at_ (.ops q all (o::rest)::K))
     | .call {callee:= .value (.func f),args,..}=>Lw (args.toList.map s.ev) fun xs=>H6 s fun s=> .call q f xs o.dst (.ops q all rest::K) s
     | .call {callee:= .value (.tmp t),args,..}=>
      match Gm s.slots t with
      | .fn f caps=>Lw (args.toList.map s.ev++caps) fun xs=>H6 s fun s=> .call q f xs o.dst (.ops q all rest::K) s
      |_=>H6 s (.at_ (.ops q all (o::rest)::K))
     |op=>
      match step T wr s op with
      | .stop=>H6 s (.at_ (.ops q all (o::rest)::K))
      | .ok ps x=>Uc ps (Ht s o.dst x (Gh T wr n (.ops q all rest::K)))
      | .new cells=>A4x s cells fun s'=>Ht s' o.dst (.box s.next 0) (Gh T wr n (.ops q all rest::K))
      | .own ps c=>Uc ps (Mt s c fun s'=>Ht s' o.dst (.own s.next) (Gh T wr n (.ops q all rest::K)))
      | .mem bx=>A4v s bx fun s=>Ht s o.dst .any (Gh T wr n (.ops q all rest::K))
    |some (j,true)=>
     match Gy all j with
     |some d=>match Gm s.slots d with
      | .c (.val (.bool b))=> .ite b
        (Ht s (some d) (.v (.bool true)) (Gh T wr n (.ops q all ({o with guard:=none}::rest)::K)))
        (Ht s (some d) (.v (.bool false)) fun s=>Ht s o.dst (L1 all o.dst) (Gh T wr n (.ops q all rest::K)))
      | .tup []=>Ht s o.dst (L1 all o.dst) (Gh T wr n (.ops q all rest::K))
      |_=>H6 s (.at_ (.ops q all (o::rest)::K))
     |none=>H6 s (.at_ (.ops q all (o::rest)::K))
    |some (j,false)=>
     match Gy all j with
     |some d=>match Gm s.slots d with
      | .c (.val (.bool b))=> .ite b
        (Ht s (some d) (.v (.bool true)) fun s=>Ht s o.dst (L1 all o.dst) (Gh T wr n (.ops q all rest::K)))
        (Ht s (some d) (.v (.bool false)) (Gh T wr n (.ops q all ({o with guard:=none}::rest)::K)))
      | .tup []=>Ht s o.dst (L1 all o.dst) (Gh T wr n (.ops q all rest::K))
      |_=>H6 s (.at_ (.ops q all (o::rest)::K))
     |none=>H6 s (.at_ (.ops q all (o::rest)::K))
end Go.Sx
set_option maxRecDepth 100000
namespace Go.Sx
open Go
variable {P : Program} {T : List (TypeId × TI)} {ops : Array Oper}
theorem B26 {i:Nat}{o:Oper}{Q:Act→World→Prop}{a:Act}{w:World}(ho:ops[i]? =some o)(h:Ew P ops Q [o] a w):opM P ops i Q a w:=by
 unfold opM
 simp only [ho]
 unfold Ew at h
 split
 ·rename_i hw
  rw [if_pos hw] at h
  rcases h with ⟨v,h1,h2⟩|⟨_,hd⟩
  ·unfold H4
   rw [h1 w (Dr.refl w)]
   exact ⟨fun _=>Dr.refl w,h2⟩
  exact hd
 rename_i hw
 rw [if_neg hw] at h
 exact h
def A8a (P:Program) (B:B0) (N:Act→World→Prop) (ops:Array Oper) (fuel:Nat) (listed:Array Bool) (s:AS):List Nat→Prop
 | []=>True
 |i::r=>(match ops[i]? with
  |some o=>GW P B QF [.ops true ops [o],.loop (fun a w=>Ll P ops N fuel (listed.setIfInBounds i true) a w)] s
  |none=>False)∧A8a P B N ops fuel listed s r
theorem A5s {B:B0}{N:Act→World→Prop}{fuel:Nat}{listed:Array Bool}{s:AS}{l:List Nat}(h:A8a P B N ops fuel listed s l){i:Nat}(hi:i∈l):
  ∃o,ops[i]? =some o∧GW P B QF [.ops true ops [o],.loop (fun a w=>Ll P ops N fuel (listed.setIfInBounds i true) a w)] s:=by
 induction l with
 |nil=>simp at hi
 |cons j r ih=>
  obtain ⟨h1,h2⟩:=h
  rcases List.mem_cons.1 hi with rfl|hi
  ·split at h1
   ·rename_i o ho;exact ⟨o,ho,h1⟩
   exact h1.elim
  exact ih h2 hi
theorem Ek {B:B0}{N:Act→World→Prop}{fuel:Nat}{listed:Array Bool}{s:AS}(l:List Nat)(hr:(eqL (Region.ready .any ops listed) l&&!l.isEmpty)=true)(h:A8a P B N ops fuel listed s l):BW P B N ops (fuel+1) listed s:=by
 simp only [Bool.and_eq_true,Bool.not_eq_true'] at hr
 have hr1:=A80 hr.1
 refine ⟨fun E a w hs=>⟨fun h0=>?_,fun i hi=>?_⟩⟩
 ·rw [hr1] at h0
  rw [h0] at hr
  simp at hr
 rw [hr1] at hi
 obtain ⟨o,ho,hg⟩:=A5s h hi
 exact B26 ho (hg.out E a w hs)
theorem Eu {B:B0}{N:Act→World→Prop}{fuel:Nat}{listed:Array Bool}{s:AS}(h:BW P B N ops fuel listed s):GW P B QF [.loop (fun a w=>Ll P ops N fuel listed a w)] s:=
 ⟨fun E a w hs=>h.out E a w hs⟩
theorem Mj {B:B0}{Q:Exit→Act→World→Prop}{K:List KI}{s:AS}{listed:Array Bool}(hr:(Region.ready .any ops listed).isEmpty=true)(h:GW P B Q K s):BW P B (fun a w=>G5 P Q K .normal a w) ops 0 listed s:=
 ⟨fun E a w hs=>⟨by simpa using hr,h.out E a w hs⟩⟩
def A41:Op→Bool
 | .move _=>true
 | .assign _=>true
 | .extract _ _=>true
 |_=>false
theorem B20 {o:Oper}(h:A41 o.op=true)(ρ:Operand→Value){w w':World}{v:Value}(hr:(execOp ρ o).run P w= .ok (.value v) w):(execOp ρ o).run P w'= .ok (.value v) w':=by
 by_cases hb:Ju o.op=true
 ·exact Nr hb ρ hr
 obtain ⟨dst,op,ty,pos,after,guard⟩:=o
 cases op<;>simp [A41] at h<;>simp [Ju] at hb
 rename_i x i
 simp only [execOp,Instr.extract] at hr ⊢
 generalize ρ x=u at hr ⊢
 cases u<;>simp_all
 split at hr<;>simp_all
theorem B2z {B:B0}{N:Act→World→Prop}{fuel:Nat}{listed:Array Bool}{s s':AS}(i:Nat){o:Oper}(hi:ops[i]? =some o)
  (hb:(A41 o.op&&Region.noSelect ops&&(Region.ready .any ops listed).contains i&&A4n ops listed i o)=true)
  (ht:GW P B QF [.ops true ops [o],.loop (fun a w=>∃E,s'.is B E a w)] s)(h:BW P B N ops fuel (listed.setIfInBounds i true) s'):BW P B N ops (fuel+1) listed s:=by
 simp only [Bool.and_eq_true,List.contains_iff_mem] at hb
 obtain ⟨⟨⟨h0,h1⟩,h2⟩,h3⟩:=hb
 refine ⟨fun E a w hs=>?_⟩
 have hg:Ew P ops (fun a w=>∃E,s'.is B E a w) [o] a w:=ht.out E a w hs
 unfold Ew at hg
 by_cases hw:Region.wanted o (yielded ops a.tmps)=true
 ·rw [if_pos hw] at hg
  rcases hg with ⟨v,hv,hn⟩|⟨hk,_⟩
  ·obtain ⟨E',hs'⟩:=hn
   exact My hi (Region.noSelect_spec h1) fuel listed a w h3 h2 (.inl ⟨hw,fun w'=>B20 h0 a.eval (hv w (Dr.refl w))⟩) (h.out E' _ w hs')
  exfalso
  apply hk
  cases ho:o.op<;>rw [ho] at h0<;>first|rfl|simp [A41] at h0
 rw [if_neg hw] at hg
 obtain ⟨E',hs'⟩:=hg
 exact My hi (Region.noSelect_spec h1) fuel listed a w h3 h2 (.inr ⟨by simpa using hw,rfl⟩) (h.out E' _ w hs')
end Go.Sx
set_option maxRecDepth 100000
namespace Go.Sx
open Go
variable {P : Program} {T : List (TypeId × TI)}
theorem A89 {B:B0}{Q:Exit→Act→World→Prop}{K:List KI}{s:AS}(k j key:Nat){b:Bx}{c:Ae}(hb:Gj s.boxes k=some b)(hj:Gm b.cells j= .own key)(hk:Bw s.own key=some c)
  (h:GW P B Q K {s with own:=Bl [key] s.own,boxes:=E8 s.boxes k (Cm b.cells j (.c c))}):GW P B Q K s:=by
 refine ⟨fun E a w hs=>?_⟩
 have hI:=(hs.drop [key]).is
 have hm:=Ck hk
 have hrep:Mh w (({s with own:=Bl [key] s.own}:AS).avoid E) c (E.ov key):=(hs.own _ hm).2.1.rep (fun b hb=>by
  rintro (⟨u,hu,rfl⟩|⟨u,hu,hb'⟩)
  ·exact hs.sepB u hu _ hm hb
  obtain ⟨q1,q2⟩:=C5.1 hu
  exact hs.sep _ hm u q1 (fun e=>q2 (by rw [←e];exact List.mem_singleton.2 rfl)) b hb hb')
 refine h.out E a w (AS.is.reBox hI hb (Cm b.cells j (.c c)) (fun vs h1 h2=>⟨by rw [Ci];exact h1,fun i y hy=>?_⟩))
 rw [Dh] at hy
 split at hy
 ·rename_i hm'
  obtain ⟨rfl,hm'⟩:=hm'
  obtain rfl:=Option.some.inj hy
  have:=h2 j (.own key) (by rw [Co,List.getElem?_eq_getElem hm'] at hj;rw [List.getElem?_eq_getElem hm'];simpa using hj)
  generalize vs.getD j undef=u at this ⊢
  cases this with
  |own _=>exact .c hrep
 exact h2 i y hy
end Go.Sx
