/- Part 5 of the proof that each of the laws FnScriptsBack returns true for every input. No conditions. -/
import Derived.Test.YtmhcebdkjgkmlaaGreatDoorR4
import Derived.Lib.AppendZerosOnto
import Derived.Lib.Overlaps

set_option linter.unusedSimpArgs false
set_option linter.unusedVariables false
set_option maxRecDepth 100000
namespace Go.Sx
open Go
open Go.RowKit (Below)
variable {P : Program} {T : List (TypeId × TI)}
theorem D0v {a b:Nat}(h:Nat.blt a b=true):a<b:=Cz h
variable {B : Er} {Q : Exit → Act → World → Prop} {K : List KI} {s : AS}
theorem C6h (l:List Ow)(hp0:(s.own.map (·.key)).Nodup→l.Perm s.own)(h:GW P B Q K {s with own:=l}):GW P B Q K s:=by
 refine ⟨fun E a w hs=>?_⟩;have hp:=hp0 hs.ownkeys
 have hav:({s with own:=l}:AS).ag E=s.ag E:=by
  funext b
  refine propext ⟨?_,?_⟩
  ·rintro (h|⟨y,hy,h⟩)
   ·exact .inl h
   exact .inr ⟨y,hp.mem_iff.1 hy,h⟩
  rintro (h|⟨y,hy,h⟩)
  ·exact .inl h
  exact .inr ⟨y,hp.mem_iff.2 hy,h⟩
 refine h.out E a w ⟨hs.defers,hs.ak,hs.size,?_,?_,hs.boxes2,hs.keys,fun y hy=>hs.own y (hp.mem_iff.1 hy),(hp.map _).nodup_iff.2 hs.ownkeys,fun y hy z hz=>hs.sep y (hp.mem_iff.1 hy) z (hp.mem_iff.1 hz),fun x hx y hy=>hs.sepB x hx y (hp.mem_iff.1 hy),hs.one,hs.base,?_⟩
 ·rw [hav];exact hs.ac
 ·rw [hav];exact hs.aw
 rw [hav];exact hs.fresh
variable {k : Nat}
theorem A0f {j:Nat}:inL j [k]=true↔j=k:=by rw [Hx];simp
theorem B7s {j:Nat}(h:j≠k):inL j [k]=false:=by
 cases hh:inL j [k] with
 |false=>rfl
 |true=>exact absurd (A0f.1 hh) h
variable {ks : List Nat}
theorem B79:∀(m:List Ow),(∀y∈m,y.key∉ks)→Bb ks m=m:=by
 intro m
 induction m with
 |nil=>intro _;rfl
 |cons z m ih=>
  intro hm
  have hz:inL z.key ks=false:=by
   cases hh:inL z.key ks with
   |false=>rfl
   |true=>exact absurd (Hx.1 hh) (hm z Ef)
  simp only [Bb,hz,ih (fun y hy=>hm y (Cq _ hy))]
variable {c : Ad}
theorem A5m:∀(l:List Ow),(l.map (·.key)).Nodup→Bm l k=some c→((⟨k,c⟩:Ow)::Bb [k] l).Perm l:=by
 intro l
 induction l with
 |nil=>intro _ hg;simp [Bm] at hg
 |cons y r ih=>
  intro hnd hg;simp only [I8,Ip] at hnd;unfold Bm at hg
  cases hb:Nat.beq y.key k with
  |true=>
   have he:=F7 hb;rw [hb] at hg;have hc:y.cell=c:=by simpa using hg
   have hr:Bb [k] r=r:=B79 r (fun z hz e=>hnd.1 (by rw [he,←(show z.key=k by simpa using e)];exact List.mem_map_of_mem hz))
   have hin:inL y.key [k]=true:=A0f.2 he;simp only [Bb,hin,hr]
   have:(⟨k,c⟩:Ow)=y:=by cases y;simp_all
   rw [this]
  |false=>
   rw [hb] at hg;have hin:inL y.key [k]=false:=B7s (fun e=>by rw [e] at hb;simp at hb);simp only [Bb,hin];exact (List.Perm.swap _ _ _).trans ((ih hnd.2 hg).cons _)
def nSl:List Ad→Nat
 | []=>0
 |c::r=>match S4 c with|true=>nSl r+1|false=>nSl r
def opO (k:Nat):List Ad→List Ow
 | []=>[]
 |c::r=>match S4 c with|true=>⟨k,c⟩::opO (k+1) r|false=>opO k r
def opH (k:Nat) (u:Nat→Value):List Ad→List Ad
 | []=>[]
 |c::r=>match S4 c with|true=> .val (u k)::opH (k+1) u r|false=>c::opH k u r
def opL (k:Nat) (u:Nat→Value) (l:List (Nat×Value)):List Ad→List (Nat×Value)
 | []=>l
 |c::r=>match S4 c with|true=>opL (k+1) u ((k,u k)::l) r|false=>opL k u l r
def opA (k:Nat):List Ad→List AV
 | []=>[]
 |c::r=>match S4 c with|true=> .own k::opA (k+1) r|false=> .c c::opA k r
theorem C9g (k:Nat)(u:Nat→Value)(r:List Ad):(opH k u r).length=r.length:=by
 induction r generalizing k with
 |nil=>rfl
 |cons c r ih=>cases c<;>simp [opH,S4,ih]
variable {u' : Nat → Value} {r : List Ad}
theorem C2n {u:Nat→Value}(h:∀i,k≤i→u i=u' i):opH k u r=opH k u' r:=by
 induction r generalizing k with
 |nil=>rfl
 |cons c r ih=>
  cases c with
  |val v=>simp only [opH,S4];rw [ih h]
  |sl n es row=>simp only [opH,S4];rw [h k (Bu _),ih (fun i hi=>h i A7)]
variable {l : List (Nat × Value)}
theorem C2o {u:Nat→Value}(h:∀i,k≤i→u i=u' i):opL k u l r=opL k u' l r:=by
 induction r generalizing k l with
 |nil=>rfl
 |cons c r ih=>
  cases c with
  |val v=>simp only [opL,S4];rw [ih h]
  |sl n es row=>simp only [opL,S4];rw [h k (Bu _),ih (fun i hi=>h i A7)]
theorem B8a (k:Nat)(l:List Ow):Bb [k] (Bb [k] l)=Bb [k] l:=by
 induction l with
 |nil=>rfl
 |cons y r ih=>
  simp only [Bb]
  cases h:inL y.key [k] with
  |true=>simp only [ih]
  |false=>simp only [Bb,h,ih]
theorem B8q (d:List Ad)(c:Ad)(t:List Ad)(v:Ad):E6 (d++c::t) d.length [v]=d++v::t:=by
 unfold E6;rw [List.take_left,Jb,show d.length+1=(d++[c]).length by simp,show d++c::t=(d++[c])++t by simp,List.drop_left]
 simp
variable {n : Nat}
theorem Rj {l:List Ow}(h:n≠k):Bm (⟨n,c⟩::l) k=Bm l k:=by
 have:Nat.beq n k=false:=by
  cases hb:Nat.beq n k with
  |false=>rfl
  |true=>exact absurd (F7 hb) h
 simp only [Bm,this]
theorem Ok {l:List Ow}:Bm (⟨k,c⟩::l) k=some c:=by
 have:Nat.beq k k=true:=by simp
 simp only [Bm,this]
theorem C6i {α:Type}(A:List α)(x y:α)(R:List α):(x::(A++y::R)).Perm (A++y::x::R):=
 ((List.perm_middle (a:=y) (l₁:=A) (l₂:=R)).cons x).trans ((List.Perm.swap y x (A++R)).trans (((List.perm_middle (a:=x) (l₁:=A) (l₂:=R)).symm.cons y).trans (List.perm_middle (a:=y) (l₁:=A) (l₂:=x::R)).symm))
variable {es : Nat} {row : Nat → List Ad}
theorem D2h (k jn:Nat)(hj:jn<n):∀(todo done:List Ad) {s:AS} (_:k<s.next)
  (_:Bm s.own k=some (.sl n es (Hf row jn (done++todo))))
  (_:∀u,GW P B Q K {s with own:=opO s.next todo++⟨k,.sl n es (Hf row jn (done++opH s.next u todo))⟩::Bb [k] s.own,next:=s.next+nSl todo,ak:=opL s.next u s.ak todo}),GW P B Q K s:=by
 intro todo
 induction todo with
 |nil=>
  intro done s hlt hk h
  have:=h fun _=>undef
  simp only [opO,opH,nSl,opL,Uw,T3] at this;exact C6h _ (fun hnd=>A5m _ hnd hk) this
 |cons c todo ih=>
  intro done s hlt hk h
  cases c with
  |val v=>
   refine ih (done++[.val v]) hlt (by simpa using hk) (fun u=>?_)
   have:=h u
   simpa [opO,opH,nSl,opL,S4] using this
  |sl m fs rw'=>
   refine D04 k jn done.length hk hj (c:= .sl m fs rw') Ef (fun v=>?_);rw [B8q];have hne:s.next≠k:=by omega
   refine ih (done++[.val v]) (s:= {s with own:=⟨s.next,.sl m fs rw'⟩::⟨k,.sl n es (Hf row jn (done++ .val v::todo))⟩::Bb [k] s.own,next:=s.next+1,ak:=(s.next,v)::s.ak}) (by simp only;omega)
    (by simp only;rw [Rj hne,Ok];simp) (fun u=>?_)
   have hu:=h (fun i=>if i=s.next then v else u i)
   have e1:opH (s.next+1) (fun i=>if i=s.next then v else u i) todo=opH (s.next+1) u todo:=C2n (fun i hi=>by rw [Ab A7])
   have e2:∀l,opL (s.next+1) (fun i=>if i=s.next then v else u i) l todo=opL (s.next+1) u l todo:=fun l=>C2o (fun i hi=>by rw [Ab A7])
   simp only [opO,opH,opL,nSl,S4,Mo,e1,e2] at hu
   have e3:Bb [k] (⟨s.next,.sl m fs rw'⟩::⟨k,.sl n es (Hf row jn (done++ .val v::todo))⟩::Bb [k] s.own)=⟨s.next,.sl m fs rw'⟩::Bb [k] s.own:=by
    have a1:inL s.next [k]=false:=B7s hne;have a2:inL k [k]=true:=A0f.2 rfl;simp only [Bb,a1,a2,B8a]
   simp only [e3];rw [show s.next+1+nSl todo=s.next+(nSl todo+1) by omega]
   refine C6h _ (fun _=>?_) (by simpa using hu);simp only [Ci,Qw,Uw];exact C6i _ _ _ _
def B41 (ak:List (Nat×Value)):List AV→List AV→Prop
 | [],[]=>True
 |x::xs,y::ys=>(x=y∨∃k v,x= .c (.val v)∧y= .own k∧Dv ak k=some v)∧B41 ak xs ys
 |_,_=>False
variable {ak : List (Nat × Value)}
theorem B0h:∀{xs ys:List AV},B41 ak xs ys→xs.length=ys.length∧∀(i:Nat) y,ys[i]? =some y→∃x,xs[i]? =some x∧(x=y∨∃k v,x= .c (.val v)∧y= .own k∧Dv ak k=some v)
 | [],[],_=>⟨rfl,fun i y h=>by simp at h⟩
 |x::xs,y::ys,h=>by
  obtain ⟨h1,h2⟩:=h;obtain ⟨g1,g2⟩:=B0h h2;refine ⟨by simp [g1],fun i z hz=>?_⟩
  cases i with
  |zero=>exact ⟨x,rfl,by simpa using (Bv hz)▸h1⟩
  |succ i=>simpa using g2 i z (by simpa using hz)
 | [],_::_,h=>h.elim
 |_::_,[],h=>h.elim
variable {xs : List AV} {v : Value}
theorem C77 {E:Fl}{w:World}{A:Nat→Prop}{N:Nat}{ys:List AV}(hl:B41 ak xs ys)(hE:∀p∈ak,p.1<N∧E.ov p.1=p.2)(h:D0 E w A N (.agg xs) v):D0 E w A N (.agg ys) v:=by
 obtain ⟨g1,g2⟩:=B0h hl
 cases h with
 |agg vs hvl hx=>
  refine .agg vs A7 (fun i y hy=>?_);obtain ⟨x,hx1,hx2⟩:=g2 i y hy
  have:=hx i x hx1
  rcases hx2 with rfl|⟨k,u,rfl,rfl,hk⟩
  ·exact this
  obtain ⟨q1,q2⟩:=hE _ (Gr hk);have q2:E.ov k=u:=q2;rw [B3 this,←q2];exact .own q1
theorem C9p (d:Option Tmp){ys:List AV}(hl:B41 s.ak xs ys)(h:GW P B Q K (s.put d (.agg ys))):GW P B Q K (s.put d (.agg xs)):=by
 cases d with
 |none=>exact h
 |some d=>
  refine ⟨fun E a w hs=>h.out E a w ⟨hs.defers,hs.ak,by rw [hs.size];simp [AS.put,Bj],fun m z hz=>?_,hs.aw,hs.boxes2,hs.keys,hs.own,hs.ownkeys,hs.sep,hs.sepB,hs.one,hs.base,hs.fresh⟩⟩
  simp only [AS.put] at hz;rw [Cr] at hz
  split at hz
  ·rename_i hm
   obtain ⟨rfl,hm⟩:=hm;obtain rfl:=Bv hz;have hd:=hs.ac d (.agg xs) (by show (Cd s.ac d (.agg xs))[d]? =_;rw [Cr,Ah ⟨rfl,hm⟩])
   exact C77 hl hs.ak hd
  rename_i hm
  exact hs.ac m z (by simp only [AS.put,Cr];rw [Ab hm];exact hz)
theorem B1q (h:n≠k):Dv ((n,v)::l) k=Dv l k:=by
 have:Nat.beq n k=false:=by
  cases hb:Nat.beq n k with
  |false=>rfl
  |true=>exact absurd (F7 hb) h
 simp only [Dv,this]
theorem B38 (u:Nat→Value):∀(r:List Ad) (k j:Nat) (l:List (Nat×Value)),j<k→Dv (opL k u l r) j=Dv l j:=by
 intro r
 induction r with
 |nil=>intro k j l _;rfl
 |cons c r ih=>
  intro k j l h
  cases c with
  |val v=>simp only [opL,S4];exact ih k j l h
  |sl n es row=>simp only [opL,S4];rw [ih (k+1) j _ A7,B1q A7]
theorem C9f (u:Nat→Value):∀(r:List Ad) (k:Nat) (l:List (Nat×Value)) (xs:List AV),P5 (opH k u r)=some xs→B41 (opL k u l r) xs (opA k r):=by
 intro r
 induction r with
 |nil=>intro k l xs h;obtain rfl:=Bv h;trivial
 |cons c r ih=>
  intro k l xs h
  cases c with
  |val v=>
   simp only [opH,S4,P5] at h
   split at h
   ·rename_i cs hcs
    obtain rfl:=Bv h;exact ⟨.inl rfl,ih k l cs hcs⟩
   cases h
  |sl n es row=>
   simp only [opH,S4,P5] at h
   split at h
   ·rename_i cs hcs
    obtain rfl:=Bv h;refine ⟨.inr ⟨k,u k,rfl,rfl,?_⟩,ih (k+1) _ cs hcs⟩;simp only [opL,S4];rw [B38 u r (k+1) k _ A7]
    have:Nat.beq k k=true:=by simp
    simp only [Dv,this]
   cases h
theorem A6i (u:Nat→Value):∀(r:List Ad) (k:Nat),∃xs,P5 (opH k u r)=some xs∧xs.length=r.length
 | [],_=>⟨[],rfl,rfl⟩
 | .val v::r,k=>by
  obtain ⟨xs,h1,h2⟩:=A6i u r k;exact ⟨.c (.val v)::xs,by simp [opH,S4,P5,h1],by simp [h2]⟩
 | .sl n es row::r,k=>by
  obtain ⟨xs,h1,h2⟩:=A6i u r (k+1);exact ⟨.c (.val (u k))::xs,by simp [opH,S4,P5,h1],by simp [h2]⟩
theorem B7h {j:Nat}(r:List Ad)(l:List Ow)(h:j<k):Bm (opO k r++l) j=Bm l j:=by
 induction r generalizing k with
 |nil=>rfl
 |cons c r ih=>
  cases c with
  |val v=>simp only [opO,S4];exact ih h
  |sl n es row=>simp only [opO,S4,Qw];rw [Rj A7,ih A7]
variable {q : Bool} {all : Array Oper} {o : Oper} {rest : List Oper} {x : Operand} {t : TypeId} {i : TI} {jn : Nat}
theorem A3a (hT:C0 P T){j:Int}(hh0:(o.guard,o.op,find T t,s.ev x,Bm s.own k,j.toNat,row jn)=(none,.load t x,some i,.oel k es j 0,some (.sl n es row),jn,r))(hj:jn<n)(hh1:(Nat.blt k s.next,(i.agg&&Nat.beq i.size r.length))=(true,true))(h:∀u,GW P B Q (.ops q all rest::K) (({s with own:=opO s.next r++⟨k,.sl n es (Hf row jn (opH s.next u r))⟩::Bb [k] s.own,next:=s.next+nSl r,ak:=opL s.next u s.ak r}:AS).put o.dst (.agg (opA s.next r)))):
  GW P B Q (.ops q all (o::rest)::K) s:=by
 simp only [Jh] at hh0 hh1;obtain ⟨hg,ho,hi,hx,hk,hjn,hr⟩:=hh0;obtain ⟨hlt,hsz⟩:=hh1;simp only [Cj] at hsz;obtain ⟨hag,hsz⟩:=hsz;have hsz:=F7 hsz;have hlt:=D0v hlt;refine D2k k jn hk hr ?_
 have hko:Bm (Jf s.own k (.sl n es (Hf row jn r))) k=some (.sl n es (Hf row jn r)):=by
  generalize s.own=l at hk
  induction l with
  |nil=>simp [Bm] at hk
  |cons y l ih=>
   unfold Bm at hk;unfold Jf
   cases hb:Nat.beq y.key k with
   |true=>exact Ok
   |false=>
    rw [hb] at hk;simp only [Bm,hb];exact ih hk
 have hrem:Bb [k] (Jf s.own k (.sl n es (Hf row jn r)))=Bb [k] s.own:=by
  generalize s.own=l
  induction l with
  |nil=>rfl
  |cons y l ih=>
   unfold Jf
   cases hb:Nat.beq y.key k with
   |true=>
    have he:=F7 hb;have a1:inL y.key [k]=true:=A0f.2 he;have a2:inL k [k]=true:=A0f.2 rfl;simp only [Bb,a1,a2,ih]
   |false=>
    have a1:inL y.key [k]=false:=B7s (fun e=>by rw [e] at hb;simp at hb);simp only [Bb,a1,ih]
 refine D2h k jn hj r [] hlt (by simpa using hko) (fun u=>?_);simp only [Uw,hrem];obtain ⟨xs,hf,hfl⟩:=A6i u r s.next;refine D2a hT hg ho hi (r:=opH s.next u r) (xs:=xs) hx (by simp only;rw [B7h _ _ hlt,Ok]) hjn hf (by rw [C9g,hsz];simp) ?_
 have hre:O2 i xs 0= .agg xs:=by
  unfold O2;rw [hag]
  simp [seg,hsz,←hfl]
 rw [hre];exact C9p o.dst (C9f u r s.next s.ak xs hf) (h u)
theorem B7i {l:List Ow}(h:k∉ks):Bm (Bb ks l) k=Bm l k:=by
 induction l with
 |nil=>rfl
 |cons y l ih=>
  cases hb:inL y.key ks with
  |true=>
   have hm:=Hx.1 hb;have hne:y.key≠k:=fun e=>h (e▸hm);simp only [Bb,hb];rw [show y=⟨y.key,y.cell⟩ from rfl,Rj hne,ih]
  |false=>
   simp only [Bb,hb,Bm,ih]
theorem B5l (ks js:List Nat)(l:List Ow):Bb ks (Bb js l)=Bb (js++ks) l:=by
 induction l with
 |nil=>rfl
 |cons y l ih=>
  cases hb:inL y.key js with
  |true=>
   have:inL y.key (js++ks)=true:=Hx.2 (A79 _ (Hx.1 hb))
   simp only [Bb,hb,this,ih]
  |false=>
   cases hc:inL y.key ks with
   |true=>
    have:inL y.key (js++ks)=true:=Hx.2 (A8a _ (Hx.1 hc))
    simp only [Bb,hb,hc,this,ih]
   |false=>
    have:inL y.key (js++ks)=false:=by
     cases hd:inL y.key (js++ks) with
     |false=>rfl
     |true=>
      rcases Hg.1 (Hx.1 hd) with h|h
      ·rw [Hx.2 h] at hb;cases hb
      rw [Hx.2 h] at hc;cases hc
    simp only [Bb,hb,hc,this,ih]
theorem B5k {js:List Nat}(h:∀k,k∈ks↔k∈js)(l:List Ow):Bb ks l=Bb js l:=by
 induction l with
 |nil=>rfl
 |cons y l ih=>
  have:inL y.key ks=inL y.key js:=by
   rw [Lf,Hx,Hx];exact h _
  simp only [Bb,this,ih]
def A1y (l:List Ad) (i:Nat) (c:Ad):List Ad:=
 match l,i with
 | [],_=>[]
 |_::r,0=>c::r
 |x::r,i+1=>x::A1y r i c
theorem A3h (c:Ad):∀(l:List Ad) (i:Nat),i<l.length→A1y l i c=E6 l i [c]
 | [],_,h=>absurd h (Le _)
 |x::r,0,_=>by simp [A1y,E6]
 |x::r,i+1,h=>by
  have:=A3h c r i (by simpa using h)
  simp only [A1y,this,E6,Jb,List.take_succ_cons,Qw,Wi]
theorem A7b (c:Ad):∀(l:List Ad) (i j:Nat),i≠j→(A1y l i c)[j]? =l[j]?
 | [],_,_,_=>rfl
 |x::r,0,j,h=>by cases j with
  |zero=>exact absurd rfl h
  |succ j=>rfl
 |x::r,i+1,j,h=>by cases j with
  |zero=>rfl
  |succ j=>simpa [A1y] using A7b c r i j A7
def W7 (own:List Ow) (r:List Ad):List (Nat×Nat)→Option (List Ad)
 | []=>some r
 |(off,k)::ps=>match Bm own k with
  |some c=>W7 own (A1y r off c) ps
  |none=>none
def Z0 (ak:List (Nat×Value)) (r:List Ad):List (Nat×Nat)→Prop
 | []=>True
 |(off,k)::ps=>(∃v,r[off]? =some (.val v)∧Dv ak k=some v)∧Z0 ak r ps
variable {off : Nat}
theorem A7d:∀{ps:List (Nat×Nat)},off∉ps.map Prod.fst→Z0 ak r ps→Z0 ak (A1y r off c) ps
 | [],_,_=>trivial
 |(o,k)::ps,hn,h=>by
  simp only [I8,C7,not_or] at hn;obtain ⟨⟨v,h1,h2⟩,h3⟩:=h;exact ⟨⟨v,by rw [A7b _ _ _ _ hn.1];exact h1,h2⟩,A7d hn.2 h3⟩
theorem D2p (k jn:Nat)(hj:jn<n):∀(ps:List (Nat×Nat)) (r r':List Ad) {s:AS}
  (_:Bm s.own k=some (.sl n es (Hf row jn r))) (_:(k::ps.map Prod.snd).Nodup) (_:(ps.map Prod.fst).Nodup) (_:Z0 s.ak r ps) (_:W7 s.own r ps=some r')
  (_:GW P B Q K {s with own:=⟨k,.sl n es (Hf row jn r')⟩::Bb (k::ps.map Prod.snd) s.own}),GW P B Q K s:=by
 intro ps
 induction ps with
 |nil=>
  intro r r' s hk hn hf ho hc h;obtain rfl:=Bv hc;exact C6h _ (fun hnd=>A5m _ hnd hk) h
 |cons p ps ih=>
  obtain ⟨off,k2⟩:=p;intro r r' s hk hn hf ho hc h;have hn':=hn;simp only [I8] at hn hf;obtain ⟨hkk',hn2⟩:=Ip.1 hn;obtain ⟨hk2ps,hps⟩:=Ip.1 hn2;obtain ⟨hoffps,hfps⟩:=Ip.1 hf;have hkk:k≠k2:=fun e=>hkk' (by rw [e];exact Hq ..);have hkps:k∉ps.map Prod.snd:=fun e=>hkk' (Cq _ e);obtain ⟨⟨v,hv1,hv2⟩,ho⟩:=ho;unfold W7 at hc
  split at hc
  ·rename_i c hg
   have hoff:off<r.length:=(Cu.1 hv1).1;refine C7m k k2 off hk hj hv1 hg hv2 (by cases hb:Nat.beq k k2 with|false=>rfl|true=>exact absurd (F7 hb) hkk) (A3h c r off hoff).symm ?_
   have hrem:Bb (k::ps.map Prod.snd) (⟨k,.sl n es (Hf row jn (A1y r off c))⟩::Bb [k,k2] s.own)=Bb (k::k2::ps.map Prod.snd) s.own:=by
    have a1:inL k (k::ps.map Prod.snd)=true:=Hx.2 (Hq ..);simp only [Bb,a1];rw [B5l];refine B5k (fun z=>?_) _;generalize ps.map Prod.snd=m;simp only [Qw,Uw,C7]
    constructor
    ·rintro (h|h|h|h)
     ·exact .inl h
     ·exact .inr (.inl h)
     ·exact .inl h
     exact .inr (.inr h)
    rintro (h|h|h)
    ·exact .inl h
    ·exact .inr (.inl h)
    exact .inr (.inr (.inr h))
   have hgo:∀z,z∈ps.map Prod.snd→Bm (⟨k,.sl n es (Hf row jn (A1y r off c))⟩::Bb [k,k2] s.own) z=Bm s.own z:=by
    intro z hz;have z1:k≠z:=fun e=>hkps (e▸hz);have z2:k2≠z:=fun e=>hk2ps (e▸hz);rw [Rj z1,B7i (by simp only [C7,K0,Ld];rintro (e|e);exact z1 e.symm;exact z2 e.symm)]
   have hsh:∀(qs:List (Nat×Nat)) (r0:List Ad),(∀z∈qs.map Prod.snd,z∈ps.map Prod.snd)→W7 (⟨k,.sl n es (Hf row jn (A1y r off c))⟩::Bb [k,k2] s.own) r0 qs=W7 s.own r0 qs:=by
    intro qs
    have:∀(own':List Ow),(∀z,z∈ps.map Prod.snd→Bm own' z=Bm s.own z)→∀(r:List Ad),(∀z∈qs.map Prod.snd,z∈ps.map Prod.snd)→W7 own' r qs=W7 s.own r qs:=by
     intro own' ho'
     induction qs with
     |nil=>intro r _;rfl
     |cons q qs ih2=>
      obtain ⟨o2,k3⟩:=q;intro r hz;unfold W7;rw [ho' k3 (hz k3 Ef)]
      split
      ·exact ih2 _ (fun z hz'=>hz z (by simp only [I8];exact Cq _ hz'))
      rfl
    exact this _ hgo
   refine ih (A1y r off c) r' (s:= {s with own:=⟨k,.sl n es (Hf row jn (A1y r off c))⟩::Bb [k,k2] s.own}) Ok (Ip.2 ⟨hkps,hps⟩) hfps (A7d hoffps ho) (by simp only;rw [hsh ps _ (fun _ h=>h)];exact hc) ?_
   simp only
   rw [hrem];exact h
  cases hc
variable {r' : List Ad}
theorem Rp (k jn:Nat)(ps:List (Nat×Nat))(c:Ad)(hj:jn<n)(hk:Bm s.own k=some (.sl n es (Hf row jn r)))(hn:(Gl (k::ps.map Prod.snd)&&Gl (ps.map Prod.fst))=true)(ho:Z0 s.ak r ps)(hc:W7 s.own r ps=some r')(hcast:Kn (.sl n es (Hf row jn r')) c)(h:GW P B Q K {s with own:=⟨k,c⟩::Bb (k::ps.map Prod.snd) s.own}):GW P B Q K s:=by
 simp only [Cj] at hn;refine D2p k jn hj ps r r' hk (Eu hn.1) (Eu hn.2) ho hc ?_;refine Fi k c Ok hcast ?_;have e1:Nat.beq k k=true:=by simp
 have e2:Jf (Bb (k::ps.map Prod.snd) s.own) k c=Bb (k::ps.map Prod.snd) s.own:=by
  have:∀(l:List Ow),(∀y∈l,y.key≠k)→Jf l k c=l:=by
   intro l
   induction l with
   |nil=>intro _;rfl
   |cons y l ih=>
    intro hl
    have hb:Nat.beq y.key k=false:=by
     cases hb:Nat.beq y.key k with
     |false=>rfl
     |true=>exact absurd (F7 hb) (hl y Ef)
    simp only [Jf,hb,ih (fun z hz=>hl z (Cq _ hz))]
  exact this _ (fun y hy e=>(Bl.1 hy).2 (by rw [e];exact Hq ..))
 simp only [Jf,e1,e2];exact h
theorem N3 (hT:C0 P T){j:Int}(hh:(o.guard,o.op,find T t,i.agg,s.ev x,Bm s.own k,j.toNat)=(none,.load t x,some i,false,.oel k es j off,some (.sl n es row),jn))(hr:row jn=r)(hc:r[off]? =some (.val v))(h:GW P B Q (.ops q all rest::K) (s.put o.dst (.c (.val v)))):GW P B Q (.ops q all (o::rest)::K) s:=by
 simp only [Jh] at hh;obtain ⟨hg,ho,hi,hag,hx,hk,hjn⟩:=hh;refine ⟨Eb hg (fun E a w hs=>?_)⟩;have hm:=Ca hk;obtain ⟨hklt,o2,o3⟩:=hs.own _ hm
 simp only at o2 o3 hklt
 have hev:=hs.ev x;rw [hx] at hev;generalize hv:a.eval x=v' at hev
 cases hev with
 |oel _ b o' n' cap hkl hov h0 hj=>
  rw [hov] at o2;obtain ⟨m,rfl⟩:=Ud h0;simp only [Cp,Z4] at *;subst hjn;generalize E.fp k=fp at o2
  cases o2 with
  |emp=>exact absurd hj (Le _)
  |sl _ _ _ _ offb _ ty cells fps hn hc' hb hsz hl hr'=>
   have hoff:off<es:=by rw [←hl m hj,hr];exact (Cu.1 hc).1
   have hin:=hr' m off _ hj (by rw [hr];exact hc)
   have hcl:(offb+m) * es+off<cells.size:=by
    have:=Gs (show offb+m<offb+cap by omega) hoff
    omega
   have hval:cells.getD ((offb+m) * es+off) undef=v∧v.oneCell'=true:=by
    generalize cells.getD ((offb+m) * es+off) undef=u,fps (m * es+off)=g at hin
    cases hin with
    |val _ h1=>exact ⟨rfl,h1⟩
   obtain ⟨hval,h1v⟩:=hval;refine ⟨v,fun w' hkw=>?_,h.out E _ w (hs.put o.dst (.c (.val v h1v)))⟩;obtain ⟨dst,op',ty',pos,after,guard⟩:=o
   simp only at ho
   subst ho;obtain ⟨f,d,z,S⟩:=TI.of_spec (hT t i hi);have h1:=S.one (by rw [←S.agg];exact hag)
   have hrun:=J7 (hT t i hi) w' b (offb * es+m * es+off) ((List.range i.size).map fun _=>v) Ef (fun p hp=>by
    obtain rfl:p=0:=by omega
    refine hkw.cell ?_;rw [show offb * es+m * es+off+0=(offb+m) * es+off by rw [G1];omega,cell_of_row w b _ cells ty (0,0) hb]
    simp only [h1,List.range_one,I8,Z9,Ue];rw [←hval,A2f]
    simp [hcl])
   simp only [execOp,hv,Instr.loadAt,Instr.sureAddr,Sem.run_bind,Sem.run_pure,Result.andThen_ok,hrun,hag,h1];rfl
theorem Ma (hT:C0 P T){j:Int}(hh0:(o.guard,o.op,find T t,i.agg,s.ev x,Bm s.own k)=(none,.load t x,some i,false,.oel k es j off,some (.sl n es row)))(hjn:j.toNat=jn)(hh1:(row jn,r[off]?)=(r,some c))(h:∀v,GW P B Q (.ops q all rest::K) (({s with own:=⟨s.next,c⟩::⟨k,.sl n es (Hf row jn (E6 r off [.val v]))⟩::Bb [k] s.own,next:=s.next+1,ak:=(s.next,v)::s.ak}:AS).put o.dst (.own s.next))):
  GW P B Q (.ops q all (o::rest)::K) s:=by
 simp only [Jh] at hh0 hh1;obtain ⟨hg,ho,hi,hag,hx,hk⟩:=hh0;obtain ⟨hr,hc⟩:=hh1;subst hjn;refine D05 hT hg ho hi hag hx hk (c:=c) (by rw [hr];exact hc) fun v=>?_
 have:=h v
 rw [←C8q row j.toNat off v hr] at this;exact this
variable {dst : Option Tmp}
theorem D20 {f:FuncId}{s':AS}(hslots:s'.ac=s.ac)(tr:∀(K':List KI) (sl:List AV),GW P B QF K' {s' with ac:=sl}→GW P B QF K' {s with ac:=sl})(h:CW P B Q q f xs dst K s'):CW P B Q q f xs dst K s:=by
 obtain ⟨hc,h⟩:=h;refine ⟨⟨hc,fun E a w hs vs hl hv=>?_⟩⟩
 let a2:Act:= {a with tmps:=a.tmps++vs.toArray}
 have h2:({s with ac:=s.ac++xs}:AS).is B E a2 w:=by
  refine ⟨hs.defers,hs.ak,by simp [a2,hs.size,hl],fun i x hx=>?_,hs.aw,hs.boxes2,hs.keys,hs.own,hs.ownkeys,hs.sep,hs.sepB,hs.one,hs.base,hs.fresh⟩;have hsz:=hs.size
  simp only at hx
  by_cases hi:i<s.ac.length
  ·rw [F3 hi] at hx
   have:=hs.ac i x hx
   have e:a2.tmps.getD i undef=a.tmps.getD i undef:=by
    rw [←Bn,←Bn];simp only [a2,A2e,List.getD];rw [F3 (by simpa [hsz] using hi)]
   rw [e];exact this
  rw [F8 A7] at hx
  have:=hv _ x hx
  have e:a2.tmps.getD i undef=vs.getD (i-s.ac.length) undef:=by
   rw [←Bn];simp only [a2,A2e,List.getD];rw [F8 (by simp [hsz];omega)]
   simp [hsz]
  rw [e];exact this
 have:=(tr [.loop (fun a' w'=>∃E',({s' with ac:=s.ac++xs}:AS).is B E' a' w')] (s.ac++xs) ⟨fun E' a' w' hs'=>⟨E',hs'⟩⟩).out E a2 w h2
 obtain ⟨E',hs'⟩:=this;have hsz:=hs.size;refine h E' a w ⟨hs.defers,hs'.ak,by rw [hslots];exact hs.size,fun i x hx=>?_,hs'.aw,hs'.boxes2,hs'.keys,hs'.own,hs'.ownkeys,hs'.sep,hs'.sepB,hs'.one,hs'.base,hs'.fresh⟩ vs hl fun i x hx=>?_
 ·rw [hslots] at hx
  have hi:i<s.ac.length:=(Cu.1 hx).1
  have:=hs'.ac i x (by simp only;rw [F3 hi];exact hx)
  have e:a2.tmps.getD i undef=a.tmps.getD i undef:=by
   rw [←Bn,←Bn];simp only [a2,A2e,List.getD];rw [F3 (by simpa [hsz] using hi)]
  rw [e] at this;exact this
 have hi:i<xs.length:=(Cu.1 hx).1
 have:=hs'.ac (s.ac.length+i) x (by simp only;rw [F8 A7];simpa using hx)
 have e:a2.tmps.getD (s.ac.length+i) undef=vs.getD i undef:=by
  rw [←Bn];simp only [a2,A2e,List.getD];rw [F8 (by simp [hsz])]
  simp [hsz]
 rw [e] at this;exact this
theorem B8i {f:FuncId}(k jn:Nat)(ps:List (Nat×Nat))(c:Ad)(hj:jn<n)(hk:Bm s.own k=some (.sl n es (Hf row jn r)))(hn:(Gl (k::ps.map Prod.snd)&&Gl (ps.map Prod.fst))=true)(ho:Z0 s.ak r ps)(hc:W7 s.own r ps=some r')(hcast:Kn (.sl n es (Hf row jn r')) c)(h:CW P B Q q f xs dst K {s with own:=⟨k,c⟩::Bb (k::ps.map Prod.snd) s.own}):CW P B Q q f xs dst K s:=
 D20 (s':= {s with own:=⟨k,c⟩::Bb (k::ps.map Prod.snd) s.own}) rfl (fun _ sl g=>Rp (s:= {s with ac:=sl}) k jn ps c hj hk hn ho hc hcast g) h
theorem C21 (P:Program){s':AS}(tr:∀(K':List KI),GW P B QF K' s'→GW P B QF K' s)(h:RW B Q s'):RW B Q s:=
 ⟨fun E a w hs=>(tr [.loop (fun a w=>Q .ret a w)] ⟨fun E a w hs=>h.rec fun g=>g E a w hs⟩).out E a w hs⟩
theorem Yt (k j key:Nat){b:Bx}(hb:Fq s.aw k=some b)(hj:I4 b.cells j= .own key)(h:∀v,GW P B Q K {s with aw:=Fe s.aw k (Cd b.cells j (.c (.val v))),ak:=(key,v)::s.ak}):GW P B Q K s:=by
 refine ⟨fun E a w hs=>?_⟩;obtain ⟨hm,hbk⟩:=F9 hb;obtain ⟨h1,vs,ty,h2,h3,h4⟩:=hs.aw b hm
 have hlt:key<s.next:=by
  rw [Cb] at hj
  cases hg:b.cells[j]? with
  |none=>rw [hg] at hj;simp at hj
  |some x=>
   rw [hg] at hj;have hx:x= .own key:=by simpa using hj
   subst hx
   have:=h4 j _ hg
   generalize vs.getD j undef=q at this
   cases this with
   |own hk=>exact hk
 have hone:(E.ov key).oneCell'=true:=hs.one key hlt;refine (h (E.ov key)).out E a w ⟨hs.defers,fun p hp=>?_,hs.size,?_,fun x hx=>?_,fun x hx y hy=>?_,by rw [Qt];exact hs.keys,hs.own,hs.ownkeys,hs.sep,fun x hx y hy=>?_,hs.one,hs.base,?_⟩
 ·rcases C7.1 hp with rfl|hp
  ·exact ⟨hlt,rfl⟩
  exact hs.ak p hp
 all_goals
  have av:∀c,({s with aw:=Fe s.aw k (Cd b.cells j (.c (.val (E.ov key)))),ak:=(key,E.ov key)::s.ak}:AS).ag E c→s.ag E c:=by
   rintro c (⟨x,hx,rfl⟩|hc)
   ·rcases Fb hx hs.keys with ⟨e1,_,y,hy,e2⟩|⟨hx,_⟩
    ·exact .inl ⟨y,hy,by rw [e1,e2]⟩
    exact .inl ⟨x,hx,rfl⟩
   exact .inr hc
  have mv:∀x v,D0 E w (s.ag E) s.next x v→D0 E w (({s with aw:=Fe s.aw k (Cd b.cells j (.c (.val (E.ov key)))),ak:=(key,E.ov key)::s.ak}:AS).ag E) s.next x v:=fun x v hx=>
   hx.move (Bu _) (fun _ _=>⟨rfl,rfl⟩) (fun _ _ _=>rfl) (fun b _ hb=>av b hb)
 ·exact fun i x hx=>mv _ _ (hs.ac i x hx)
 ·rcases Fb hx hs.keys with ⟨e1,e2,_⟩|⟨hx,_⟩
  ·rw [e1,e2]
   refine ⟨by rw [←hbk];exact h1,vs,ty,by rw [←hbk];exact h2,by rw [Bj];exact h3,fun i y hy=>?_⟩;rw [Cr] at hy
   split at hy
   ·rename_i hm'
    obtain ⟨rfl,hm'⟩:=hm';obtain rfl:=Bv hy
    have:=h4 j (.own key) (by rw [Cb,Dh hm'] at hj;rw [Dh hm'];simpa using hj)
    generalize vs.getD j undef=q at this
    cases this with
    |own hk=>exact .c (.val _ hone)
   exact mv _ _ (h4 i y hy)
  obtain ⟨g1,vs',ty',g2,g3,g4⟩:=hs.aw x hx;exact ⟨g1,vs',ty',g2,g3,fun i y hy=>mv _ _ (g4 i y hy)⟩
 ·intro e
  have kx:∃x'∈s.aw,x'.key=x.key:=by
   rcases Fb hx hs.keys with ⟨e1,_,y,hy,e2⟩|⟨hx,_⟩
   ·exact ⟨y,hy,by rw [e1,e2]⟩
   exact ⟨x,hx,rfl⟩
  have ky:∃x'∈s.aw,x'.key=y.key:=by
   rcases Fb hy hs.keys with ⟨e1,_,y',hy',e2⟩|⟨hy,_⟩
   ·exact ⟨y',hy',by rw [e1,e2]⟩
   exact ⟨y,hy,rfl⟩
  obtain ⟨x',hx',ex⟩:=kx;obtain ⟨y',hy',ey⟩:=ky;rw [←ex,←ey];exact hs.boxes2 x' hx' y' hy' (by rw [ex,ey];exact e)
 ·rcases Fb hx hs.keys with ⟨e1,_,z,hz,e2⟩|⟨hx,_⟩
  ·rw [e1,←e2];exact hs.sepB z hz y hy
  exact hs.sepB x hx y hy
 exact fun c hc=>hs.fresh c (av c hc)
theorem Yr (k j key:Nat){b:Bx}(hb:Fq s.aw k=some b)(hj:I4 b.cells j= .c (.val v))(hl:Dv s.ak key=some v)(h:GW P B Q K {s with aw:=Fe s.aw k (Cd b.cells j (.own key))}):GW P B Q K s:=by
 refine ⟨fun E a w hs=>?_⟩;obtain ⟨hm,hbk⟩:=F9 hb;obtain ⟨h1,vs,ty,h2,h3,h4⟩:=hs.aw b hm;obtain ⟨hlt,hov⟩:=hs.ak _ (Gr hl);have hov:E.ov key=v:=hov
 have av:∀c,({s with aw:=Fe s.aw k (Cd b.cells j (.own key))}:AS).ag E c→s.ag E c:=by
  rintro c (⟨x,hx,rfl⟩|hc)
  ·rcases Fb hx hs.keys with ⟨e1,_,y,hy,e2⟩|⟨hx,_⟩
   ·exact .inl ⟨y,hy,by rw [e1,e2]⟩
   exact .inl ⟨x,hx,rfl⟩
  exact .inr hc
 have mv:∀x v,D0 E w (s.ag E) s.next x v→D0 E w (({s with aw:=Fe s.aw k (Cd b.cells j (.own key))}:AS).ag E) s.next x v:=fun x v hx=>
  hx.move (Bu _) (fun _ _=>⟨rfl,rfl⟩) (fun _ _ _=>rfl) (fun b _ hb=>av b hb)
 have kx:∀x∈Fe s.aw k (Cd b.cells j (.own key)),∃x'∈s.aw,x'.key=x.key:=fun x hx=>by
  rcases Fb hx hs.keys with ⟨e1,_,y,hy,e2⟩|⟨hx,_⟩
  ·exact ⟨y,hy,by rw [e1,e2]⟩
  exact ⟨x,hx,rfl⟩
 refine h.out E a w ⟨hs.defers,hs.ak,hs.size,fun i x hx=>mv _ _ (hs.ac i x hx),fun x hx=>?_,fun x hx y hy e=>?_,by rw [Qt];exact hs.keys,hs.own,hs.ownkeys,hs.sep,fun x hx y hy=>?_,hs.one,hs.base,fun c hc=>hs.fresh c (av c hc)⟩
 ·rcases Fb hx hs.keys with ⟨e1,e2,_⟩|⟨hx,_⟩
  ·rw [e1,e2]
   refine ⟨by rw [←hbk];exact h1,vs,ty,by rw [←hbk];exact h2,by rw [Bj];exact h3,fun i y hy=>?_⟩;rw [Cr] at hy
   split at hy
   ·rename_i hm'
    obtain ⟨rfl,hm'⟩:=hm';obtain rfl:=Bv hy
    have:=h4 j (.c (.val v)) (by rw [Cb,Dh hm'] at hj;rw [Dh hm'];simpa using hj)
    rw [B3 this,←hov];exact .own hlt
   exact mv _ _ (h4 i y hy)
  obtain ⟨g1,vs',ty',g2,g3,g4⟩:=hs.aw x hx;exact ⟨g1,vs',ty',g2,g3,fun i y hy=>mv _ _ (g4 i y hy)⟩
 ·obtain ⟨x',hx',ex⟩:=kx x hx
  obtain ⟨y',hy',ey⟩:=kx y hy;rw [←ex,←ey];exact hs.boxes2 x' hx' y' hy' (by rw [ex,ey];exact e)
 obtain ⟨x',hx',ex⟩:=kx x hx;rw [←ex];exact hs.sepB x' hx' y hy
theorem Ge (P:Program)(k jn:Nat)(ps:List (Nat×Nat))(c:Ad)(hj:jn<n)(hh:(Bm s.own k,(Gl (k::ps.map Prod.snd)&&Gl (ps.map Prod.fst)))=(some (.sl n es (Hf row jn r)),true))(ho:Z0 s.ak r ps)(hc:W7 s.own r ps=some r')(hcast:Kn (.sl n es (Hf row jn r')) c)(h:RW B Q {s with own:=⟨k,c⟩::Bb (k::ps.map Prod.snd) s.own}):RW B Q s:=by
 simp only [Jh] at hh;obtain ⟨hk,hn⟩:=hh;exact C21 P (s':= {s with own:=⟨k,c⟩::Bb (k::ps.map Prod.snd) s.own}) (fun _ g=>Rp k jn ps c hj hk hn ho hc hcast g) h
variable {ops : Array Oper}
def A3z (ops:Array Oper) (listed:Array Bool):Bool:=
 (List.range ops.size).all fun j=>!listed.getD j false||match ops[j]? with
  |some o=>o.after.toList.all fun e=>!Region.binds .any e||listed.getD e.on false
  |none=>true
variable {listed : Array Bool}
theorem Pr (h:A3z ops listed=true):Pp ops listed:=by
 intro j o ho hl e he hb
 have:=Ja.1 h j (Fk.2 (T2.1 ho).1)
 simp only [hl,ho,Bool.not_true,Zb] at this
 have:=Ja.1 this e (Uf.2 he)
 simpa [hb] using this
theorem Lw {N:Act→World→Prop}{fuel:Nat}{s':AS}(i:Nat)(hi:ops[i]? =some o)(hb:(Nat.beq (Di o.op) 0&&Region.noSelect ops&&(Region.ready .any ops listed).contains i&&B35 ops listed i o&&A3z ops listed)=true)(ht:GW P B QF [.ops true ops [o],.loop (fun a w=>∃E,s'.is B E a w)] s)(h:BW P B N ops fuel (listed.setIfInBounds i true) s'):BW P B N ops (fuel+1) listed s:=by
 simp only [Cj,Z6] at hb;obtain ⟨⟨⟨⟨h0,h1⟩,h2⟩,h3⟩,h4⟩:=hb;have h0:=F7 h0;refine ⟨fun E a w hs=>?_⟩;have hg:Fz P ops (fun a w=>∃E,s'.is B E a w) [o] a w:=ht.out E a w hs
 have hfree:∀j oj,ops[j]? =some oj→j≠i→listed.getD j true=false→Wa ops ops.size j i=true∨(o.apart ops oj=true∧(Pd o.op=true∨Di oj.op≤1)):=by
  intro j oj hoj hji hun
  have:=Ja.1 h3 j (Fk.2 (T2.1 hoj).1)
  simp only [hoj,hun,A2c,Yd,Rv,hji,false_or,Cj] at this;exact this.symm.imp id fun ⟨h1,h2⟩=>⟨h1,h2.imp id fun h=>Cz h⟩
 unfold Fz at hg
 by_cases hw:Region.wanted o (yielded ops a.tmps)=true
 ·rw [Ah hw] at hg
  rcases hg with ⟨v,hv,hn⟩|⟨hk,_⟩
  ·obtain ⟨E',hs'⟩:=hn
   exact Nt hi (Region.noSelect_spec h1) ops.size fuel listed a w (Pr h4) hfree h2 (.inl ⟨hw,fun w' hw'=>hw'.elim (fun hb=>Si hb a.eval (hv w (Ed.refl w))) (hv w')⟩) (h.out E' _ w hs')
  exact absurd h0 hk
 rw [Ab hw] at hg;obtain ⟨E',hs'⟩:=hg;exact Nt hi (Region.noSelect_spec h1) ops.size fuel listed a w (Pr h4) hfree h2 (.inr ⟨by simpa using hw,rfl⟩) (h.out E' _ w hs')
theorem B24 (hT:C0 P T){e:TypeId}{lo hi:Option Operand}{j:TI}{l h:Int}(hh:(o.guard,o.op,find T t,i.elem,find T e,s.ev x,Bm s.own k,es,bnd s lo 0,bnd s hi n)=(none,.slice t x lo hi none,some i,some e,some j,.own k,some (.sl n es row),j.size,some l,some h))(hb:0≤l∧l≤h∧h≤n)(c:Ad)(hc:Xj n es row l h c)(hgo:GW P B Q (.ops q all rest::K) (({s with own:=⟨s.next,c⟩::Bb [k] s.own,next:=s.next+1}:AS).put o.dst (.own s.next))):GW P B Q (.ops q all (o::rest)::K) s:=by
 simp only [Jh] at hh;obtain ⟨hg,ho,hi',he,hj,hx,hk,hes,hl,hh⟩:=hh;subst hes;refine ⟨Eb hg (fun E a w hs=>?_)⟩;have hd:=hs.ev x;rw [hx] at hd;have hm:=Ca hk;obtain ⟨hklt,o2,o3⟩:=hs.own _ hm
 simp only at o2 o3 hklt
 have h1:=L3 hs hl;have h2:=L3 hs hh
 have hv:a.eval x=E.ov k:=by
  generalize a.eval x=v at hd
  cases hd with
  |own _=>rfl
 have key:∃ad cap fp',E.ov k= .slice ad n cap∧n≤cap∧Bz w c (sliced ad l.toNat h.toNat cap j.size) fp'∧fp'.Nodup∧∀b∈fp',b∈E.fp k:=by
  obtain ⟨row',rfl,hrow⟩:=hc;generalize E.ov k=u,E.fp k=fp at o2 o3 ⊢;obtain ⟨p,rfl⟩:∃p:Nat,l=p:=⟨l.toNat,by omega⟩;obtain ⟨q,rfl⟩:∃q:Nat,h=q:=⟨h.toNat,by omega⟩;have e:((q:Int)-p).toNat=q-p:=by omega
  simp only [Cp] at hrow ⊢;rw [e] at hrow ⊢
  cases o2 with
  |nil=>
   have e1:p=0:=by omega
   have e2:q=0:=by omega
   subst e1;subst e2;exact ⟨none,0,[],rfl,Bu _,.nil _ _,by simp,by simp⟩
  |emp _ _ b0 o0=>
   have e1:p=0:=by omega
   have e2:q=0:=by omega
   subst e1;subst e2;exact ⟨_,0,[],rfl,Bu _,.emp _ _ _ _,by simp,by simp⟩
  |sl _ _ _ b offb cap ty cells fps hn hcp hbk hcs hl' hr=>
   obtain ⟨f1,f2⟩:=Ip.1 o3;obtain ⟨f3,f4⟩:=Cg.1 f2;have hpq:p≤q:=by omega
   have hqn:q≤n:=by omega
   refine ⟨some ⟨b,offb * j.size,none⟩,cap,?_⟩
   by_cases hcl:cap=p
   ·refine ⟨[],rfl,hn,?_,by simp,by simp⟩
    have e1:q-p=0:=by omega
    unfold sliced;rw [Ah hcl,e1,show cap-p=0 by omega]
    exact .emp _ _ _ _
   have ea:(some (⟨b,offb * j.size,none⟩:Addr)).map (·.add (p * j.size))=some ⟨b,(offb+p) * j.size,none⟩:=by
    simp only [Qv,Iz,G1]
   refine ⟨b::(List.range ((q-p) * j.size)).flatMap (fun i=>fps (p * j.size+i)),rfl,hn,?_,?_,?_⟩
   ·unfold sliced
    rw [Ab hcl,ea];refine .sl (q-p) j.size row' b (offb+p) (cap-p) ty cells (fun i=>fps (p * j.size+i)) A7 A7 hbk (by rw [show offb+p+(cap-p)=offb+cap by omega];exact hcs) (fun i hi=>by rw [hrow i hi];exact hl' _ A7) (fun i m c hi hm=>?_)
    rw [hrow i hi] at hm
    have:=hr (p+i) m c A7 hm
    rw [show (p+i) * j.size+m=p * j.size+(i * j.size+m) by rw [G1];omega,show offb+(p+i)=offb+p+i by omega] at this
    exact this
   ·have hin:∀i,i<(q-p) * j.size→p * j.size+i<n * j.size:=fun i hi=>by
     have h1:(q-p) * j.size≤(n-p) * j.size:=Kl _ A7;have h2:p * j.size+(n-p) * j.size=n * j.size:=by rw [←G1];congr 1;omega
     omega
    refine Ip.2 ⟨fun hm=>?_,Cg.2 ⟨fun i hi=>f3 _ (Fk.2 (hin i (Fk.1 hi))),?_⟩⟩
    ·obtain ⟨i,hi,hm⟩:=E7.1 hm
     exact f1 (Dp (hin i (Fk.1 hi)) hm)
    refine Ry.2 (fun i m hi hm him z hz hz'=>?_);simp only [Wc] at hi hm;simp only [Ui] at hz hz';have hp:=Ry.1 f4 (p * j.size+i) (p * j.size+m) (by simpa using hin i hi) (by simpa using hin m hm) A7 z;simp only [Ui] at hp;exact hp hz hz'
   intro z hz
   rcases C7.1 hz with rfl|hz
   ·simp
   obtain ⟨i,hi,hz⟩:=E7.1 hz;refine Cq _ (Dp ?_ hz);have h1:(q-p) * j.size≤(n-p) * j.size:=Kl _ A7;have h2:p * j.size+(n-p) * j.size=n * j.size:=by rw [←G1];congr 1;omega
   have:=Fk.1 hi
   omega
 obtain ⟨ad,cap,fp',hov,hcap,hrep,hnd,hsub⟩:=key;have hI:=hs.drop [k]
 obtain ⟨k1,k2⟩:=hI.addOwn hrep hnd (fun z hz=>by
  have hzk:=hsub z hz;have hav:s.ag E z:= .inr ⟨_,hm,hzk⟩;refine ⟨hav,?_,hs.fresh z hav⟩
  rintro (⟨r,hr',rfl⟩|⟨r,hr',hz'⟩)
  ·exact hs.sepB r hr' _ hm hzk
  obtain ⟨q1,q2⟩:=Bl.1 hr'
  exact hs.sep _ hm r q1 (fun e=>q2 (by simp at e;simp [e])) z hzk hz')
 refine ⟨_,fun w' _=>?_,hgo.out _ _ w ((k1.put o.dst k2).is)⟩;have hrun:=B2u (a:=ad) (hT t i hi') he (hT e j hj) h1 h2 hb.1 hb.2.1 hb.2.2 hcap w';obtain ⟨dst,op',ty,pos,after,guard⟩:=o
 simp only at ho
 subst ho
 simp [execOp,hv,hov,hrun]
end Go.Sx
set_option maxRecDepth 100000
namespace Go.Sx
open Go
open Go.RowKit (Below)
variable {P : Program} {T : List (TypeId × TI)}
def Hl (n:Nat) (row:Nat→List Ad):List AV:=(List.range n).flatMap fun i=>(row i).map AV.c
variable {n : Nat} {es : Nat} {row : Nat → List Ad}
theorem O3 (hl:∀i,i<n→(row i).length=es):(Hl n row).length=n * es:=by
 unfold Hl
 induction n with
 |zero=>simp
 |succ n ih=>
  rw [Za,Wo,Dn,ih (fun i hi=>hl i A7)]
  simp [hl n (Ru n),Pj]
theorem Yx (hl:∀i,i<n→(row i).length=es){i j:Nat}(hi:i<n)(hj:j<es):(Hl n row)[i * es+j]? =((row i)[j]?).map AV.c:=by
 unfold Hl
 induction n with
 |zero=>omega
 |succ n ih=>
  have hlen:=O3 (n:=n) (row:=row) (es:=es) (fun i hi=>hl i A7);unfold Hl at hlen;rw [Za,Wo]
  by_cases h:i<n
  ·have:=Gs h hj
   rw [F3 A7];exact ih (fun i hi=>hl i A7) h
  obtain rfl:i=n:=by omega
  rw [F8 A7,hlen]
  simp
theorem W3 (hl:∀i,i<n→(row i).length=es){m:Nat}{x:AV}(h:(Hl n row)[m]? =some x):∃i j c,i<n∧j<es∧m=i * es+j∧(row i)[j]? =some c∧x= .c c:=by
 have hm:m<n * es:=by rw [←O3 hl];exact (Cu.1 h).1
 have he:0<es:=Z2 (fun e=>by subst e;simp at hm);have hi:m / es<n:=Nat.div_lt_of_lt_mul (by rw [Qu];exact hm);have hj:m % es<es:=Ub _ he;have hmm:m / es * es+m % es=m:=by rw [Qu];exact Nat.div_add_mod m es
 rw [←hmm,Yx hl hi hj] at h;rw [E9] at h;obtain ⟨c,hc,rfl⟩:=h;exact ⟨m / es,m % es,c,hi,hj,hmm.symm,hc,rfl⟩
def Sa (b:Nat):Value:= .pointer (some ⟨b,0,none⟩)
def Od (b o n cap:Nat):Value:= .slice (some ⟨b,o,none⟩) n cap
variable {B : Er} {Q : Exit → Act → World → Prop} {K : List KI} {s : AS}
theorem C99 (k:Nat)(hk:Bm s.own k=some (.sl n es row))(hn:0<n)(hf:Fc n row)(h:∀(b off cap:Nat) (pre post:List AV),pre.length=off * es→n≤cap→cap≤maxLen→(cap-n) * es≤post.length→
   GW P B Q K {s with own:=Bb [k] s.own,next:=s.next+1,aw:=⟨s.next,pre++Hl n row++post⟩::s.aw,ak:=(s.next,Sa b)::(k,Od b (off * es) n cap)::s.ak}):GW P B Q K s:=by
 refine ⟨fun E a w hs=>?_⟩;have hm:=Ca hk;obtain ⟨hklt,o2,o3⟩:=hs.own _ hm
 simp only at o2 o3 hklt
 generalize hov:E.ov k=ovk,hfp:E.fp k=fp at o2 o3
 cases o2 with
 |nil=>omega
 |emp=>omega
 |sl _ _ _ b off cap ty cells fps hnc hcp hb hcs hl hr=>
  have hI:=hs.drop [k];have kE:=Fl.with_keep E s.next b;have hbk:s.ag E b:= .inr ⟨_,hm,by rw [hfp];simp⟩
  have nav:¬ ({s with own:=Bb [k] s.own}:AS).ag E b:=by
   rintro (⟨r,hr',he⟩|⟨r,hr',hz'⟩)
   ·exact hs.sepB r hr' _ hm (by rw [he,hfp];simp)
   obtain ⟨q1,q2⟩:=Bl.1 hr';exact hs.sep _ hm r q1 (fun e=>q2 (by simp at e;simp [e])) b (by rw [hfp];simp) hz'
  let s1:AS:= {s with own:=Bb [k] s.own,next:=s.next+1,ak:=(s.next,Sa b)::(k,Od b (off * es) n cap)::s.ak}
  have hA1:s1.isA B (E.with s.next b) (s.ag E) a w:=by
   have mv:∀x v,D0 E w (s.ag E) s.next x v→D0 (E.with s.next b) w (s.ag E) (s.next+1) x v:=fun x v hx=>hx.move (Z5 _) kE (fun _ _ _=>rfl) (fun _ _ h=>h);have kb:∀x∈s.aw,(E.with s.next b).β x.key=E.β x.key:=fun x hx=>(kE _ (hs.aw x hx).1).1
   have av:∀c,s1.ag (E.with s.next b) c→({s with own:=Bb [k] s.own}:AS).ag E c:=by
    rintro c (⟨x,hx,hc⟩|hc)
    ·exact .inl ⟨x,hx,by rw [←kb x hx];exact hc⟩
    exact .inr hc
   refine ⟨hs.defers,fun p hp=>?_,hs.size,fun i x hx=>mv _ _ (hs.ac i x hx),fun x hx=>?_,fun x hx y hy e=>hs.boxes2 x hx y hy (by rw [←kb x hx,←kb y hy];exact e),hs.keys,fun y hy=>?_,hI.ownkeys,hI.sep,fun x hx y hy=>?_,fun j hj=>?_,hs.base,fun c hc=>hI.fresh c (av c hc),fun c hc=>hI.sub c (av c hc)⟩
   ·rcases C7.1 hp with rfl|hp
    ·exact ⟨Ru _,by simp [Fl.with,Sa]⟩
    rcases C7.1 hp with rfl|hp
    ·exact ⟨T4 hklt,by rw [(kE _ hklt).2,hov];rfl⟩
    exact ⟨T4 (hs.ak p hp).1,by rw [(kE _ (hs.ak p hp).1).2];exact (hs.ak p hp).2⟩
   ·obtain ⟨g1,ws,ty',g2,g3,g4⟩:=hs.aw x hx
    exact ⟨T4 g1,ws,ty',by rw [kb x hx];exact g2,g3,fun i y hy=>mv _ _ (g4 i y hy)⟩
   ·obtain ⟨g1,g2,g3⟩:=hI.own y hy
    exact ⟨T4 g1,by rw [(kE _ g1).2];exact g2,g3⟩
   ·rw [kb x hx];exact hI.sepB x hx y hy
   by_cases e:j=s.next
   ·subst e;simp [Fl.with,Value.oneCell']
   have hj':j<s.next:=by have:j<s.next+1:=hj;omega
   rw [(kE _ hj').2];exact hs.one j hj'
  have nav1:¬ s1.ag (E.with s.next b) b:=by
   intro hc;refine nav ?_
   rcases hc with ⟨x,hx,hc⟩|hc
   ·exact .inl ⟨x,hx,by rw [←(kE _ (hs.aw x hx).1).1];exact hc⟩
   exact .inr hc
  let pre:List AV:=List.replicate (off * es) .any
  let post:List AV:=List.replicate (cells.size-(off+n) * es) .any
  have hle:(off+n) * es≤cells.size:=G0 (Kl _ A7) hcs;have hll:=O3 hl
  have hlen:(pre++Hl n row++post).length=cells.size:=by
   simp only [pre,post,Dn,Pl,hll,G1] at hle ⊢;omega
  have hB1:=hA1.addBox (k:=s.next) (Ru _) (fun x hx e=>by have:=(hs.aw x hx).1;omega) (cells:=pre++Hl n row++post) (vs:=cells) (ty:=ty) (by rw [Fl.with_self];exact hb) hlen.symm
   (fun i y hy=>by
    by_cases h1:i<off * es
    ·rw [Ci,F3 (by simpa [pre] using h1)] at hy
     have:y= .any:=by simp [pre,List.getElem?_replicate,h1] at hy;exact hy.symm
     rw [this];exact .any _
    rw [Ci,F8 (by simpa [pre] using Nat.le_of_not_lt h1)] at hy;simp only [pre,Pl] at hy
    by_cases h2:i-off * es<n * es
    ·rw [F3 (by rw [hll];exact h2)] at hy
     obtain ⟨i',j',c,hi',hj',hm',hc,rfl⟩:=W3 hl hy
     have:=hr i' j' c hi' hc
     obtain ⟨x,rfl⟩:=hf i' hi' c (Hr hc);rw [show (off+i') * es+j'=i by rw [G1];omega] at this
     generalize cells.getD i undef=u,fps (i' * es+j')=g at this
     cases this with
     |val _ h1=>exact .c (.val _ h1)
    rw [F8 (by rw [hll];omega)] at hy
    have:y= .any:=by
     have:=Hr hy
     exact Ug this
    rw [this];exact .any _)
   (by rw [Fl.with_self];exact nav1) (by rw [Fl.with_self];exact hbk) (by rw [Fl.with_self];exact hs.fresh b hbk)
  exact (h b off cap pre post (by simp [pre]) hnc hcp (by
   simp only [post,Pl]
   have:(off+cap) * es=(off+n) * es+(cap-n) * es:=by rw [←G1];congr 1;omega
   omega)).out _ a w hB1.is
theorem Qh (i k:Nat){v:Value}(hl:Dv s.ak k=some v)(hi:I4 s.ac i= .own k)(h:GW P B Q K {s with ac:=Cd s.ac i (.c (.val v))}):GW P B Q K s:=by
 refine ⟨fun E a w hs=>h.rec fun g=>g E a w ⟨hs.defers,hs.ak,by rw [hs.size];exact (Bj _ _ _).symm,fun m z hz=>?_,hs.aw,hs.boxes2,hs.keys,hs.own,hs.ownkeys,hs.sep,hs.sepB,hs.one,hs.base,hs.fresh⟩⟩
 simp only at hz
 rw [Cr] at hz
 split at hz
 ·rename_i hm
  obtain ⟨rfl,hm⟩:=hm;obtain rfl:=Bv hz;have hd:=hs.ac i (.own k) (by rw [Cb,Dh hm] at hi;rw [Dh hm];simpa using hi);obtain ⟨h1,h2⟩:=hs.ak _ (Gr hl);have h2:E.ov k=v:=h2;have h1':k<s.next:=h1;generalize a.tmps.getD i undef=u at hd
  cases hd with
  |own _=>rw [h2];exact .c (.val _ (by rw [←h2];exact hs.one k h1'))
 exact hs.ac m z hz
variable {bx : Bx} {b : Nat} {cap : Nat}
theorem D2j (i kb:Nat){off:Nat}(row:Nat→List Ad)(pre post:List AV)(hb:Fq s.aw kb=some bx)(hc:bx.cells=pre++Hl n row++post)(hpre:pre.length=off * es)(hrow:∀i,i<n→(row i).length=es)(hf:Fc n row)(hn:n≤cap)(hcap:cap≤maxLen)(hpost:(cap-n) * es≤post.length)(hl:Dv s.ak kb=some (Sa b))(hi:I4 s.ac i= .c (.val (Od b (off * es) n cap)))(h:GW P B Q K {s with aw:=Vz kb s.aw,own:=⟨s.next,.sl n es row⟩::s.own,next:=s.next+1,ac:=Cd s.ac i (.own s.next)}):GW P B Q K s:=by
 refine ⟨fun E a w hs=>?_⟩;obtain ⟨hm,rfl⟩:=F9 hb;obtain ⟨h1,vs,ty,h2,h3,h4⟩:=hs.aw bx hm;obtain ⟨hlk,hov⟩:=hs.ak _ (Gr hl);have hov:E.ov bx.key=Sa b:=hov;have hβ:E.β bx.key=b:=by unfold Fl.β;rw [hov];rfl
 rw [hβ] at h2;have hI:=hs.dropP bx.key [];have hrem:Bb [] s.own=s.own:=X6 _;have hav:s.ag E b:= .inl ⟨bx,hm,hβ⟩
 have nav:¬ (Sx.dropP bx.key [] s).ag E b:=by
  rintro (⟨x,hx,hc'⟩|⟨y,hy,hc'⟩)
  ·obtain ⟨q1,q2⟩:=N8.1 hx
   exact q2 (hs.boxes2 x q1 bx hm (by rw [hβ];exact hc'))
  exact hs.sepB bx hm y (Bl.1 hy).1 (by rw [hβ];exact hc')
 have hll:=O3 hrow
 have hsz:(off+cap) * es≤vs.size:=by
  rw [h3,hc];simp only [Dn,hpre,hll,G1]
  have:(cap-n) * es+n * es=cap * es:=by rw [←G1];congr 1;omega
  omega
 have hown:Bz w (.sl n es row) (Od b (off * es) n cap) (b::(List.range (n * es)).flatMap fun _=>[]):=by
  refine .sl n es row b off cap ty vs (fun _=>[]) hn hcap h2 hsz hrow (fun i j c hi hj=>?_);have hjl:j<es:=by rw [←hrow i hi];exact (Cu.1 hj).1
  have:=h4 ((off+i) * es+j) (.c c) (by
   rw [hc,Ci,F8 (by rw [hpre,G1];omega),hpre,show (off+i) * es+j-off * es=i * es+j by rw [G1];omega,F3 (by rw [hll];exact Gs hi hjl),Yx hrow hi hjl,hj]
   rfl)
  obtain ⟨x,rfl⟩:=hf i hi c (Hr hj);generalize vs.getD ((off+i) * es+j) undef=u at this
  cases this with
  |c hr=>cases hr with
   |val _ h1=>exact .val _ h1
 have hfl:(List.range (n * es)).flatMap (fun _=>([]:List Nat))=[]:=L5 _;rw [hfl] at hown
 obtain ⟨k1,k2⟩:=hI.addOwn hown Ef (fun z hz=>by
  rw [Hh.1 hz]
  exact ⟨hav,nav,hs.fresh b hav⟩)
 have hs3:({s with aw:=Vz bx.key s.aw,own:=⟨s.next,.sl n es row⟩::s.own,next:=s.next+1}:AS)=(Sx.dropP bx.key [] s).addOwn (.sl n es row):=by simp [AS.addOwn,Sx.dropP,hrem]
 have k3:({s with aw:=Vz bx.key s.aw,own:=⟨s.next,.sl n es row⟩::s.own,next:=s.next+1}:AS).is B (E.withOwn s.next (Od b (off * es) n cap) [b]) a w:=by rw [hs3];exact k1.is
 have hsub:∀z,({s with aw:=Vz bx.key s.aw,own:=⟨s.next,.sl n es row⟩::s.own,next:=s.next+1}:AS).ag (E.withOwn s.next (Od b (off * es) n cap) [b]) z→s.ag E z:=by rw [hs3];exact k1.sub
 refine h.out (E.withOwn s.next (Od b (off * es) n cap) [b]) a w ⟨k3.defers,k3.ak,by rw [k3.size];exact (Bj _ _ _).symm,fun m z hz=>?_,k3.aw,k3.boxes2,k3.keys,k3.own,k3.ownkeys,k3.sep,k3.sepB,k3.one,k3.base,k3.fresh⟩
 simp only at hz
 rw [Cr] at hz
 split at hz
 ·rename_i hm2
  obtain ⟨rfl,hm2⟩:=hm2;obtain rfl:=Bv hz;have hd:=hs.ac i (.c (.val (Od b (off * es) n cap))) (by rw [Cb,Dh hm2] at hi;rw [Dh hm2];simpa using hi);rw [B3 hd]
  have:D0 (E.withOwn s.next (Od b (off * es) n cap) [b]) w _ _ (.own s.next) (Od b (off * es) n cap):=k2
  exact this.move (Bu _) (fun _ _=>⟨rfl,rfl⟩) (fun _ _ _=>rfl) (fun b _ hb=>hsub b hb)
 exact k3.ac m z hz
variable {q : Bool} {all : Array Oper} {o : Oper} {rest : List Oper} {t : TypeId} {e : TypeId} {x : Operand} {lo : Option Operand} {i : TI} {j : TI}
theorem Lj (hT:C0 P T){hi:Option Operand}{ad:Nat}{l h:Int}(hh:(o.guard,o.op,find T t,i.elem,find T e,s.ev x,bnd s lo 0,bnd s hi n)=(none,.slice t x lo hi none,some i,some e,some j,.c (.val (Od b ad n cap)),some l,some h))(hb:0≤l∧l≤h∧h≤cap∧(hi=none→h≤n)∧l<cap)(ad' n' c':Nat)(q1:ad'=ad+l.toNat * j.size)(q2:n'=h.toNat-l.toNat)(q3:c'=cap-l.toNat)(hgo:GW P B Q (.ops q all rest::K) (s.put o.dst (.c (.val (Od b ad' n' c'))))):GW P B Q (.ops q all (o::rest)::K) s:=by
 simp only [Jh] at hh;obtain ⟨hg,ho,hi',he,hj,hx,hl,hh⟩:=hh;subst q1 q2 q3;refine ⟨Eb hg (fun E a w hs=>?_)⟩;have hd:=hs.ev x;rw [hx] at hd;have hv:=B3 hd;have h1:=L3 hs hl;have h2:=L3 hs hh;have hu:=C1 (hT t i hi') he;have hel:P.elem t=e:=by simp [Program.elem,hu]
 have hu':P.underlying t=some (.slice (P.elem t)):=by rw [hel];exact hu
 have hz:∀w,(sizeOf (P.elem t)).run P w= .ok j.size w:=fun w=>by rw [hel];exact B9 (hT e j hj) w
 have hval:sliced (some ⟨b,ad,none⟩) l.toNat h.toNat cap j.size=Od b (ad+l.toNat * j.size) (h.toNat-l.toNat) (cap-l.toNat):=by
  unfold sliced Od;rw [Ab A7];simp only [Qv,Iz]
 refine ⟨_,fun w' _=>?_,hgo.out E _ w (hs.put o.dst (.c (.val _ rfl)))⟩
 have hrun:(Instr.sliceAt t (Od b ad n cap) (lo.map a.eval) (hi.map a.eval) none).run P w'= .ok (Od b (ad+l.toNat * j.size) (h.toNat-l.toNat) (cap-l.toNat)) w':=by
  rw [←hval,run_sliceAt_slice w' t _ _ _ _ hu'];unfold Od
  rcases h1 with ⟨e1,rfl⟩|⟨k1,e1⟩<;>rcases h2 with ⟨e2,rfl⟩|⟨k2,e2⟩<;>rw [e1,e2]
  ·rw [run_slice_all w' t _ n cap hu',hz];simp [Result.andThen]
  ·rw [run_slice_h w' t _ n cap hu' k2 h A7 A7,hz];simp [Result.andThen]
  ·rw [run_slice_l w' t _ n cap hu' k1 l A7 A7,hz];simp [Result.andThen]
  rw [run_slice_lh w' t _ n cap hu' k1 k2 l h A7 A7 A7,hz];simp [Result.andThen]
 obtain ⟨dst,op',ty,pos,after,guard⟩:=o
 simp only at ho
 subst ho
 simp [execOp,hv,hrun]
variable {k : Nat}
theorem C60 (hT:C0 P T)(hg:o.guard=none)(ho:o.op= .slice t x lo none none)(hi':find T t=some i)(he:i.elem=some e)(hj:find T e=some j)(hx:s.ev x= .own k)(hk:Bm s.own k=some (.sl n es row)){l:Int}(hl:bnd s lo 0=some l)(hb:0≤l∧l≤n)(hgo:GW P B Q (.ops q all rest::K) (s.put o.dst .any)):GW P B Q (.ops q all (o::rest)::K) s:=by
 refine ⟨Eb hg (fun E a w hs=>?_)⟩;have hd:=hs.ev x;rw [hx] at hd
 have hv:a.eval x=E.ov k:=by
  generalize a.eval x=v at hd
  cases hd with
  |own _=>rfl
 have h1:=L3 hs hl;obtain ⟨_,o2,_⟩:=hs.own _ (Ca hk)
 have hsh:∃ad cap,E.ov k= .slice ad n cap∧n≤cap:=by
  simp only at o2
  generalize E.ov k=u,E.fp k=fp at o2
  cases o2 with
  |nil=>exact ⟨none,0,rfl,Bu _⟩
  |emp=>exact ⟨_,0,rfl,Bu _⟩
  |sl _ _ _ b off cap ty cells fps hn=>exact ⟨_,cap,rfl,hn⟩
 obtain ⟨ad,cap,hov,hcap⟩:=hsh;refine ⟨sliced ad l.toNat ((n:Int)).toNat cap j.size,fun w' _=>?_,hgo.out E _ w (hs.put o.dst (.any _))⟩;have hrun:=B2u (a:=ad) (h:=n) (hT t i hi') he (hT e j hj) h1 (.inl ⟨rfl,rfl⟩) hb.1 hb.2 (T8 _) hcap w';obtain ⟨dst,op',ty,pos,after,guard⟩:=o
 simp only at ho
 subst ho
 simp [execOp,hv,hov,hrun]
variable {w : World} {kb : Nat}
theorem B2p {E:Fl}{a:Act}(hs:s.is B E a w)(hl:Dv s.ak kb=some (Sa b))(hb:Fq s.aw kb=some bx)(L1 D L2 S:List AV)(hc:bx.cells=L1++D++L2)(hD:D.length=S.length)(vals:List Value)(hv:vals.length=S.length)(hden:∀i y,S[i]? =some y→D0 E w (s.ag E) s.next y (vals.getD i undef)):
  ∃ty vs,w.heap[b]? =some (.cells vs ty (0,0))∧L1.length+vals.length≤vs.size∧
   ({s with aw:=Fe s.aw kb (L1++S++L2)}:AS).is B E a (w.setRow b (vs.toList.take L1.length++vals++vs.toList.drop (L1.length+vals.length)).toArray):=by
 obtain ⟨hm,rfl⟩:=F9 hb;obtain ⟨h1,vs,ty,h2,h3,h4⟩:=hs.aw bx hm;obtain ⟨hlk,hov⟩:=hs.ak _ (Gr hl);have hov:E.ov bx.key=Sa b:=hov;have hβ:E.β bx.key=b:=by unfold Fl.β;rw [hov];rfl
 rw [hc] at h3 h4;simp only [Dn] at h3;refine ⟨ty,vs,by rw [←hβ];exact h2,by omega,?_⟩
 have:=hs.setBox hb (L1++S++L2) (vs.toList.take L1.length++vals++vs.toList.drop (L1.length+vals.length)).toArray P4 (fun j y hj=>by
  rw [←Bn];simp only [List.getD];have e1:(vs.toList.take L1.length).length=L1.length:=by simp;omega
  by_cases c1:j<L1.length
  ·rw [Ci,F3 c1] at hj
   rw [Ci,F3 A7]
   have:=h4 j y (by rw [Ci,F3 c1];exact hj)
   rw [←Bn] at this
   simpa [List.getD,Wn,c1] using this
  rw [Ci,F8 A7] at hj;rw [Ci,F8 A7,e1]
  by_cases c2:j-L1.length<S.length
  ·rw [F3 c2] at hj
   rw [F3 A7]
   have:=hden _ y hj
   simpa [List.getD] using this
  rw [F8 A7] at hj;rw [F8 A7,T7,hv]
  have:=h4 j y (by rw [Ci,F8 A7,F8 A7,hD];exact hj)
  rw [←Bn] at this;rw [show L1.length+S.length+(j-L1.length-S.length)=j by omega]
  simpa [List.getD] using this)
 rw [hβ] at this;exact this
theorem B7g {E:Fl}{a:Act}(hs:s.is B E a w)(hl:Dv s.ak kb=some (Sa b))(hb:Fq s.aw kb=some bx)(M1 S M2:List AV)(hc:bx.cells=M1++S++M2)(hS:∀y∈S,∃c,y= .c c):
  ∃vals:List Value,vals.length=S.length∧(∀i y,S[i]? =some y→D0 E w (s.ag E) s.next y (vals.getD i undef))∧(∀j v,vals[j]? =some v→w.cell? ((⟨b,M1.length,none⟩:Addr).add j)=some v)∧∀v∈vals,v.oneCell'=true:=by
 obtain ⟨hm,rfl⟩:=F9 hb;obtain ⟨h1,vs,ty,h2,h3,h4⟩:=hs.aw bx hm;obtain ⟨hlk,hov⟩:=hs.ak _ (Gr hl);have hov:E.ov bx.key=Sa b:=hov;have hβ:E.β bx.key=b:=by unfold Fl.β;rw [hov];rfl
 rw [hβ] at h2;rw [hc] at h3 h4;simp only [Dn] at h3
 have hD:∀i y,S[i]? =some y→D0 E w (s.ag E) s.next y (vs.getD (M1.length+i) undef):=fun i y hy=>by
  have hi:i<S.length:=(Cu.1 hy).1;refine h4 (M1.length+i) y ?_;rw [Ci,F8 A7,show M1.length+i-M1.length=i by omega,F3 hi]
  exact hy
 refine ⟨(List.range S.length).map fun i=>vs.getD (M1.length+i) undef,by simp,fun i y hy=>?_,fun j v hj=>?_,fun v hv=>?_⟩
 ·have hi:i<S.length:=(Cu.1 hy).1
  have:=hD i y hy
  simpa [List.getD,hi] using this
 ·rw [Iz,cell_of_row w b _ vs ty (0,0) h2]
  simp only [Ec,E9] at hj;obtain ⟨i,hi,rfl⟩:=hj;obtain ⟨hij,rfl⟩:=Cu.1 hi;simp only [Wc] at hij;simp only [Ui]
  have:M1.length+j<vs.size:=by omega
  simp [Array.getD,this]
 simp only [Ea,Fk] at hv;obtain ⟨i,hi,rfl⟩:=hv;have hy:=Dh hi
 have:=hD i _ hy
 obtain ⟨c,hc'⟩:=hS _ (A72 hi);rw [hc'] at this;generalize vs.getD (M1.length+i) undef=u at this
 cases this with
 |c hr=>exact hr.one
variable {t' : TypeId} {y : Operand} {o1 : Nat} {n1 : Nat} {c1 : Nat}
theorem C4n (hT:C0 P T)(hg:o.guard=none)(ho:o.op= .call {callee:= .builtin .copy,args:= #[x,y],argTypes:= #[t,t']})(hi:find T t=some i)(he:i.elem=some e)(hj:find T e=some j)(hx:s.ev x= .c (.val (Od b o1 n1 c1)))(hl:Dv s.ak kb=some (Sa b))(hb:Fq s.aw kb=some bx){b2 o2 n2 c2 kb2:Nat}{bx2:Bx}(hy:s.ev y= .c (.val (Od b2 o2 n2 c2)))(hl2:Dv s.ak kb2=some (Sa b2))(hb2:Fq s.aw kb2=some bx2)(L1 D L2 M1 S M2:List AV)(hc:bx.cells=L1++D++L2)(h1:L1.length=o1)(hD:D.length=S.length)(hc2:bx2.cells=M1++S++M2)(h2:M1.length=o2)(hS:S.length=Nat.min n2 n1 * j.size)(hSc:∀y∈S,∃c,y= .c c)(h:GW P B Q (.ops q all rest::K) (({s with aw:=Fe s.aw kb (L1++S++L2)}:AS).put o.dst .any)):GW P B Q (.ops q all (o::rest)::K) s:=by
 refine ⟨Ia hg (by rw [ho];simp [Di]) (fun E a w hs=>?_)⟩;have e1:=B3 (show D0 E w (s.ag E) s.next (.v (Od b o1 n1 c1)) (a.eval x) by have:=hs.ev x;rwa [hx] at this)
 have e2:=B3 (show D0 E w (s.ag E) s.next (.v (Od b2 o2 n2 c2)) (a.eval y) by have:=hs.ev y;rwa [hy] at this)
 obtain ⟨vals,g1,g2,g3,g4⟩:=B7g hs hl2 hb2 M1 S M2 hc2 hSc;obtain ⟨ty,vs,k1,k2,k3⟩:=B2p hs hl hb L1 D L2 S hc hD vals g1 g2;have hu:=C1 (hT t i hi) he;have hld:=run_loadCells_list (P:=P) w ⟨b2,M1.length,none⟩ vals g3;have hst:=run_storeCells_at P b L1.length ty vals 0 vs w k1 A7 g4;simp only [T3] at hst;refine ⟨goInt (Nat.min n2 n1),_,.inl ?_,fun hk=>(by rw [ho] at hk;simp [Di] at hk),h.out E _ _ (k3.put o.dst (.any _))⟩;obtain ⟨dst,op',ty',pos,after,guard⟩:=o
 simp only at ho
 subst ho;rw [g1,hS] at hld;subst h1;subst h2
 simp [execOp,resolve,invoke,builtin,e1,e2,Od,Builtin.copy_,run_underlying hu,B9 (hT e j hj),Builtin.lenOf,Builtin.firstCells,hld,hst]
theorem C8p {E:Fl}{a:Act}(hs:s.is B E a w)(hk:Bm s.own k=some (.sl n es row))(hf:Fc n row)(hn:0<n):
  ∃(b o cap:Nat) (vals:List Value),E.ov k=Od b o n cap∧vals.length=n * es∧(∀i y,(Hl n row)[i]? =some y→D0 E w (s.ag E) s.next y (vals.getD i undef))∧(∀j v,vals[j]? =some v→w.cell? ((⟨b,o,none⟩:Addr).add j)=some v)∧(∀v∈vals,v.oneCell'=true)∧(Hl n row).length=n * es:=by
 obtain ⟨_,o2,_⟩:=hs.own _ (Ca hk)
 simp only at o2
 generalize E.ov k=u,E.fp k=fp at o2
 cases o2 with
 |nil=>omega
 |emp=>omega
 |sl _ _ _ b off cap ty cells fps hnc hcp hb hcs hl hr=>
  have hll:=O3 hl;have hle:(off+n) * es≤cells.size:=G0 (Kl _ A7) hcs
  have hD:∀i y,(Hl n row)[i]? =some y→D0 E w (s.ag E) s.next y (cells.getD (off * es+i) undef)∧(cells.getD (off * es+i) undef).oneCell'=true:=fun i y hy=>by
   obtain ⟨i',j',c,hi',hj',rfl,hc,rfl⟩:=W3 hl hy
   have:=hr i' j' c hi' hc
   obtain ⟨x,rfl⟩:=hf i' hi' c (Hr hc);rw [show (off+i') * es+j'=off * es+(i' * es+j') by rw [G1];omega] at this
   generalize cells.getD (off * es+(i' * es+j')) undef=u,fps (i' * es+j')=g at this
   cases this with
   |val _ h1=>exact ⟨.c (.val _ h1),h1⟩
  refine ⟨b,off * es,cap,(List.range (n * es)).map fun i=>cells.getD (off * es+i) undef,rfl,by simp,fun i y hy=>?_,fun j v hj=>?_,fun v hv=>?_,hll⟩
  ·have hi:i<n * es:=by rw [←hll];exact (Cu.1 hy).1
   have:=(hD i y hy).1
   simpa [List.getD,hi] using this
  ·rw [Iz,cell_of_row w b _ cells ty (0,0) hb]
   simp only [Ec,E9] at hj;obtain ⟨i,hi,rfl⟩:=hj;obtain ⟨hij,rfl⟩:=Cu.1 hi;simp only [Wc] at hij;simp only [Ui]
   have:off * es+j<cells.size:=by rw [G1] at hle;omega
   simp [Array.getD,this]
  simp only [Ea,Fk] at hv;obtain ⟨i,hi,rfl⟩:=hv;exact (hD i _ (Dh (by rw [hll];exact hi))).2
theorem C4m (hT:C0 P T)(hg:o.guard=none)(ho:o.op= .call {callee:= .builtin .copy,args:= #[x,y],argTypes:= #[t,t']})(hi:find T t=some i)(he:i.elem=some e)(hj:find T e=some j)(hx:s.ev x= .c (.val (Od b o1 n1 c1)))(hl:Dv s.ak kb=some (Sa b))(hb:Fq s.aw kb=some bx)(hy:s.ev y= .own k)(hk:Bm s.own k=some (.sl n es row))(hf:Fc n row)(hn:0<n)(hes:es=j.size)(hle:n≤n1)(L1 D L2:List AV)(hc:bx.cells=L1++D++L2)(h1:L1.length=o1)(hD:D.length=n * es)(h:GW P B Q (.ops q all rest::K) (({s with aw:=Fe s.aw kb (L1++Hl n row++L2)}:AS).put o.dst .any)):GW P B Q (.ops q all (o::rest)::K) s:=by
 refine ⟨Ia hg (by rw [ho];simp [Di]) (fun E a w hs=>?_)⟩;have e1:=B3 (show D0 E w (s.ag E) s.next (.v (Od b o1 n1 c1)) (a.eval x) by have:=hs.ev x;rwa [hx] at this)
 have e2:a.eval y=E.ov k:=by
  have:=hs.ev y
  rw [hy] at this;generalize a.eval y=v at this
  cases this with
  |own _=>rfl
 obtain ⟨b2,o2,c2,vals,g0,g1,g2,g3,g4,g5⟩:=C8p hs hk hf hn;obtain ⟨ty,vs,k1,k2,k3⟩:=B2p hs hl hb L1 D L2 (Hl n row) hc (by rw [hD,g5]) vals (by rw [g1,g5]) g2;have hu:=C1 (hT t i hi) he;have hld:=run_loadCells_list (P:=P) w ⟨b2,o2,none⟩ vals g3;have hst:=run_storeCells_at P b L1.length ty vals 0 vs w k1 A7 g4;simp only [T3] at hst;refine ⟨goInt n,_,.inl ?_,fun hk=>(by rw [ho] at hk;simp [Di] at hk),h.out E _ _ (k3.put o.dst (.any _))⟩;obtain ⟨dst,op',ty',pos,after,guard⟩:=o
 simp only at ho
 subst ho;have hmin:Nat.min n n1=n:=Nat.min_eq_left hle;rw [g1,hes] at hld;subst h1;rw [g0] at e2
 simp [execOp,resolve,invoke,builtin,e1,e2,Od,Builtin.copy_,run_underlying hu,B9 (hT e j hj),Builtin.lenOf,Builtin.firstCells,hmin,hld,hst]
theorem D0e (hT:C0 P T){e2:TypeId}{i2:TI}(hg:o.guard=none)(ho:o.op= .call {callee:= .builtin .append,args:= #[x,y],argTypes:= #[t,t']})(hi:find T t=some i)(he:i.elem=some e)(hj:find T e=some j)(hi2:find T t'=some i2)(he2:i2.elem=some e2)(hx:s.ev x= .c (.val (Od b o1 n1 c1)))(hl:Dv s.ak kb=some (Sa b))(hb:Fq s.aw kb=some bx){b2 o2 n2 c2 kb2:Nat}{bx2:Bx}(hy:s.ev y= .c (.val (Od b2 o2 n2 c2)))(hl2:Dv s.ak kb2=some (Sa b2))(hb2:Fq s.aw kb2=some bx2)(hroom:n1+n2≤c1)(L1 D L2 M1 S M2:List AV)(hc:bx.cells=L1++D++L2)(h1:L1.length=o1+n1 * j.size)(hD:D.length=S.length)(hc2:bx2.cells=M1++S++M2)(h2:M1.length=o2)(hS:S.length=n2 * j.size)(hSc:∀y∈S,∃c,y= .c c)(h:GW P B Q (.ops q all rest::K) (({s with aw:=Fe s.aw kb (L1++S++L2)}:AS).put o.dst (.c (.val (Od b o1 (n1+n2) c1))))):GW P B Q (.ops q all (o::rest)::K) s:=by
 refine ⟨Ia hg (by rw [ho];simp [Di]) (fun E a w hs=>?_)⟩;have e1:=B3 (show D0 E w (s.ag E) s.next (.v (Od b o1 n1 c1)) (a.eval x) by have:=hs.ev x;rwa [hx] at this)
 have e2':=B3 (show D0 E w (s.ag E) s.next (.v (Od b2 o2 n2 c2)) (a.eval y) by have:=hs.ev y;rwa [hy] at this)
 obtain ⟨vals,g1,g2,g3,g4⟩:=B7g hs hl2 hb2 M1 S M2 hc2 hSc;obtain ⟨ty,vs,k1,k2,k3⟩:=B2p hs hl hb L1 D L2 S hc hD vals g1 g2;have hu:=C1 (hT t i hi) he;have hu2:=C1 (hT t' i2 hi2) he2;have hld:=run_loadCells_list (P:=P) w ⟨b2,M1.length,none⟩ vals g3;have hst:=run_storeCells_at P b L1.length ty vals 0 vs w k1 A7 g4;simp only [T3] at hst;refine ⟨Od b o1 (n1+n2) c1,_,.inl ?_,fun hk=>(by rw [ho] at hk;simp [Di] at hk),h.out E _ _ (k3.put o.dst (.c (.val _ rfl)))⟩;obtain ⟨dst,op',ty',pos,after,guard⟩:=o
 simp only at ho
 subst ho;rw [g1,hS] at hld;subst h2;rw [h1] at hst ⊢
 simp [execOp,resolve,invoke,builtin,e1,e2',Od,Builtin.append_,run_underlying hu,run_underlying hu2,B9 (hT e j hj),Builtin.lenOf,Builtin.firstCells,hroom,hld,Iz,hst]
theorem B64 (hT:C0 P T)(hg:o.guard=none)(ho:o.op= .call {callee:= .builtin .clear,args:= #[x],argTypes:= #[t]})(hi:find T t=some i)(he:i.elem=some e)(hj:find T e=some j)(hx:s.ev x= .c (.val (Od b o1 n1 c1)))(hl:Dv s.ak kb=some (Sa b))(hb:Fq s.aw kb=some bx)(hn:0<n1)(L1 D L2:List AV)(hc:bx.cells=L1++D++L2)(h1:L1.length=o1)(hD:D.length=n1 * j.size)(h:GW P B Q (.ops q all rest::K) (({s with aw:=Fe s.aw kb (L1++List.replicate (n1 * j.size) .any++L2)}:AS).put o.dst .any)):GW P B Q (.ops q all (o::rest)::K) s:=by
 refine ⟨Ia hg (by rw [ho];simp [Di]) (fun E a w hs=>?_)⟩;have e1:=B3 (show D0 E w (s.ag E) s.next (.v (Od b o1 n1 c1)) (a.eval x) by have:=hs.ev x;rwa [hx] at this)
 have hu:=C1 (hT t i hi) he;obtain ⟨z,hz,hzr⟩:=W4 (hT e j hj);obtain ⟨f,d,z',SP⟩:=TI.of_spec (hT e j hj);have hzs:z.cells.size=j.size:=by have:=SP.zlen;rw [←hz] at this;simpa using this
 have hzl:(Builtin.zeroCells z.cells n1).size=n1 * j.size:=by rw [Nd,hzs]
 have hz1:∀v∈(Builtin.zeroCells z.cells n1).toList,v.oneCell'=true:=fun v hv=>by
  simp only [Builtin.zeroCells,A74,Ea,Array.toList_range,Fk] at hv;obtain ⟨m,hm,rfl⟩:=hv;have hpos:0<z.cells.size:=Z2 (fun h0=>by rw [h0] at hm;simp at hm);have hlt:=Ub m hpos;rw [getElem!_pos z.cells _ hlt];exact K7 SP.zone _ (by rw [←hz];exact Array.getElem_mem_toList hlt)
 obtain ⟨ty,vs,k1,k2,k3⟩:=B2p hs hl hb L1 D L2 (List.replicate (n1 * j.size) .any) hc (by rw [hD];simp) (Builtin.zeroCells z.cells n1).toList (by simp [hzl]) (fun i y hy=>by
  rw [Ug (Hr hy)];exact .any _)
 have hst:=run_storeCells_at P b L1.length ty (Builtin.zeroCells z.cells n1).toList 0 vs w k1 A7 hz1;simp only [T3] at hst;refine ⟨.tuple #[],_,.inl ?_,fun hk=>(by rw [ho] at hk;simp [Di] at hk),h.out E _ _ (k3.put o.dst (.any _))⟩;obtain ⟨dst,op',ty',pos,after,guard⟩:=o
 simp only at ho
 subst ho;subst h1;obtain ⟨m,rfl⟩:∃m,n1=m+1:=⟨n1-1,by omega⟩
 simp [execOp,resolve,invoke,builtin,e1,Od,Builtin.clear_,run_underlying hu,hzr,hst]
theorem D2z (hT:C0 P T)(hg:o.guard=none)(ho:o.op= .call {callee:= .builtin .cap,args:= #[x],argTypes:= #[t]})(hi:find T t=some i)(he:i.elem=some e)(hx:s.ev x= .c (.val (Od b o1 n1 c1)))(h:GW P B Q (.ops q all rest::K) (s.put o.dst (.c (.val (.int .i64 (c1:Int)))))):GW P B Q (.ops q all (o::rest)::K) s:=by
 refine ⟨Eb hg (fun E a w hs=>?_)⟩;have e1:=B3 (show D0 E w (s.ag E) s.next (.v (Od b o1 n1 c1)) (a.eval x) by have:=hs.ev x;rwa [hx] at this)
 have hu:=C1 (hT t i hi) he;refine ⟨.int .i64 c1,fun w' _=>?_,h.out E _ w (hs.put o.dst (.c (.val _ rfl)))⟩;obtain ⟨dst,op',ty',pos,after,guard⟩:=o
 simp only at ho
 subst ho
 simp [execOp,resolve,invoke,builtin,e1,Od,Builtin.cap_,run_underlying hu,goInt]
theorem D2x (hT:C0 P T){tn:TypeId}{jn:TI}{kn kq:IntKind}(hg:o.guard=none)(ho:o.op= .call {callee:= .builtin .append,args:= #[x,y],argTypes:= #[t,tn]})(hi:find T t=some i)(he:i.elem=some e)(hj:find T e=some j)(hn:find T tn=some jn)(hag:jn.agg=false)(hfl:jn.flat=some [.int kn])(hx:s.ev x= .c (.val (Od b o1 n1 c1)))(hl:Dv s.ak kb=some (Sa b))(hb:Fq s.aw kb=some bx)(hy:s.ev y= .c (.val (.int kq (k:Int))))(M1 M2:List AV)(hc:bx.cells=M1++Hl n1 row++M2)(h1:M1.length=o1)(hes:es=j.size)(hpos:0<es)(hrow:∀i,i<n1→(row i).length=es)(hf:Fc n1 row)(hk:0<k)(hgrow:c1<n1+k)(hlen:n1+k≤549755813888)(hby:Nat.ble j.bytes 256=true)(row':Nat→List Ad)(r1:∀i,i<n1→row' i=row i)(r2:∀i,n1≤i→i<n1+k→row' i=j.zero.map Ad.val)(h:GW P B Q (.ops q all rest::K) (({s with own:=⟨s.next,.sl (n1+k) es row'⟩::s.own,next:=s.next+1}:AS).put o.dst (.own s.next))):GW P B Q (.ops q all (o::rest)::K) s:=by
 subst hes;have hby:=Cz hby;refine ⟨Ia hg (by rw [ho];simp [Di]) (fun E a w hs=>?_)⟩;have e1:=B3 (show D0 E w (s.ag E) s.next (.v (Od b o1 n1 c1)) (a.eval x) by have:=hs.ev x;rwa [hx] at this)
 have e2:=B3 (show D0 E w (s.ag E) s.next (.v (.int kq (k:Int))) (a.eval y) by have:=hs.ev y;rwa [hy] at this)
 have hll:=O3 hrow
 obtain ⟨vals,g1,g2,g3,g4⟩:=B7g hs hl hb M1 (Hl n1 row) M2 hc (fun y hy=>by
  obtain ⟨m,hm,rfl⟩:=Po hy;obtain ⟨_,_,c,_,_,_,_,hc'⟩:=W3 hrow (Dh hm)
  exact ⟨c,hc'⟩)
 have hu:=C1 (hT t i hi) he;obtain ⟨f,d,z,S⟩:=TI.of_spec (hT e j hj);have hzs:z.cells.size=j.size:=by have:=S.zlen;rw [←S.cells] at this;simpa using this
 have hun:=A5e hT hn hag hfl;have hcd:∀ad,w.drew.cell? ad=w.cell? ad:=fun ad=>rfl
 have hld:=run_loadCells_list (P:=P) w.drew ⟨b,M1.length,none⟩ vals (fun m v hm=>by rw [hcd];exact g3 m v hm);rw [g1,hll,h1] at hld;have hbytes:(n1+k) * j.bytes≤140737488355328:=G0 (Wd hlen hby) Bk;have hmax:n1+k≤maxLen:=by simp only [maxLen];omega
 have hrun:=Go.Lib.run_append_grow_zeros (P:=P) w t tn o.type e f z kq kn hu hun S.hf S.hz (some ⟨b,o1,none⟩) n1 c1 vals (by rw [S.size];simpa [Builtin.firstCells] using hld) k hk (by rw [S.size];exact hpos) hgrow A7
  (by rw [S.bytes];exact G0 (Wd (show k≤n1+k by omega) (Bu _)) (G0 hbytes Bk)) (by rw [S.bytes];exact growslice_fits hgrow hbytes)
 have hge:=grownCap_ge w (n1+k) c1 e;have hcm:=grownCap_le_maxLen w (n1+k) c1 e hmax;generalize grownCap w (n1+k) c1 e=cap at *
 let cells:=vals.toArray++Builtin.zeroCells z.cells k++Builtin.zeroCells z.cells (cap-(n1+k))
 let w':=w.drew.alloc (.cells cells e)
 have hbel:Below w.heap.size w w':=by
  have hb0:=Jc w.drew (.cells cells e);exact ⟨hb0.os,hb0.tape,hb0.output,hb0.size,hb0.block⟩
 have hsz:cells.size=cap * j.size:=by
  simp only [cells,Array.size_append,Gh,Nd,hzs,g1,hll,←G1]
  congr 1
  omega
 have hnew:w'.heap[w.heap.size]? =some (.cells cells e (0,0)):=heap_alloc_new w.drew _;have hzl:(Builtin.zeroCells z.cells k).size=k * j.size:=by rw [Nd,hzs]
 have hget:∀m,m<(n1+k) * j.size→cells.getD m undef=if m<n1 * j.size then vals.getD m undef else j.zero.getD (m % j.size) undef:=by
  intro m hm;have hm2:m<cells.size:=by rw [hsz];exact Kk hm (Kl _ hge)
  rw [←Bn];simp only [cells,A2e,List.getD];rw [Ci]
  split
  ·rename_i hlt
   rw [F3 (by rw [g1,hll];exact hlt)]
  rename_i hlt
  rw [F8 (by rw [g1,hll];omega),g1,hll];have hin:m-n1 * j.size<k * j.size:=by rw [G1] at hm;omega
  rw [F3 (by rw [Nr,hzl];exact hin)]
  have hmod:(m-n1 * j.size) % j.size=m % j.size:=by
   have:=Nat.sub_mul_mod (x:=m) (n:=j.size) (k:=n1) (by rw [Qu];omega)
   rwa [Qu j.size n1] at this
  have hlt2:m % j.size<z.cells.size:=by rw [hzs];exact Ub _ hpos
  simp only [Builtin.zeroCells,hzs,A74,Array.toList_range,Ec,A75 hin,Qv,Uc,hmod];rw [getElem!_pos z.cells _ hlt2,←S.cells]
  simp [List.getD,hlt2]
 have hown:Bz w' (.sl (n1+k) j.size row') (.slice (some ⟨w.heap.size,0 * j.size,none⟩) (n1+k) cap) (w.heap.size::(List.range ((n1+k) * j.size)).flatMap fun _=>[]):=by
  refine .sl (n1+k) j.size row' w.heap.size 0 cap e cells (fun _=>[]) hge hcm hnew (by rw [hsz];simp) (fun m hm=>?_) (fun m p c hm hp=>?_)
  ·by_cases h0:m<n1
   ·rw [r1 m h0];exact hrow m h0
   rw [r2 m A7 hm,Oy,S.zlen]
  simp only [Rw]
  by_cases h0:m<n1
  ·rw [r1 m h0] at hp
   have hpl:p<j.size:=by rw [←hrow m h0];exact (Cu.1 hp).1
   have hlt:=Gs h0 hpl;rw [hget _ (by rw [G1];omega),Ah hlt];obtain ⟨u,rfl⟩:=hf m h0 c (Hr hp)
   have:=g2 (m * j.size+p) (.c (.val u)) (by rw [Yx hrow h0 hpl,hp];rfl)
   generalize vals.getD (m * j.size+p) undef=q at this
   cases this with
   |c hr=>cases hr with
    |val _ h1=>exact .val _ h1
  rw [r2 m A7 hm] at hp;have hpl:p<j.size:=by have:=(Cu.1 hp).1;rwa [Oy,S.zlen] at this
  have hlt:=Gs hm hpl
  have hnlt:¬ m * j.size+p<n1 * j.size:=by
   have:n1 * j.size≤m * j.size:=Kl _ A7
   omega
  rw [hget _ hlt,Ab hnlt];have hmod:(m * j.size+p) % j.size=p:=by rw [Qu,Nat.mul_add_mod];exact A76 hpl
  rw [hmod];rw [Ec,E9] at hp;obtain ⟨u,hu',rfl⟩:=hp
  have:j.zero.getD p undef=u:=by simp [List.getD,hu']
  rw [this];exact .val _ (K7 S.zone u (Hr hu'))
 rw [L5] at hown;have hA:=hs.call hbel
 obtain ⟨k1,k2⟩:=hA.addOwn hown Ef (fun m hm=>by
  rw [Hh.1 hm];refine ⟨.inr (Bu _),fun hav=>?_,.inl hs.base.size⟩
  have:=hs.avoid_lt hav
  omega)
 simp only [Nat.zero_mul] at k1 k2;refine ⟨_,w',.inl ?_,fun hk=>(by rw [ho] at hk;simp [Di] at hk),h.out _ _ _ ((k1.put o.dst k2).is)⟩;obtain ⟨dst,op',ty',pos,after,guard⟩:=o
 simp only at ho
 subst ho
 simp only at hrun
 simp [execOp,resolve,invoke,builtin,e1,e2,Od,hrun,w',cells]
variable {cells : Array Value}
theorem B5y {ty:TypeId}(h:w.heap[b]? =some (.cells cells ty (0,0))):w.shape? b=some (ty,cells.size):=by
 simp [World.shape?,h]
theorem B0e {ty:TypeId}(h:w.heap[b]? =some (.cells cells ty (0,0)))(o:Nat):w.frozen? ⟨b,o,none⟩=false:=by
 simp [World.frozen?,h]
theorem C2r (hT:C0 P T){f:FuncId}{fn:Func}{tS tR:TypeId}{ats:Array TypeId}(hfn:P.funcs[f]? =some fn)(hname:(fn.name== "runtime.NumGoroutine")=false)(hbody:fn.body.isNone=true)(hnx:Extern.findNext fn=none)(hex:Extern.find fn=some (Extern.SlicesOverlaps.overlaps #[tS,tS] #[tR]))(hg:o.guard=none)(ho:o.op= .call {callee:= .value (.func f),args:= #[x,y],argTypes:=ats})(hi:find T tS=some i)(he:i.elem=some e)(hj:find T e=some j)(hx:s.ev x= .own k)(hk:Bm s.own k=some (.sl n es row))(hn:0<n)(hy:s.ev y= .c (.val (Od b o1 n1 c1)))(hl:Dv s.ak kb=some (Sa b))(hb:Fq s.aw kb=some bx)(hlen:0<bx.cells.length)(h:GW P B Q (.ops q all rest::K) (s.put o.dst (.c (.val (.bool false))))):GW P B Q (.ops q all (o::rest)::K) s:=by
 refine ⟨Ia hg (by rw [ho];simp [Di]) (fun E a w hs=>?_)⟩;have e2:=B3 (show D0 E w (s.ag E) s.next (.v (Od b o1 n1 c1)) (a.eval y) by have:=hs.ev y;rwa [hy] at this)
 have e1:a.eval x=E.ov k:=by
  have:=hs.ev x
  rw [hx] at this;generalize a.eval x=v at this
  cases this with
  |own _=>rfl
 obtain ⟨hm,rfl⟩:=F9 hb;obtain ⟨h1,vs,ty,h2,h3,h4⟩:=hs.aw bx hm;obtain ⟨hlk,hov⟩:=hs.ak _ (Gr hl);have hov:E.ov bx.key=Sa b:=hov;have hβ:E.β bx.key=b:=by unfold Fl.β;rw [hov];rfl
 obtain ⟨_,o2,_⟩:=hs.own _ (Ca hk);have hsep:=hs.sepB bx hm _ (Ca hk);rw [hβ] at h2 hsep
 simp only at o2 hsep
 generalize E.ov k=u,E.fp k=fp at o2 e1 hsep
 cases o2 with
 |nil=>omega
 |emp=>omega
 |sl _ _ _ b' off cap ty' cells fps hnc hcp hbk hcs hl' hr=>
  have hne:b'≠b:=fun e=>hsep (by rw [e];simp);have hz:=fun w=>B9 (P:=P) (hT e j hj) w;have hu:=C1 (hT tS i hi) he;have hov:=Go.Lib.run_overlaps_apart (P:=P) w tS tR e hu j.size hz ⟨b',off * es,none⟩ ⟨b,o1,none⟩ n cap n1 c1 hne ty' ty cells.size vs.size (B5y hbk) (B5y h2) A7 (B0e hbk _) (B0e hbk _);refine ⟨.bool false,w,.inl ?_,fun _=>Ed.refl w,h.out E _ _ (hs.put o.dst (.c (.val _ rfl)))⟩;obtain ⟨dst,op',ty2,pos,after,guard⟩:=o
  simp only at ho
  subst ho;have hcall:=run_callFunc_extern hfn hname hbody hnx hex #[.slice (some ⟨b',off * es,none⟩) n cap,Od b o1 n1 c1] w;simp only [Od] at hcall e2;rw [hov] at hcall;have ef:a.eval (.func f)= .func (.func f) #[] #[]:=rfl
  simp [execOp,resolve,Deferred.ofValue,invoke,ef,e1,e2,hcall,Result.andThen]
def Iw {α:Type} (e:α→List Ad) (l:List α):List AV:=l.flatMap fun x=>(e x).map AV.c
variable {α : Type}
theorem Jn (e:α→List Ad)(l m:List α):Iw e (l++m)=Iw e l++Iw e m:=by simp [Iw]
theorem B26 {e:α→List Ad}(he:∀x,(e x).length=es)(l:List α):(Iw e l).length=l.length * es:=by
 induction l with
 |nil=>simp [Iw]
 |cons x r ih=>
  have:Iw e (x::r)=(e x).map AV.c++Iw e r:=rfl
  rw [this,Dn,ih,Oy,he,Ep,Pj];omega
theorem C7g (e:α→List Ad)(l:List α):∀y∈Iw e l,∃c,y= .c c:=by
 intro y hy;obtain ⟨x,_,hx⟩:=E7.1 hy;obtain ⟨c,_,rfl⟩:=Ea.1 hx;exact ⟨c,rfl⟩
theorem W8 [Inhabited α] (e:α→List Ad)(l:List α):Hl l.length (fun i=>e (l.getD i default))=Iw e l:=by
 unfold Hl
 have h:∀(m:List α),(List.range m.length).flatMap (fun i=>(e (m.getD i default)).map AV.c)=Iw e m:=by
  intro m
  induction m with
  |nil=>rfl
  |cons x r ih=>
   rw [Ep,A77,Rx,Z7]
   have:Iw e (x::r)=(e x).map AV.c++Iw e r:=rfl
   rw [this,←ih];rfl
 exact h l
theorem A39 [Inhabited α] (k:Nat)(es:Nat)(e:α→List Ad)(l:List α)(hk:Bm s.own k=some (Mu es e l))(hn:0<l.length)(hf:Fc l.length fun i=>e (l.getD i default))(h:∀(b off cap:Nat) (pre post:List AV),pre.length=off * es→l.length≤cap→cap≤maxLen→(cap-l.length) * es≤post.length→
   GW P B Q K {s with own:=Bb [k] s.own,next:=s.next+1,aw:=⟨s.next,pre++Iw e l++post⟩::s.aw,ak:=(s.next,Sa b)::(k,Od b (off * es) l.length cap)::s.ak}):GW P B Q K s:=
 C99 k hk hn hf (fun b off cap pre post h1 h2 h3 h4=>by
  have:=h b off cap pre post h1 h2 h3 h4
  rw [←W8] at this
  exact this)
theorem D2i [Inhabited α] (i kb:Nat){o:Nat}(off es:Nat)(e:α→List Ad)(l:List α)(pre post:List AV)(hb:Fq s.aw kb=some bx)(hc:bx.cells=pre++Iw e l++post)(hpre:pre.length=off * es)(he:∀x,(e x).length=es)(hf:Fc l.length fun i=>e (l.getD i default))(hcap:cap≤maxLen)(hpost:l.length≤cap∧(cap-l.length) * es≤post.length)(hl:Dv s.ak kb=some (Sa b))(hi:I4 s.ac i= .c (.val (Od b o n cap)))(ho:o=off * es)(hn:n=l.length)(h:GW P B Q K {s with aw:=Vz kb s.aw,own:=⟨s.next,Mu es e l⟩::s.own,next:=s.next+1,ac:=Cd s.ac i (.own s.next)}):GW P B Q K s:=by
 subst ho hn;exact D2j i kb (fun i=>e (l.getD i default)) pre post hb (by rw [hc,W8]) hpre (fun _ _=>he _) hf hpost.1 hcap hpost.2 hl hi h
end Go.Sx
set_option maxRecDepth 100000
namespace Go.Sx
open Go
variable {P : Program} {ops : Array Oper}
variable {B : Er}
theorem A2t {α:Sort _}{s:α→AS}(v:α):GW P B QF [.loop (fun a w=>∃v E,(s v).is B E a w)] (s v):=⟨fun E _ _ hs=>⟨v,E,hs⟩⟩
theorem Vw {α:Sort _}{N:Act→World→Prop}{fuel:Nat}{listed:Array Bool}{s:AS}{s':α→AS}(i:Nat){o:Oper}(hi:ops[i]? =some o)(hb:(Nat.beq (Di o.op) 0&&Region.noSelect ops&&(Region.ready .any ops listed).contains i&&B35 ops listed i o&&A3z ops listed)=true)(ht:GW P B QF [.ops true ops [o],.loop (fun a w=>∃v E,(s' v).is B E a w)] s)(h:∀v,BW P B N ops fuel (listed.setIfInBounds i true) (s' v)):BW P B N ops (fuel+1) listed s:=by
 simp only [Cj,Z6] at hb;obtain ⟨⟨⟨⟨h0,h1⟩,h2⟩,h3⟩,h4⟩:=hb;have h0:=F7 h0;refine ⟨fun E a w hs=>?_⟩;have hg:Fz P ops (fun a w=>∃v E,(s' v).is B E a w) [o] a w:=ht.out E a w hs
 have hfree:∀j oj,ops[j]? =some oj→j≠i→listed.getD j true=false→Wa ops ops.size j i=true∨(o.apart ops oj=true∧(Pd o.op=true∨Di oj.op≤1)):=by
  intro j oj hoj hji hun
  have:=Ja.1 h3 j (Fk.2 (T2.1 hoj).1)
  simp only [hoj,hun,A2c,Yd,Rv,hji,false_or,Cj] at this;exact this.symm.imp id fun ⟨h1,h2⟩=>⟨h1,h2.imp id fun h=>Cz h⟩
 unfold Fz at hg
 by_cases hw:Region.wanted o (yielded ops a.tmps)=true
 ·rw [Ah hw] at hg
  rcases hg with ⟨v,hv,hn⟩|⟨hk,_⟩
  ·obtain ⟨u,E',hs'⟩:=hn
   exact Nt hi (Region.noSelect_spec h1) ops.size fuel listed a w (Pr h4) hfree h2 (.inl ⟨hw,fun w' hw'=>hw'.elim (fun hb=>Si hb a.eval (hv w (Ed.refl w))) (hv w')⟩) ((h u).out E' _ w hs')
  exact absurd h0 hk
 rw [Ab hw] at hg;obtain ⟨u,E',hs'⟩:=hg;exact Nt hi (Region.noSelect_spec h1) ops.size fuel listed a w (Pr h4) hfree h2 (.inr ⟨by simpa using hw,rfl⟩) ((h u).out E' _ w hs')
theorem A6h {Q:Exit→Act→World→Prop}{K:List KI}{s:AS}(k j:Nat){b:Bx}{v:Value}(hb:Fq s.aw k=some b)(hj:I4 b.cells j= .c (.val v))(h:J5 [v]=true→GW P B Q K s):GW P B Q K s:=by
 refine ⟨fun E a w hs=>?_⟩;obtain ⟨hm,hbk⟩:=F9 hb;obtain ⟨h1,vs,ty,h2,h3,h4⟩:=hs.aw b hm
 have ho:v.oneCell'=true:=by
  rw [Cb] at hj
  cases hg:b.cells[j]? with
  |none=>rw [hg] at hj;simp at hj
  |some x=>
   rw [hg] at hj;have hx:x= .c (.val v):=by simpa using hj
   subst hx
   have:=h4 j _ hg
   have e:=B3 this;rw [e] at this;exact this.cell1 rfl hs.one
 have ho:J5 [v]=true:=by
  cases v<;>first|rfl|cases ho
 exact (h ho).out E a w hs
theorem D01 {fn:Func}{R:Ending→World→Prop}{s:AS}(h:RW B (bodyPost P fn R) s):GW P B (bodyPost P fn R) [] s:=
 ⟨fun E a w hs=>by
  have g:bodyPost P fn R .ret a w:=h.rec fun g=>g E a w hs
  exact g⟩
end Go.Sx
set_option maxRecDepth 100000
namespace Go.Sx
open Go
variable {P : Program} {T : List (TypeId × TI)}
def A31 {α:Type} (l:List Bx) (k:List Bx→α):α:=
 match l with
 | []=>k []
 |x::r=>match x with|⟨key,cells⟩=>Mb key fun key=>A31 r fun r'=>k (⟨key,cells⟩::r')
variable {α : Type}
theorem B7f (l:List Bx)(k:List Bx→α):A31 l k=k l:=by
 induction l generalizing k with
 |nil=>rfl
 |cons x r ih=>cases x;simp [A31,J2,ih]
def Jj {α:Type} (s:AS) (k:AS→α):α:=
 match s with
 |⟨next,ac,aw,own,ak⟩=>Mb next fun next=>To ac fun ac=>A31 aw fun aw=>A5l own fun own=>A5k ak fun ak=>k ⟨next,ac,aw,own,ak⟩
theorem A1g (s:AS)(k:AS→α):Jj s k=k s:=by cases s;simp [Jj,J2,Wy,B7f,A99,A98]
def Jy (T:List (TypeId×TI)) (wr:Bool):Nat→List KI→AS→Out
 | 0,K,s=>Jj s (.aj K)
 |n+1,K,s=>
  match K with
  | []=>Jj s (.aj [])
  | .block _::K=>Jy T wr n K s
  | .loop I::K=>Jj s (.aj (.loop I::K))
  | .code c::K=>
   match c with
   | .skip=>Jy T wr n K s
   | .seq a b=>Jy T wr n (.code a:: .code b::K) s
   | .block id c=>Jy T wr n (.code c:: .block id::K) s
   | .cond o t e=>
    match s.ev o with
    | .c (.val (.bool b))=> .ite b (Jy T wr n (.code t::K) s) (Jy T wr n (.code e::K) s)
    |_=>Jj s (.aj (.code (.cond o t e)::K))
   | .exit id=>match Y5 id K with
    |some K'=>Jy T wr n K' s
    |none=>Jj s (.aj (.code (.exit id)::K))
   | .ret=>Jj s .ret
   | .region _id ops false=>Jy T wr n (.ops false ops ops.toList::K) s
   |c=>Jj s (.aj (.code c::K))
  | .ops q all l::K=>
   match l with
   | []=>Jy T wr n K s
   |o::rest=>
    match o.guard with
    |none=>
     match o.op with
     | .pick c x y=>
      match s.ev c with
      | .c (.val (.bool b))=> .ite b (Mr s o.dst (s.ev x) (Jy T wr n (.ops q all rest::K))) (Mr s o.dst (s.ev y) (Jy T wr n (.ops q all rest::K)))
      |_=>Jj s (.aj (.ops q all (o::rest)::K))
     | .call {callee:= .value (.func f),args,..}=>To (args.toList.map s.ev) fun xs=>Jj s fun s=> .call q f xs o.dst (.ops q all rest::K) s
     | .call {callee:= .value (.tmp t),args,..}=>
      match I4 s.ac t with
      | .fn f ao=>To (args.toList.map s.ev++ao) fun xs=>Jj s fun s=> .call q f xs o.dst (.ops q all rest::K) s
      |_=>Jj s (.aj (.ops q all (o::rest)::K))
     |op=>
      match Lk T wr s op with
      | .stop=>Jj s (.aj (.ops q all (o::rest)::K))
      | .ok ps x=>A6b ps (Mr s o.dst x (Jy T wr n (.ops q all rest::K)))
      | .new cells=>B9w s cells fun s'=>Mr s' o.dst (.box s.next 0) (Jy T wr n (.ops q all rest::K))
      | .own ps c=>A6b ps (Qm s c fun s'=>Mr s' o.dst (.own s.next) (Jy T wr n (.ops q all rest::K)))
      | .mem bx=>B9t s bx fun s=>Mr s o.dst .any (Jy T wr n (.ops q all rest::K))
    |some (j,true)=>
     match L6 all j with
     |some d=>match I4 s.ac d with
      | .c (.val (.bool b))=> .ite b
        (Mr s (some d) (.v (.bool true)) (Jy T wr n (.ops q all ({o with guard:=none}::rest)::K)))
        (Mr s (some d) (.v (.bool false)) fun s=>Mr s o.dst (Sb all o.dst) (Jy T wr n (.ops q all rest::K)))
      | .tup []=>Mr s o.dst (Sb all o.dst) (Jy T wr n (.ops q all rest::K))
      |_=>Jj s (.aj (.ops q all (o::rest)::K))
     |none=>Jj s (.aj (.ops q all (o::rest)::K))
    |some (j,false)=>
     match L6 all j with
     |some d=>match I4 s.ac d with
      | .c (.val (.bool b))=> .ite b
        (Mr s (some d) (.v (.bool true)) fun s=>Mr s o.dst (Sb all o.dst) (Jy T wr n (.ops q all rest::K)))
        (Mr s (some d) (.v (.bool false)) (Jy T wr n (.ops q all ({o with guard:=none}::rest)::K)))
      | .tup []=>Mr s o.dst (Sb all o.dst) (Jy T wr n (.ops q all rest::K))
      |_=>Jj s (.aj (.ops q all (o::rest)::K))
     |none=>Jj s (.aj (.ops q all (o::rest)::K))
theorem C0a (T:List (TypeId×TI))(wr:Bool):∀n,Jy T wr n=run T wr n
 | 0=>by funext K s;simp only [Jy,run,E8,A1g]
 |n+1=>by
  funext K s
  simp only [Jy,run,C0a T wr n,E8,A1g];rfl
def B99 (T:List (TypeId×TI)) (wr:Bool) (n:Nat) (K:List KI) (s:AS):Out:=Jj s (Jy T wr n K)
theorem B5q (T:List (TypeId×TI))(wr:Bool)(n:Nat)(K:List KI)(s:AS):B99 T wr n K s=P7 T wr n K s:=by
 unfold B99 P7;rw [A1g,E8,C0a]
variable {B : Er} {Q : Exit → Act → World → Prop}
theorem Ft (hT:C0 P T)(wr:Bool){K:List KI}{s:AS}(h:vcW P B Q (B99 T wr 100000 K s)):GW P B Q K s:=
 go hT wr (by rw [←B5q];exact h)
theorem D23 (n:Nat)(hT:C0 P T)(wr:Bool){K:List KI}{s:AS}(h:vcW P B Q (B99 T wr n K s)):GW P B Q K s:=
 goF n hT wr (by rw [←B5q];exact h)
theorem B5a (P:Program) [Inhabited α] {s:AS}(i kb:Nat){bx:Bx}{b o n cap:Nat}(off es:Nat)(e:α→List Ad)(l:List α)(pre post:List AV)(hb:Fq s.aw kb=some bx)(hc:bx.cells=pre++Iw e l++post)(hpre:pre.length=off * es)(he:∀x,(e x).length=es)(hf:Go.Sx.Fc l.length fun i=>e (l.getD i default))(hcap:cap≤maxLen)(hpost:l.length≤cap∧(cap-l.length) * es≤post.length)(hl:Dv s.ak kb=some (Sa b))(hi:I4 s.ac i= .c (.val (Od b o n cap)))(ho:o=off * es)(hn:n=l.length)(h:RW B Q {s with aw:=Vz kb s.aw,own:=⟨s.next,Mu es e l⟩::s.own,next:=s.next+1,ac:=Cd s.ac i (.own s.next)}):RW B Q s:=
 C21 P (s':= {s with aw:=Vz kb s.aw,own:=⟨s.next,Mu es e l⟩::s.own,next:=s.next+1,ac:=Cd s.ac i (.own s.next)}) (fun _ g=>D2i i kb off es e l pre post hb hc hpre he hf hcap hpost hl hi ho hn g) h
end Go.Sx
set_option maxRecDepth 100000
namespace Go.Sx
open Go
open Go.RowKit (Below)
variable {P : Program} {T : List (TypeId × TI)} {ops : Array Oper}
variable {o : Oper}
theorem C9h {i:Nat}{Q:Act→World→Prop}{a:Act}{w:World}(ho:ops[i]? =some o)(h:Fz P ops Q [o] a w):opM P ops i Q a w:=by
 unfold opM;simp only [ho];unfold Fz at h
 split
 ·rename_i hw
  rw [Ah hw] at h
  rcases h with ⟨v,h1,h2⟩|⟨_,hd⟩
  ·unfold Kp
   rw [h1 w (Ed.refl w)];exact ⟨fun _=>Ed.refl w,h2⟩
  exact hd
 rename_i hw
 rw [Ab hw] at h;exact h
def C30 (P:Program) (B:Er) (N:Act→World→Prop) (ops:Array Oper) (fuel:Nat) (listed:Array Bool) (s:AS):List Nat→Prop
 | []=>True
 |i::r=>(match ops[i]? with
  |some o=>GW P B QF [.ops true ops [o],.loop (fun a w=>R3 P ops N fuel (listed.setIfInBounds i true) a w)] s
  |none=>False)∧C30 P B N ops fuel listed s r
variable {B : Er} {N : Act → World → Prop} {fuel : Nat} {listed : Array Bool} {s : AS}
theorem C04 {l:List Nat}(h:C30 P B N ops fuel listed s l){i:Nat}(hi:i∈l):
  ∃o,ops[i]? =some o∧GW P B QF [.ops true ops [o],.loop (fun a w=>R3 P ops N fuel (listed.setIfInBounds i true) a w)] s:=by
 induction l with
 |nil=>simp at hi
 |cons j r ih=>
  obtain ⟨h1,h2⟩:=h
  rcases C7.1 hi with rfl|hi
  ·split at h1
   ·rename_i o ho;exact ⟨o,ho,h1⟩
   exact h1.elim
  exact ih h2 hi
theorem splitB (l:List Nat)(hr:(eqL (Region.ready .any ops listed) l&&!l.isEmpty)=true)(h:C30 P B N ops fuel listed s l):BW P B N ops (fuel+1) listed s:=by
 simp only [Cj,Mp] at hr;have hr1:=C42 hr.1;refine ⟨fun E a w hs=>⟨fun h0=>?_,fun i hi=>?_⟩⟩
 ·rw [hr1] at h0
  rw [h0] at hr
  simp at hr
 rw [hr1] at hi;obtain ⟨o,ho,hg⟩:=C04 h hi;exact C9h ho (hg.out E a w hs)
theorem Ei (h:BW P B N ops fuel listed s):GW P B QF [.loop (fun a w=>R3 P ops N fuel listed a w)] s:=
 ⟨fun E a w hs=>h.out E a w hs⟩
theorem A2r {Q:Exit→Act→World→Prop}{K:List KI}(hr:(Region.ready .any ops listed).isEmpty=true)(h:GW P B Q K s):BW P B (fun a w=>post P Q K .normal a w) ops 0 listed s:=
 ⟨fun E a w hs=>⟨by simpa using hr,h.out E a w hs⟩⟩
def B46:Op→Bool
 | .move _=>true
 | .assign _=>true
 | .extract _ _=>true
 |_=>false
theorem C9d (h:B46 o.op=true)(ρ:Operand→Value){w w':World}{v:Value}(hr:(execOp ρ o).run P w= .ok (.value v) w):(execOp ρ o).run P w'= .ok (.value v) w':=by
 by_cases hb:Pd o.op=true
 ·exact Si hb ρ hr
 obtain ⟨dst,op,ty,pos,after,guard⟩:=o
 cases op<;>simp [B46] at h<;>simp [Pd] at hb
 rename_i x i
 simp only [execOp,Instr.extract] at hr ⊢;generalize ρ x=u at hr ⊢
 cases u<;>simp_all
 split at hr<;>simp_all
theorem D24 {s':AS}(i:Nat)(hi:ops[i]? =some o)(hb:(B46 o.op&&Region.noSelect ops&&(Region.ready .any ops listed).contains i&&B0c ops listed i o)=true)(ht:GW P B QF [.ops true ops [o],.loop (fun a w=>∃E,s'.is B E a w)] s)(h:BW P B N ops fuel (listed.setIfInBounds i true) s'):BW P B N ops (fuel+1) listed s:=by
 simp only [Cj,Z6] at hb;obtain ⟨⟨⟨h0,h1⟩,h2⟩,h3⟩:=hb;refine ⟨fun E a w hs=>?_⟩;have hg:Fz P ops (fun a w=>∃E,s'.is B E a w) [o] a w:=ht.out E a w hs;unfold Fz at hg
 by_cases hw:Region.wanted o (yielded ops a.tmps)=true
 ·rw [Ah hw] at hg
  rcases hg with ⟨v,hv,hn⟩|⟨hk,_⟩
  ·obtain ⟨E',hs'⟩:=hn
   exact V8 hi (Region.noSelect_spec h1) fuel listed a w h3 h2 (.inl ⟨hw,fun w'=>C9d h0 a.eval (hv w (Ed.refl w))⟩) (h.out E' _ w hs')
  exfalso
  apply hk
  cases ho:o.op<;>rw [ho] at h0<;>first|rfl|simp [B46] at h0
 rw [Ab hw] at hg;obtain ⟨E',hs'⟩:=hg;exact V8 hi (Region.noSelect_spec h1) fuel listed a w h3 h2 (.inr ⟨by simpa using hw,rfl⟩) (h.out E' _ w hs')
end Go.Sx
set_option maxRecDepth 100000
namespace Go.Sx
open Go
open Go.RowKit (Below)
variable {P : Program} {T : List (TypeId × TI)}
variable {B : Er} {Q : Exit → Act → World → Prop} {H : World → Prop} {dst : Option Tmp} {K : List KI} {s : AS} {pins : List (Ad × Value)}
theorem D0w {f:FuncId}{rest:List AV}{xs ins:List Hb}{ι:Type}{φ:ι→Prop}{ax:ι→List Hb}(x0s:List AV)(hf:P1 P H f pins xs ins φ ax)(hH:∀w,B.rel w→H w)(hp:Ln B pins)(ho:N6 s.own x0s xs)(hk:Gl (x0s.flatMap D5)=true)(r1:rest.length=ins.length)(hx:∀(E:Fl) (a:Act) (w:World),s.is B E a w→∀X:Nat→Prop,A9n s E (x0s.flatMap D5) X→(∀u∈s.aw,¬ X (E.β u.key))→∀(i:Nat) (z:Hb),ins[i]? =some z→∃y:AV,rest[i]? =some y∧∀v,D0 E w (s.ag E) s.next y v→P3 w X z v)(h:∀i,φ i→GW P B Q K ((Gi (ax i) (Qb (x0s.flatMap D5) s)).2.put dst (Gi (ax i) (Qb (x0s.flatMap D5) s)).1)):CW P B Q false f (x0s++rest) dst K s:=by
 refine ⟨⟨hf.1,fun E a w hs vs hl hv=>?_⟩⟩;have hxl:=(O1 ho).1;have hvl:vs.length=x0s.length+rest.length:=by simpa using hl
 have hd1:∀i x,x0s[i]? =some x→D0 E w (s.ag E) s.next x ((vs.take x0s.length).getD i undef):=by
  intro i x hi;have hil:i<x0s.length:=(Cu.1 hi).1
  have:=hv i x (by rw [F3 hil];exact hi)
  simpa [List.getD,Wn,hil] using this
 have hd2:∀i x,rest[i]? =some x→D0 E w (s.ag E) s.next x ((vs.drop x0s.length).getD i undef):=by
  intro i x hi
  have:=hv (x0s.length+i) x (by rw [F8 A7];simpa using hi)
  simpa [List.getD] using this
 obtain ⟨o1,o2,o3,o4⟩:=A6l hs hd1 hk ho
 let fps:Nat→List Nat:=fun i=>(D5 (I4 x0s i)).flatMap E.fp
 have hin:∀b,b∈Sh xs.length fps→∃k∈x0s.flatMap D5,∃y∈s.own,y.key=k∧b∈E.fp k:=by
  intro b hb;obtain ⟨i,hi,hb⟩:=E7.1 hb;have hi:=Fk.1 hi;obtain ⟨k,hk1,hb⟩:=E7.1 hb;obtain ⟨y,hy,e⟩:=o3 i hi k hk1;refine ⟨k,E7.2 ⟨I4 x0s i,?_,hk1⟩,y,hy,e,hb⟩;have hil:i<x0s.length:=by omega
  rw [Cb,Dh hil];exact A72 hil
 have hX:A9n s E (x0s.flatMap D5) (fun b=>b∈Sh xs.length fps):=by
  refine ⟨fun b hb=>?_,fun y hy hne b hb hb'=>?_⟩
  ·obtain ⟨k,_,y,hy,rfl,hb⟩:=hin b hb
   exact .inr ⟨y,hy,hb⟩
  obtain ⟨k,hk1,y2,hy2,rfl,hb2⟩:=hin b hb';exact hs.sep y hy y2 hy2 (fun e=>hne (e▸hk1)) b hb hb2
 have hXb:∀u∈s.aw,¬ (E.β u.key)∈Sh xs.length fps:=by
  intro u hu hb;obtain ⟨k,_,y,hy,rfl,hb⟩:=hin _ hb;exact hs.sepB u hu y hy hb
 have e:vs=vs.take x0s.length++vs.drop x0s.length:=(Qy _ _).symm;rw [e];refine (hf.2 w (vs.take x0s.length) fps (vs.drop x0s.length) P4 o1 o2 o4 (fun w' hr=>hH w' (C6s hs hX.av hr)) (hp.now hs hX.av) P4 (fun i z hi=>?_)).mono (fun e w' ⟨i,hi,hg⟩=>?_)
 ·obtain ⟨y,hy,hro⟩:=hx E a w hs _ hX hXb i z hi
  exact hro _ (hd2 i y hy)
 obtain ⟨hrel,rs,gps,rfl,hrl,hro,hfr,hdis⟩:=hg;have hkept:=Vm hrel;have hI:=hs.drop (x0s.flatMap D5)
 have hX2:∀b,b∈Sh xs.length fps→s.ag E b∧¬ (Qb (x0s.flatMap D5) s).ag E b∧B.fresh b:=by
  intro b hb;refine ⟨hX.av b hb,?_,hs.fresh b (hX.av b hb)⟩
  rintro (⟨u,hu,rfl⟩|⟨u,hu,hb'⟩)
  ·obtain ⟨k,hk1,y,hy,rfl,hb⟩:=hin _ hb
   exact hs.sepB u hu y hy hb
  obtain ⟨q1,q2⟩:=Bl.1 hu;exact hX.own u q1 q2 b hb' hb
 have hI2:=hI.kept hkept hX2
 obtain ⟨E',hAd,hL,hD⟩:=M6 (ax i) rs gps (Qb (x0s.flatMap D5) s) E hI2 hrl hro (fun j hj=>(hfr j hj).1) hdis (fun j hj b hb=>by
  rcases (hfr j hj).2 b hb with h|h
  ·refine ⟨.inr h,fun hav=>?_,.inl (G0 hs.base.size h)⟩
   have:=hs.avoid_lt (hI.sub b hav)
   have h:w.heap.size≤b:=h;omega
  obtain ⟨q1,q2,q3⟩:=hX2 b h
  exact ⟨.inl q1,q2,q3⟩)
 have hres:=G7 (ax i) (Do (ax i) (Qb (x0s.flatMap D5) s)).1 rs hrl hL hD;have h:=h i hi;rw [Sg] at h;exact ⟨_,rfl,(fun h=>by cases h),h.rec fun g=>g E' _ w' ((hAd.isA.put dst hres).is)⟩
theorem C4d {f g:FuncId}{xs:List Hb}{ι:Type}{φ:ι→Prop}{ax:ι→List Hb}{k:Nat}{bx:Bx}{cs:List Ad}(x0s:List AV)(hf:P1 P H f pins xs [.fn g [.ptr cs]] φ ax)(hH:∀w,B.rel w→H w)(hp:Ln B pins)(ho:N6 s.own x0s xs)(hk:Gl (x0s.flatMap D5)=true)(hb:Fq s.aw k=some bx)(hc:bx.cells=cs.map AV.c)(h:∀i,φ i→GW P B Q K ((Gi (ax i) (Qb (x0s.flatMap D5) s)).2.put dst (Gi (ax i) (Qb (x0s.flatMap D5) s)).1)):CW P B Q false f (x0s++[.fn g [.box k 0]]) dst K s:=
 D0w x0s hf hH hp ho hk rfl (fun E a w hs X hX hXb i z hi=>by
  match i,hi with
  | 0,hi=>
   obtain rfl:=Bv hi;refine ⟨_,rfl,fun v hd=>?_⟩
   cases hd with
   |fn vs hl hv=>
    refine ⟨vs,rfl,by simpa using hl,fun j c hj=>?_⟩
    match j,hj with
    | 0,hj=>
     obtain rfl:=Bv hj;have hd:=hv 0 (.box k 0) rfl;generalize hu:vs.getD 0 undef=u at hd ⊢;obtain ⟨hm,rfl⟩:=F9 hb;obtain ⟨_,ws,ty,h1,h2,h3⟩:=hs.aw bx hm;have hlen:ws.size=cs.length:=by rw [h2,hc,Oy]
     cases hd with
     |box _ hk'=>
      refine ⟨_,_,1,rfl,.sl 1 cs.length _ (E.β bx.key) 0 1 (fun i j=>ws.getD (i * cs.length+j) undef) (fun _=>hXb bx hm) (Bu _) (by simp only [maxLen];omega) (fun _ _=>rfl) (fun i j hi hj=>?_) (fun i j c hi hc'=>?_)⟩
      ·obtain rfl:i=0:=by omega
       have hj':0+0 * cs.length+j<ws.size:=by omega
       rw [cell_of_row w _ _ ws ty (0,0) h1]
       simp [Array.getD,show j<ws.size by omega]
      obtain rfl:i=0:=by omega
      have:=h3 j (.c c) (by rw [hc,Ec,hc'];rfl)
      simp only [Nat.zero_mul,Rw]
      cases this with
      |c hr=>exact hr.move (fun _ _ _=>rfl) (fun b _ hb=>hX.av b hb)
    |j+1,hj=>simp at hj
  |i+1,hi=>simp at hi) h
variable {all : Array Oper} {rest : List Oper}
theorem C23 (hT:C0 P T){q:Bool}{o:Oper}{t e:TypeId}{x lo hi mx:Operand}{i j:TI}(hg:o.guard=none)(ho:o.op= .slice t x (some lo) (some hi) (some mx))(hi':find T t=some i)(he:i.elem=some e)(hj:find T e=some j){k n es:Nat}{row:Nat→List Ad}(hx:s.ev x= .own k)(hk:Bm s.own k=some (.sl n es row)){l h m:Int}(hl:bnd s (some lo) 0=some l)(hh:bnd s (some hi) 0=some h)(hm:bnd s (some mx) 0=some m)(hb:0≤l∧l≤h∧h≤m∧m≤n)(hgo:GW P B Q (.ops q all rest::K) (s.put o.dst .any)):GW P B Q (.ops q all (o::rest)::K) s:=by
 refine ⟨Eb hg (fun E a w hs=>?_)⟩;have hd:=hs.ev x;rw [hx] at hd
 have hv:a.eval x=E.ov k:=by
  generalize a.eval x=v at hd
  cases hd with
  |own _=>rfl
 have h1:=L3 hs hl;have h2:=L3 hs hh;have h3:=L3 hs hm;obtain ⟨_,o2,_⟩:=hs.own _ (Ca hk)
 have hsh:∃ad cap,E.ov k= .slice ad n cap∧n≤cap:=by
  simp only at o2
  generalize E.ov k=u,E.fp k=fp at o2
  cases o2 with
  |nil=>exact ⟨none,0,rfl,Bu _⟩
  |emp=>exact ⟨_,0,rfl,Bu _⟩
  |sl _ _ _ b off cap ty cells fps hn=>exact ⟨_,cap,rfl,hn⟩
 obtain ⟨ad,cap,hov,hcap⟩:=hsh;have hu:=C1 (hT t i hi') he;have hel:P.elem t=e:=by simp [Program.elem,hu]
 have hu':P.underlying t=some (.slice (P.elem t)):=by rw [hel];exact hu
 have hz:∀w,(sizeOf (P.elem t)).run P w= .ok j.size w:=fun w=>by rw [hel];exact B9 (hT e j hj) w
 rcases h1 with ⟨e1,_⟩|⟨k1,e1⟩
 ·simp at e1
 rcases h2 with ⟨e2,_⟩|⟨k2,e2⟩
 ·simp at e2
 rcases h3 with ⟨e3,_⟩|⟨k3,e3⟩
 ·simp at e3
 refine ⟨sliced ad l.toNat h.toNat m.toNat j.size,fun w' _=>?_,hgo.out E _ w (hs.put o.dst (.any _))⟩
 have hrun:(Instr.sliceAt t (.slice ad n cap) (some (a.eval lo)) (some (a.eval hi)) (some (a.eval mx))).run P w'= .ok (sliced ad l.toNat h.toNat m.toNat j.size) w':=by
  rw [run_sliceAt_slice w' t _ _ _ _ hu'];simp only [Qv,Em] at e1 e2 e3;rw [e1,e2,e3,run_slice_lhm w' t _ n cap hu' k1 k2 k3 l h m A7 A7 A7 A7,hz]
  simp [Result.andThen]
 obtain ⟨dst,op',ty,pos,after,guard⟩:=o
 simp only at ho
 subst ho
 simp [execOp,hv,hov,hrun]
theorem D1l (hT:C0 P T){q:Bool}{o:Oper}{t e:TypeId}{x:Operand}{lo:Option Operand}{i j:TI}(hg:o.guard=none)(ho:o.op= .slice t x lo none none)(hi':find T t=some i)(he:i.elem=some e)(hj:find T e=some j){b ad n cap:Nat}(hx:s.ev x= .c (.val (Od b ad n cap))){l:Int}(hl:bnd s lo 0=some l)(hb:0<l∧l=n∧n=cap)(hgo:GW P B Q (.ops q all rest::K) (s.put o.dst (.c (.val (Od b ad 0 0))))):GW P B Q (.ops q all (o::rest)::K) s:=by
 obtain ⟨b0,rfl,rfl⟩:=hb;refine ⟨Eb hg (fun E a w hs=>?_)⟩;have hd:=hs.ev x;rw [hx] at hd;have hv:=B3 hd;have h1:=L3 hs hl;have hu:=C1 (hT t i hi') he;have hel:P.elem t=e:=by simp [Program.elem,hu]
 have hu':P.underlying t=some (.slice (P.elem t)):=by rw [hel];exact hu
 have hz:∀w,(sizeOf (P.elem t)).run P w= .ok j.size w:=fun w=>by rw [hel];exact B9 (hT e j hj) w
 rcases h1 with ⟨_,e1⟩|⟨k1,e1⟩
 ·omega
 refine ⟨_,fun w' _=>?_,hgo.out E _ w (hs.put o.dst (.c (.val _ rfl)))⟩
 have hrun:(Instr.sliceAt t (Od b ad n n) (lo.map a.eval) none none).run P w'= .ok (Od b ad 0 0) w':=by
  rw [run_sliceAt_slice w' t _ _ _ _ hu',e1];unfold Od;rw [run_slice_l w' t _ n n hu' k1 (n:Int) A7 A7,hz]
  simp [Result.andThen,sliced]
 obtain ⟨dst,op',ty,pos,after,guard⟩:=o
 simp only at ho
 subst ho
 simp [execOp,hv,hrun]
theorem C49 (k j key:Nat){b:Bx}{c:Ad}(hb:Fq s.aw k=some b)(hj:I4 b.cells j= .own key)(hk:Bm s.own key=some c)(h:GW P B Q K {s with own:=Bb [key] s.own,aw:=Fe s.aw k (Cd b.cells j (.c c))}):GW P B Q K s:=by
 refine ⟨fun E a w hs=>?_⟩;have hI:=(hs.drop [key]).is;have hm:=Ca hk
 have hrep:Qz w (({s with own:=Bb [key] s.own}:AS).ag E) c (E.ov key):=(hs.own _ hm).2.1.rep (fun b hb=>by
  rintro (⟨u,hu,rfl⟩|⟨u,hu,hb'⟩)
  ·exact hs.sepB u hu _ hm hb
  obtain ⟨q1,q2⟩:=Bl.1 hu
  exact hs.sep _ hm u q1 (fun e=>q2 (by rw [←e];exact Hh.2 rfl)) b hb hb')
 refine h.out E a w (AS.is.reBox hI hb (Cd b.cells j (.c c)) (fun vs h1 h2=>⟨by rw [Bj];exact h1,fun i y hy=>?_⟩));rw [Cr] at hy
 split at hy
 ·rename_i hm'
  obtain ⟨rfl,hm'⟩:=hm';obtain rfl:=Bv hy
  have:=h2 j (.own key) (by rw [Cb,Dh hm'] at hj;rw [Dh hm'];simpa using hj)
  generalize vs.getD j undef=u at this ⊢
  cases this with
  |own _=>exact .c hrep
 exact h2 i y hy
end Go.Sx
set_option maxRecDepth 100000
namespace Go.Sx
open Go
open Go.RowKit (Below)
variable {P : Program} {T : List (TypeId × TI)}
structure A4c (w w':World) (ax:List Hb) (e:Ending):Prop where
 below:Below w.heap.size w w'
 res:∃(rs:List Value) (fps:Nat→List Nat),e= .returned (J6 rs)∧rs.length=ax.length∧(∀i y,ax[i]? =some y→P2 w' y (rs.getD i undef) (fps i))∧
  ∀i,i<ax.length→∀b∈fps i,w.heap.size≤b
def A4g (P:Program) (f:FuncId) (pins:List (Ad×Value)) (ins:List Hb) {ι:Type} (φ:ι→Prop) (ax:ι→List Hb):Prop:=
 Lm P f∧∀(w:World),A08 w (fun _=>False) pins→∀(vs:List Value),vs.length=ins.length→(∀i x,ins[i]? =some x→P3 w (fun _=>False) x (vs.getD i undef))→
  Calls P f vs.toArray w fun e w'=>∃i,φ i∧A4c w w' (ax i) e
variable {pins : List (Ad × Value)} {ι : Type} {f : FuncId} {fn : Func} {ins : List Hb}
theorem C8f {φ:ι→Prop}{c:Code}{ax:ι→List Hb}(hf:P.funcs[f]? =some fn)(hb:fn.body=some c)(hn:(fn.name== "runtime.NumGoroutine")=false)(h:∀W,Ln ⟨W,fun _=>False⟩ pins→G P ⟨W,fun _=>False⟩ (bodyPost P fn fun e w'=>∃i,φ i∧A4c W w' (ax i) e) [.code c] (Dg fn.ntmps ins)):A4g P f pins ins φ ax:=by
 refine ⟨⟨fn,hf,hn,by simp [hb]⟩,fun w hH vs hl hv=>calls_of_wp hf hb ?_⟩
 refine h w hH ⟨fun _=> .slice none 0 0,fun _=>[]⟩ _ w ?_
 have nav:∀b,¬ (Dg fn.ntmps ins).ag ⟨fun _=> .slice none 0 0,fun _=>[]⟩ b:=by
  rintro b (⟨x,hx,_⟩|⟨y,hy,_⟩)
  ·simp [Dg] at hx
  simp [Dg] at hy
 have nb:∀x,x∉(Dg fn.ntmps ins).aw:=by simp [Dg]
 have no:∀x,x∉(Dg fn.ntmps ins).own:=by simp [Dg]
 refine ⟨rfl,by simp [Dg],by simp [Dg,hl],fun i x hx=>?_,fun x hx=>absurd hx (nb x),fun x hx=>absurd hx (nb x),by simp [Dg],fun y hy=>absurd hy (no y),by simp [Dg],fun y hy=>absurd hy (no y),fun x hx=>absurd hx (nb x),fun _ _=>rfl,
  ⟨rfl,rfl,rfl,Bu _,fun _ _ _=>rfl⟩,fun b hb=>absurd hb (nav b)⟩
 simp only [Dg] at hx
 by_cases hi:i<ins.length
 ·rw [F3 (by simpa using hi)] at hx
  simp only [Ec,E9] at hx;obtain ⟨y,hy,rfl⟩:=hx;have hr:=hv i y hy;have hiv:i<vs.length:=by omega
  have e:(vs.toArray++Array.replicate (fn.ntmps-vs.toArray.size) undef).getD i undef=vs.getD i undef:=by
   simp [Array.getD,List.getD,hiv,show i<vs.length+(fn.ntmps-vs.length) by omega]
  rw [e]
  cases y with
  |one c=>exact .c (hr.move (fun _ _ _=>rfl) (fun b _ hb=>absurd hb (nav b)))
  |agg cs=>
   obtain ⟨us,hu,hul,hur⟩:=hr;rw [hu];refine .agg us (by simp [hul]) (fun j x hj=>?_);simp only [Ec,E9] at hj;obtain ⟨c,hc,rfl⟩:=hj;exact .c ((hur j c hc).move (fun _ _ _=>rfl) (fun b _ hb=>absurd hb (nav b)))
  |ptr cs=>exact hr.den (fun b hb=>absurd hb (nav b))
  |fn f ao=>
   obtain ⟨us,hu,hul,hur⟩:=hr;rw [hu];refine .fn us (by simp [hul]) (fun j x hj=>?_);simp only [Ec,E9] at hj;obtain ⟨c,hc,rfl⟩:=hj;have hr:=hur j c hc
   cases c with
   |one c=>exact .c (Qz.move hr (fun _ _ _=>rfl) (fun b _ hb=>absurd hb (nav b)))
   |ptr cs=>exact Q5.den hr (fun b hb=>absurd hb (nav b))
 rw [F8 P4] at hx
 obtain rfl:AV.any=x:=by
  have:=Hr hx
  simpa using (Ug this).symm
 exact .any _
variable {xs : List AV}
theorem C9v (hT:C0 P T){W:World}{ax:List Hb}{s:AS}(hx:Oo T fn.results.toList s=some xs)(ho:N6 s.own xs ax):
  C3s ⟨W,fun _=>False⟩ (bodyPost P fn fun e w'=>A4c W w' ax e) s:=by
 intro E a w h;obtain ⟨vs,h1,h2,h3,h4⟩:=W2 hT h fn.results.toList xs hx;obtain ⟨g1,g2⟩:=O1 ho;refine ⟨h.defers,J6 vs,?_,Mw h.base,vs,fun i=>(D5 (I4 xs i)).flatMap E.fp,rfl,by omega,fun i y hy=>?_,fun i hi b hb=>?_⟩
 ·rw [Qq,A2a]
  simp only [A2b,Sem.run_bind,h1,Result.andThen_ok,Sem.run_pure];exact A6 (fun v=>Result.ok v w) (Sz vs)
 ·obtain ⟨x,hx',hxo⟩:=g2 i y hy
  have:=(Ki h hxo (h4 i x hx')).1
  have e:I4 xs i=x:=by rw [Cb,hx'];rfl
  simp only [e];exact this
 obtain ⟨x,hx',hxo⟩:=g2 i _ (Dh hi);have hkeys:=(Ki h hxo (h4 i x hx')).2
 change b∈(D5 (I4 xs i)).flatMap E.fp at hb
 rw [show I4 xs i=x by rw [Cb,hx'];rfl] at hb
 obtain ⟨k,hk',hb⟩:=E7.1 hb;obtain ⟨y,hy,rfl⟩:=hkeys k hk';exact (h.fresh b (.inr ⟨y,hy,hb⟩)).elim id False.elim
theorem C6u (hT:C0 P T){W:World}{φ:ι→Prop}{ax:ι→List Hb}{s:AS}(i:ι)(hi:φ i)(hx:Oo T fn.results.toList s=some xs)(ho:N6 s.own xs (ax i)):
  RW ⟨W,fun _=>False⟩ (bodyPost P fn fun e w'=>∃i,φ i∧A4c W w' (ax i) e) s:=
 RW.mono (fun _ _ ⟨h1,v,h2,h3⟩=>⟨h1,v,h2,i,hi,h3⟩) ⟨C9v hT hx ho⟩
theorem C40 (hT:C0 P T)(wr:Bool){φ:ι→Prop}{c:Code}{ax:ι→List Hb}(hf:P.funcs[f]? =some fn)(hb:fn.body=some c)(hn:(fn.name== "runtime.NumGoroutine")=false)(h:∀W,Ln ⟨W,fun _=>False⟩ pins→vcW P ⟨W,fun _=>False⟩ (bodyPost P fn fun e w'=>∃i,φ i∧A4c W w' (ax i) e) (P7 T wr 100000 [.code c] (Dg fn.ntmps ins))):A4g P f pins ins φ ax:=
 C8f hf hb hn fun W hW=>(go hT wr (h W hW)).rec id
theorem D0f {B:Er}{Q:Exit→Act→World→Prop}{q:Bool}{dst:Option Tmp}{K:List KI}{s:AS}{φ:ι→Prop}{ax:ι→List Hb}(hf:A4g P f pins ins φ ax)(hp:Ln B pins)(hx:Ir s xs=some ins)(h:∀i,φ i→GW P B Q K (s.put dst (Pi (ax i)))):CW P B Q q f xs dst K s:=by
 refine ⟨⟨hf.1,fun E a w hs vs hl hv=>?_⟩⟩;obtain ⟨h1,h2⟩:=Is hx;refine (hf.2 w (hp.now hs (fun _ h=>h.elim)) vs A7 (fun i x hi=>?_)).mono (fun e w' ⟨k,hk,hg⟩=>?_)
 ·obtain ⟨y,hy,hc⟩:=h2 i x hi
  exact K4 hs hc (hv i y hy)
 ·
  obtain ⟨hb,rs,fps,rfl,hrl,hro,hfr⟩:=hg;have hI:=(hs.call hb).is
  have hno:∀i,i<(ax k).length→∀b∈fps i,¬ s.ag E b:=fun i hi b hb' hav=>by
   have:=hs.avoid_lt hav
   have:=hfr i hi b hb'
   omega
  have hone:∀i y,(ax k)[i]? =some y→D0 E w' (s.ag E) s.next (Lb y) (rs.getD i undef):=by
   intro i y hy;have hi:i<(ax k).length:=(Cu.1 hy).1;have ho:=hro i y hy
   cases y with
   |one c=>exact .c (Bz.rep ho (hno i hi))
   |agg cs=>
    obtain ⟨us,gps,hu,hul,hur,hfp⟩:=ho;rw [hu];refine .agg us (by simp [hul]) (fun j x hj=>?_);simp only [Ec,E9] at hj;obtain ⟨c,hc,rfl⟩:=hj;have hj:j<cs.length:=(Cu.1 hc).1;exact .c ((hur j c hc).rep (fun b hb'=>hno i hi b (by rw [hfp];exact Dp hj hb')))
   |ptr cs=>exact ho.elim
   |fn f ao=>exact ho.elim
  have hres:D0 E w' (s.ag E) s.next (Pi (ax k)) (J6 rs):=by
   have:=G7 (E:=E) (A:=s.ag E) (N:=s.next) (w:=w') (ax k) ((ax k).map Lb) rs hrl Ef (fun i x hi=>by
    simp only [Ec,E9] at hi;obtain ⟨y,hy,rfl⟩:=hi
    exact hone i y hy)
   match (ax k),this with
   | [],this=>exact this
   | [o],this=>exact this
   |o1::o2::r,this=>exact this
  exact ⟨_,rfl,fun _=> .of_below hb,(h k hk).rec fun g=>g E _ w' (hI.put dst hres)⟩
end Go.Sx
