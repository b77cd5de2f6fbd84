/- Part 35 of the proof that each of the laws FnTotals returns true for every input. No conditions. -/
import Derived.Test.YtdendlkeiaccpaaGreatP6
import Derived.Test.YtdendlkeiaccpaaGreatP5
import Derived.Test.YtdendlkeiaccpaaGreatP7
import Derived.Test.YtdendlkeiaccpaaGreatP9

set_option linter.unusedSimpArgs false
set_option linter.unusedVariables false
set_option maxRecDepth 100000
namespace Go.Proofs.YtdendlkeiaccpaaGreat
open Go.Sx
def A6s (a b:Int):Int:=if b>a then b else a
def Sj (xs:List A9):Int:=xs.foldl (fun n r=>A6s n r.stamp.turn) 0
theorem Vt (xs:List A9)(k:Nat)(h:k<xs.length):Sj (xs.take (k+1))=A6s (Sj (xs.take k)) (xs.getD k default).stamp.turn:=by
 unfold Sj
 rw [List.take_add_one,List.getElem?_eq_getElem h,List.foldl_append]
 simp [List.getD,h]
theorem A9l (a b:Int):Bi Tryz.prog 77 [.one (vi a),.one (vi b)] [.one (vi (A6s a b))]:=by
 refine Bd A0 false Tryz.func77 rfl Aw fun W=>?_
 conv=>whnf
 refine Es (fun h=>?_) fun h=>?_<;>conv=>whnf
 ·have e:A6s a b=b:=if_pos Ab
  repeat refine B7 ?_
  rw [e]
  refine B2 A0 rfl rfl ?_
  exact At
 have e:A6s a b=a:=if_neg Ab
 repeat refine B7 ?_
 rw [e]
 refine B2 A0 rfl rfl ?_
 exact At
theorem Sg (xs:List A9)(hx:xs.length≤16777216):Bi Tryz.prog 45 [.one (Aa xs)] [.one (vi (Sj xs))]:=by
 refine Bd A0 false Tryz.func45 rfl Aw fun W=>?_
 conv=>whnf
 refine Bv A0 false [] (fun k:Nat=>[(3,.c (vi (Sj (xs.take k)))),(4,.c (vi k))]) (fun k=>[]) (fun k=>[])
  (fun k=>k≤xs.length) (fun k=>xs.length-k) 0 (Nat.zero_le _) ⟨F3,F3,trivial⟩ trivial trivial Cj A7 (fun k hk=>?_)
 conv=>whnf
 refine Es (fun h=>?_) fun h=>?_<;>conv=>whnf
 ·have h:k<xs.length:=by omega
  (repeat refine Am ?_)
  refine Az (A9l (Sj (xs.take k)) (xs.getD k default).stamp.turn) rfl (A8 ?_)
  (repeat refine Am ?_)
  refine B6 [] (k+1) Ab Ab ⟨congrArg (fun n=>AV.c (vi n)) (Vt xs k h).symm,rfl,trivial⟩ trivial trivial A7 Cj A7
 rw [E6 xs k Ab]
 repeat refine B7 ?_
 refine B2 A0 rfl rfl ?_
 exact At
theorem Kr (xs:List A9)(hx:xs.length≤16777216):Bi Tryz.prog 44 [.one (Aa xs)] [.one (vi (Sj xs))]:=by
 refine Bd A0 false Tryz.func44 rfl Aw fun W=>?_
 conv=>whnf
 refine Bv A0 false [] (fun k:Nat=>[(3,.c (vi (Sj (xs.take k)))),(8,.c (vi k))]) (fun k=>[]) (fun k=>[])
  (fun k=>k≤xs.length) (fun k=>xs.length-k) 0 (Nat.zero_le _) ⟨F3,F3,trivial⟩ trivial trivial Cj A7 (fun k hk=>?_)
 conv=>whnf
 refine Es (fun h=>?_) fun h=>?_<;>conv=>whnf
 ·have h:k<xs.length:=by omega
  (repeat refine Am ?_)
  refine B6 [] (k+1) Ab Ab ⟨congrArg (fun n=>AV.c (vi n)) (by rw [Vt xs k h];simp only [Int.toNat_natCast,A6s]),rfl,trivial⟩ trivial trivial A7 Cj A7
 rw [E6 xs k Ab]
 repeat refine B7 ?_
 refine B2 A0 rfl rfl ?_
 exact At
theorem A7d (x:A6)(h:x.w≤16777216):Bi Tryz.prog 36 [.agg x.c] [.one (vi (Gn (fun l:B8=>l.got) x.links))]:=by
 have hl:=A6.links_le h
 refine Bd A0 false Tryz.func36 rfl Aw fun W=>?_
 conv=>whnf
 refine Bv A0 true [] (fun k:Nat=>[(3,.c (vi (Gn (fun l:B8=>l.got) (x.links.take k)))),(4,.c (vi k))]) (fun k=>[⟨0,[.c (Br x.graph.nodes),.c (vi x.graph.workers),.c (vi x.graph.cap),.c (Ar x.workers),.c (Ct x.links),.c (C9 x.tokens),.c (Ch x.news)]⟩]) (fun k=>[])
  (fun k=>k≤x.links.length) (fun k=>x.links.length-k) 0 (Nat.zero_le _) ⟨F3,F3,trivial⟩ Cf trivial Cj A7 (fun k hk=>?_)
 conv=>whnf
 refine Es (fun h=>?_) fun h=>?_<;>conv=>whnf
 ·have h:k<x.links.length:=by omega
  (repeat refine Am ?_)
  refine B6 [] (k+1) Ab Ab ⟨congrArg (fun n=>AV.c (vi n)) (Io (fun l:B8=>l.got) _ k h).symm,congrArg (fun n=>AV.c (vi n)) (Ir k Ab),trivial⟩ trivial Cf A7 Cj A7
 exact B2 A0 rfl rfl ⟨congrArg vi (congrArg _ (E6 x.links k Ab).symm),trivial⟩
theorem X3 (x:A6)(h:x.w≤16777216):Bi Tryz.prog 35 [.agg x.c] [.one (vi (Gn (fun l:B8=>l.got) x.links))]:=by
 have hl:=A6.links_le h
 refine Bd A0 false Tryz.func35 rfl Aw fun W=>?_
 conv=>whnf
 refine Bv A0 true [] (fun k:Nat=>[(3,.c (vi (Gn (fun l:B8=>l.got) (x.links.take k)))),(9,.c (vi k))]) (fun k=>[⟨0,[.c (Br x.graph.nodes),.c (vi x.graph.workers),.c (vi x.graph.cap),.c (Ar x.workers),.c (Ct x.links),.c (C9 x.tokens),.c (Ch x.news)]⟩]) (fun k=>[])
  (fun k=>k≤x.links.length) (fun k=>x.links.length-k) 0 (Nat.zero_le _) ⟨F3,F3,trivial⟩ Cf trivial Cj A7 (fun k hk=>?_)
 conv=>whnf
 refine Es (fun h=>?_) fun h=>?_<;>conv=>whnf
 ·have h:k<x.links.length:=by omega
  (repeat refine Am ?_)
  refine B6 [] (k+1) Ab Ab ⟨congrArg (fun n=>AV.c (vi n)) (Io (fun l:B8=>l.got) _ k h).symm,congrArg (fun n=>AV.c (vi n)) (Ir k Ab),trivial⟩ trivial Cf A7 Cj A7
 exact B2 A0 rfl rfl ⟨congrArg vi (congrArg _ (E6 x.links k Ab).symm),trivial⟩
theorem A3n (x:A6)(h:x.w≤16777216):Bi Tryz.prog 34 [.agg x.c] [.one (vi (Gn (fun l:B8=>l.sent) x.links))]:=by
 have hl:=A6.links_le h
 refine Bd A0 false Tryz.func34 rfl Aw fun W=>?_
 conv=>whnf
 refine Bv A0 true [] (fun k:Nat=>[(3,.c (vi (Gn (fun l:B8=>l.sent) (x.links.take k)))),(4,.c (vi k))]) (fun k=>[⟨0,[.c (Br x.graph.nodes),.c (vi x.graph.workers),.c (vi x.graph.cap),.c (Ar x.workers),.c (Ct x.links),.c (C9 x.tokens),.c (Ch x.news)]⟩]) (fun k=>[])
  (fun k=>k≤x.links.length) (fun k=>x.links.length-k) 0 (Nat.zero_le _) ⟨F3,F3,trivial⟩ Cf trivial Cj A7 (fun k hk=>?_)
 conv=>whnf
 refine Es (fun h=>?_) fun h=>?_<;>conv=>whnf
 ·have h:k<x.links.length:=by omega
  (repeat refine Am ?_)
  refine B6 [] (k+1) Ab Ab ⟨congrArg (fun n=>AV.c (vi n)) (Io (fun l:B8=>l.sent) _ k h).symm,congrArg (fun n=>AV.c (vi n)) (Ir k Ab),trivial⟩ trivial Cf A7 Cj A7
 exact B2 A0 rfl rfl ⟨congrArg vi (congrArg _ (E6 x.links k Ab).symm),trivial⟩
theorem U4 (x:A6)(h:x.w≤16777216):Bi Tryz.prog 33 [.agg x.c] [.one (vi (Gn (fun l:B8=>l.sent) x.links))]:=by
 have hl:=A6.links_le h
 refine Bd A0 false Tryz.func33 rfl Aw fun W=>?_
 conv=>whnf
 refine Bv A0 true [] (fun k:Nat=>[(3,.c (vi (Gn (fun l:B8=>l.sent) (x.links.take k)))),(9,.c (vi k))]) (fun k=>[⟨0,[.c (Br x.graph.nodes),.c (vi x.graph.workers),.c (vi x.graph.cap),.c (Ar x.workers),.c (Ct x.links),.c (C9 x.tokens),.c (Ch x.news)]⟩]) (fun k=>[])
  (fun k=>k≤x.links.length) (fun k=>x.links.length-k) 0 (Nat.zero_le _) ⟨F3,F3,trivial⟩ Cf trivial Cj A7 (fun k hk=>?_)
 conv=>whnf
 refine Es (fun h=>?_) fun h=>?_<;>conv=>whnf
 ·have h:k<x.links.length:=by omega
  (repeat refine Am ?_)
  refine B6 [] (k+1) Ab Ab ⟨congrArg (fun n=>AV.c (vi n)) (Io (fun l:B8=>l.sent) _ k h).symm,congrArg (fun n=>AV.c (vi n)) (Ir k Ab),trivial⟩ trivial Cf A7 Cj A7
 exact B2 A0 rfl rfl ⟨congrArg vi (congrArg _ (E6 x.links k Ab).symm),trivial⟩
theorem Z6 (x:A6)(h:x.w≤16777216):Bi Tryz.prog 30 [.agg x.c] [.one (vi (Gn (fun l:B8=>(l.queue.length:Int)) x.links))]:=by
 have hl:=A6.links_le h
 refine Bd A0 false Tryz.func30 rfl Aw fun W=>?_
 conv=>whnf
 refine Bv A0 true [] (fun k:Nat=>[(3,.c (vi (Gn (fun l:B8=>(l.queue.length:Int)) (x.links.take k)))),(4,.c (vi k))]) (fun k=>[⟨0,[.c (Br x.graph.nodes),.c (vi x.graph.workers),.c (vi x.graph.cap),.c (Ar x.workers),.c (Ct x.links),.c (C9 x.tokens),.c (Ch x.news)]⟩]) (fun k=>[])
  (fun k=>k≤x.links.length) (fun k=>x.links.length-k) 0 (Nat.zero_le _) ⟨F3,F3,trivial⟩ Cf trivial Cj A7 (fun k hk=>?_)
 conv=>whnf
 refine Es (fun h=>?_) fun h=>?_<;>conv=>whnf
 ·have h:k<x.links.length:=by omega
  (repeat refine Am ?_)
  refine B6 [] (k+1) Ab Ab ⟨congrArg (fun n=>AV.c (vi n)) (Io (fun l:B8=>(l.queue.length:Int)) _ k h).symm,congrArg (fun n=>AV.c (vi n)) (Ir k Ab),trivial⟩ trivial Cf A7 Cj A7
 exact B2 A0 rfl rfl ⟨congrArg vi (congrArg _ (E6 x.links k Ab).symm),trivial⟩
theorem Lx (x:A6)(h:x.w≤16777216):Bi Tryz.prog 29 [.agg x.c] [.one (vi (Gn (fun l:B8=>(l.queue.length:Int)) x.links))]:=by
 have hl:=A6.links_le h
 refine Bd A0 false Tryz.func29 rfl Aw fun W=>?_
 conv=>whnf
 refine Bv A0 true [] (fun k:Nat=>[(3,.c (vi (Gn (fun l:B8=>(l.queue.length:Int)) (x.links.take k)))),(9,.c (vi k))]) (fun k=>[⟨0,[.c (Br x.graph.nodes),.c (vi x.graph.workers),.c (vi x.graph.cap),.c (Ar x.workers),.c (Ct x.links),.c (C9 x.tokens),.c (Ch x.news)]⟩]) (fun k=>[])
  (fun k=>k≤x.links.length) (fun k=>x.links.length-k) 0 (Nat.zero_le _) ⟨F3,F3,trivial⟩ Cf trivial Cj A7 (fun k hk=>?_)
 conv=>whnf
 refine Es (fun h=>?_) fun h=>?_<;>conv=>whnf
 ·have h:k<x.links.length:=by omega
  (repeat refine Am ?_)
  refine B6 [] (k+1) Ab Ab ⟨congrArg (fun n=>AV.c (vi n)) (Io (fun l:B8=>(l.queue.length:Int)) _ k h).symm,congrArg (fun n=>AV.c (vi n)) (Ir k Ab),trivial⟩ trivial Cf A7 Cj A7
 exact B2 A0 rfl rfl ⟨congrArg vi (congrArg _ (E6 x.links k Ab).symm),trivial⟩
theorem Wc (x:A6)(h:x.w≤16777216):Bi Tryz.prog 32 [.agg x.c] [.one (vi ((x.workers.map I9).sum:Nat))]:=by
 have hl:=A6.workers_le h
 refine Bd A0 false Tryz.func32 rfl Aw fun W=>?_
 conv=>whnf
 refine Bv A0 false [] (fun k:Nat=>[(3,.c (vi (((x.workers.take k).map I9).sum:Nat))),(4,.c (vi k))]) (fun k=>[⟨0,[.c (Br x.graph.nodes),.c (vi x.graph.workers),.c (vi x.graph.cap),.c (Ar x.workers),.c (Ct x.links),.c (C9 x.tokens),.c (Ch x.news)]⟩]) (fun k=>[])
  (fun k=>k≤x.workers.length) (fun k=>x.workers.length-k) 0 (Nat.zero_le _) ⟨F3,F3,trivial⟩ Cf trivial Cj A7 (fun k hk=>?_)
 conv=>whnf
 refine Es (fun h=>?_) fun h=>?_<;>conv=>whnf
 ·have h:k<x.workers.length:=by omega
  have h1:=Zh I9 x.workers k h
  have h2:=Go.Sx.A6.worker_le (by assumption) h
  have h3:=Vp I9 Ac.w (x.workers.take k) Qd
  have h4:(x.workers.getD k default).queue.length+(x.workers.getD k default).staged.length≤(x.workers.getD k default).w:=Qd _
  have h5:I9 (x.workers.getD k default)=(x.workers.getD k default).queue.length+(x.workers.getD k default).staged.length:=rfl
  first|(refine B5 5 rfl [0,1,2,3,4,5,6,7,8,9,10,11,12,13,14,15,16,17] A7 (A8 ?_))
  (repeat refine Am ?_)
  refine B6 [] (k+1) Ab Ab ⟨congrArg (fun n=>AV.c (vi n)) (by simp only [Int.toNat_natCast];omega),rfl,trivial⟩ trivial Cf A7 Cj A7
 exact B2 A0 rfl rfl ⟨congrArg (fun l:List Ac=>vi ((l.map I9).sum:Nat)) (E6 x.workers k Ab).symm,trivial⟩
theorem O6 (x:A6)(h:x.w≤16777216):Bi Tryz.prog 31 [.agg x.c] [.one (vi ((x.workers.map I9).sum:Nat))]:=by
 have hl:=A6.workers_le h
 refine Bd A0 false Tryz.func31 rfl Aw fun W=>?_
 conv=>whnf
 refine Bv A0 false [] (fun k:Nat=>[(3,.c (vi (((x.workers.take k).map I9).sum:Nat))),(9,.c (vi k))]) (fun k=>[⟨0,[.c (Br x.graph.nodes),.c (vi x.graph.workers),.c (vi x.graph.cap),.c (Ar x.workers),.c (Ct x.links),.c (C9 x.tokens),.c (Ch x.news)]⟩]) (fun k=>[])
  (fun k=>k≤x.workers.length) (fun k=>x.workers.length-k) 0 (Nat.zero_le _) ⟨F3,F3,trivial⟩ Cf trivial Cj A7 (fun k hk=>?_)
 conv=>whnf
 refine Es (fun h=>?_) fun h=>?_<;>conv=>whnf
 ·have h:k<x.workers.length:=by omega
  have h1:=Zh I9 x.workers k h
  have h2:=Go.Sx.A6.worker_le (by assumption) h
  have h3:=Vp I9 Ac.w (x.workers.take k) Qd
  have h4:(x.workers.getD k default).queue.length+(x.workers.getD k default).staged.length≤(x.workers.getD k default).w:=Qd _
  have h5:I9 (x.workers.getD k default)=(x.workers.getD k default).queue.length+(x.workers.getD k default).staged.length:=rfl
  (repeat refine Am ?_)
  refine B6 [] (k+1) Ab Ab ⟨congrArg (fun n=>AV.c (vi n)) (by simp only [Int.toNat_natCast];omega),rfl,trivial⟩ trivial Cf A7 Cj A7
 exact B2 A0 rfl rfl ⟨congrArg (fun l:List Ac=>vi ((l.map I9).sum:Nat)) (E6 x.workers k Ab).symm,trivial⟩
theorem B4m (a:Option Addr)(n cp:Nat):Bi Tryz.prog 5 [.one (.val (.slice a n cp))] [.one (vb (decide ((n:Int)>1_048_576)))]:=by
 refine Bd A0 false Tryz.func5 rfl Aw fun W=>?_
 conv=>whnf
 exact B2 A0 rfl rfl ⟨by rfl,trivial⟩
theorem U9 (x y:Int)(a b:List Int):Ja (x::a) (y::b)=if Fu x y≠0 then Fu x y else Ja a b:=by
 show (if Fu x y=0 then Ja a b else Fu x y)=_
 by_cases h:Fu x y=0
 ·rw [if_pos h,if_neg Ab]
 rw [if_neg h,if_pos h]
theorem B0d (x y:Int):Ja [x] [y]=Fu x y:=by
 rw [U9]
 by_cases h:Fu x y=0
 ·rw [if_neg Ab,h];rfl
 rw [if_pos h]
theorem A03 (x y x' y':Int):Ja [x,y] [x',y']=if Fu x x'≠0 then Fu x x' else Fu y y':=by
 rw [U9,B0d]
theorem A22 (x y z x' y' z':Int):Ja [x,y,z] [x',y',z']=if Fu x x'≠0 then Fu x x' else if Fu y y'≠0 then Fu y y' else Fu z z':=by
 rw [U9,A03]
theorem U5 (a b:Bs):Bi Tryz.prog 171 [.agg a.c,.agg b.c] [.one (vi (De a b))]:=by
 refine Bd A0 false Tryz.func171 rfl Aw fun W=>?_
 conv=>whnf
 refine Em 2 (Ap [a.epoch,a.turn]) rfl (Ba rfl Cf) ?_
 refine Em 3 (Ap [b.epoch,b.turn]) rfl (Ba rfl Cf) ?_
 rw [show De a b=Ja [a.epoch,a.turn] [b.epoch,b.turn] from (A03 _ _ _ _).symm]
 refine Az (Rs [a.epoch,a.turn] [b.epoch,b.turn] rfl (by simp only [List.length_cons,List.length_nil];omega)) rfl (A8 ?_)
 refine B2 A0 rfl rfl ?_
 exact At
theorem Sn (a b:A9):Bi Tryz.prog 134 [.agg a.c,.agg b.c] [.one (vi (G2 a b))]:=by
 refine Bd A0 false Tryz.func134 rfl Aw fun W=>?_
 conv=>whnf
 refine Az (U5 a.stamp b.stamp) rfl (A8 ?_)
 refine ⟨fun h=>have h:=bne_iff_ne.1 h;?_,fun h=>have h:=bne_eq_false_iff_eq.1 h;?_⟩<;>conv=>whnf
 ·rw [show G2 a b=De a.stamp b.stamp from if_pos h]
  repeat refine B7 ?_
  refine B2 A0 rfl rfl ?_
  exact At
 repeat refine B7 ?_
 refine Em 2 (Ap [a.op,a.key,a.val]) rfl (Ba rfl Cf) ?_
 refine Em 3 (Ap [b.op,b.key,b.val]) rfl (Ba rfl Cf) ?_
 have e:G2 a b=Ja [a.op,a.key,a.val] [b.op,b.key,b.val]:=by
  rw [A22]
  unfold G2
  rw [if_neg Ab]
 rw [e]
 refine Az (Rs [a.op,a.key,a.val] [b.op,b.key,b.val] rfl (by simp only [List.length_cons,List.length_nil];omega)) rfl (A8 ?_)
 refine B2 A0 rfl rfl ?_
 exact At
end Go.Proofs.YtdendlkeiaccpaaGreat
