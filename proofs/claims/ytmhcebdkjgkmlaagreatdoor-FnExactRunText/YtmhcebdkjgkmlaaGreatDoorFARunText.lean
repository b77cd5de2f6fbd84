/- Part 22 of the proof that the law FnExactRunText returns true for every input. No conditions. -/
import Derived.Test.YtmhcebdkjgkmlaaGreatDoorP19
import Derived.Test.YtmhcebdkjgkmlaaGreatDoorTie
import Derived.Test.YtmhcebdkjgkmlaaGreatDoorCards
import Derived.LaidMore
import Derived.Stop.LaidErr
import Derived.Lib.LaidTab
import Derived.SevenTiedAt
import Derived.Deep.DeepHandedRow
import Derived.Lay
import Derived.Test.YtmhcebdkjgkmlaaGreatDoorRows
import Derived.ProofKit
import Derived.OpenShut
import Derived.ShutString
import Derived.ChangeOld
import Derived.Below

set_option linter.unusedSimpArgs false
set_option linter.unusedVariables false
set_option maxRecDepth 100000
namespace Go.Proofs.YtmhcebdkjgkmlaaGreatDoor
open Go.Sx
theorem law (x0:ByteArray)(_o0:x0.size≤maxLen):Dy Tryz.prog Vb 5 [.one (vs x0)] [.one (vb true)]:=by
 refine Ga A0 false Tryz.func5 rfl Cw fun W hW=>?_;conv=>whnf
 refine ⟨fun h=>?_,fun h=>?_⟩<;>simp only [J7,Mk] at h<;>conv=>whnf
 ·exact An A0 rfl rfl ⟨rfl,trivial⟩
 have h0:x0.size≤1048576:=by omega
 have hb0:(Qk x0).1.length≤1048576:=Ew (C4i x0) Cw;have hr0:=C2b ((Qk x0).1);refine F0 (B71 x0 h0) ?_;refine To (A1h x0 h0) B3 hW rfl (Aj ?_);refine F0 (B1f ((Qk x0).1) hb0) ?_
 repeat (first|(refine Hf R4 ?_;conv=>whnf)|(refine ⟨fun h=>absurd h ab8,fun _=>?_⟩;conv=>whnf)|(refine I3 R4 ?_;conv=>whnf))
 repeat (first|(refine Hf R4 ?_;conv=>whnf)|(refine ⟨fun h=>absurd h ab8,fun _=>?_⟩;conv=>whnf)|(refine I3 R4 ?_;conv=>whnf))
 refine C5r (A4j ((Qk x0).1) (1) A7 A7) rfl trivial rfl rfl rfl (Aj ?_);refine F0 (Rg ((Qk x0).1) (1) A7 A7) ?_
 repeat (first|(refine Hf R4 ?_;conv=>whnf)|(refine ⟨fun h=>absurd h ab8,fun _=>?_⟩;conv=>whnf)|(refine I3 R4 ?_;conv=>whnf))
 repeat (first|(refine Hf R4 ?_;conv=>whnf)|(refine ⟨fun h=>absurd h ab8,fun _=>?_⟩;conv=>whnf)|(refine I3 R4 ?_;conv=>whnf))
 refine Dt (A1h x0 h0) B3 hW rfl (Aj ?_);refine F0 (B1f ((Qk x0).1) hb0) ?_
 repeat (first|(refine Hf R4 ?_;conv=>whnf)|(refine ⟨fun h=>absurd h ab8,fun _=>?_⟩;conv=>whnf)|(refine I3 R4 ?_;conv=>whnf))
 repeat (first|(refine Hf R4 ?_;conv=>whnf)|(refine ⟨fun h=>absurd h ab8,fun _=>?_⟩;conv=>whnf)|(refine I3 R4 ?_;conv=>whnf))
 refine F0 (Rg ((Qk x0).1) (1) A7 A7) ?_
 repeat (first|(refine Hf R4 ?_;conv=>whnf)|(refine ⟨fun h=>absurd h ab8,fun _=>?_⟩;conv=>whnf)|(refine I3 R4 ?_;conv=>whnf))
 repeat (first|(refine Hf R4 ?_;conv=>whnf)|(refine ⟨fun h=>absurd h ab8,fun _=>?_⟩;conv=>whnf)|(refine I3 R4 ?_;conv=>whnf))
 exact An A0 rfl rfl ⟨rfl,trivial⟩
end Go.Proofs.YtmhcebdkjgkmlaaGreatDoor
set_option maxRecDepth 100000
namespace Go.Proofs.YtmhcebdkjgkmlaaGreatDoor
open Go.ChangeShapes Go.WideShapes Go.ChangeAt Go.RowKit
open Go.Sx
theorem own:ownKnob Tryz.prog.godebug=none:=by kernel_rfl
theorem Xi:laidOutB Tryz.prog=true:=by kernel_rfl
theorem Q7 {w w':World}{e:Ending}(h:Jb w w' [.one (vb true)] e):e= .returned (.bool true)∧Go.RowKit.Below w.heap.size w w':=by
 obtain ⟨hb,rs,fps,he,hl,ho,_⟩:=h
 match rs,hl with
 | [r],_=>
  have:=ho 0 _ rfl
  simp only [X4] at this
  have e1:r= .bool true:=by
   change Bp w' (vb true) r (fps 0) at this
   generalize fps 0=g at this
   cases this;rfl
  subst e1;exact ⟨he,by first|exact hb|exact hb.kit⟩
theorem T4 {f:Nat}{cs:List Ag}(h:I5 Tryz.prog f 9 cs):∃x:ByteArray,x.size≤maxLen∧Wk cs ([vs x]):=by
 cases f with
 |zero=>exact h.elim
 |succ f=>
  simp only [I5,Tryz.underlying9] at h;obtain ⟨n,h1,rfl⟩:=h;exact ⟨n,h1,.refl _⟩
theorem Vq (os:Os)(args:Array Value):laidMetH Tryz.prog Rows.fnExactRunTextRow.laid ((World.laidAll Tryz.prog os Rows.fnExactRunTextRow.laid).forCall (fun _ _=>0) ⟨#[],args,[]⟩).memory:=by
 rw [MakeChecks.laidMetH_plain _ _ _ Ah];exact laidMet_laidAll _ Ah Ah
theorem Vt (u:TypeId)(h:Tryz.prog.typeName? 3 u=some "*errors.errorString"):u=326:=
 typeName_ptr_named (nm:= "errors.errorString") (by rw [show "*" ++ "errors.errorString" = "*errors.errorString" by decide];kernel_rfl) Ah Cw u (by rw [show "*" ++ "errors.errorString" = "*errors.errorString" by decide];exact h)
theorem Ou {W:World}(hsh:W.ShapedOpen Tryz.prog)(h:laidMetH Tryz.prog Rows.fnExactRunTextRow.laid W):Vb W:=by
 rw [MakeChecks.laidMetH_plain _ _ _ Ah] at h;obtain ⟨a,_,h1,_⟩:=laid_sentinel (g:=6) (ti:=207) (tp:=326) (te:=328) (ts:=9) (show laidMet Tryz.prog (("strconv.ErrSyntax",Rows.laid_strconv_ErrSyntax)::[("unicode.White_Space",Rows.laid_unicode_White_Space),("strings.asciiSpace",Rows.laid_strings_asciiSpace),("unicode/utf8.first",Rows.laid_unicode_utf8_first)]) W from laidMet.tail (laidMet.tail (laidMet.tail (laidMet.tail (laidMet.tail (show laidMet Tryz.prog Rows.fnExactRunTextRow.laid W from h)))))) Ah Ah Tryz.underlying207 Vt Tryz.underlying326 Tryz.underlying328 rfl rfl Tryz.underlying9 Ah Ah
 obtain ⟨b,_,h2,_⟩:=laid_sentinel (g:=7) (ti:=207) (tp:=326) (te:=328) (ts:=9) (show laidMet Tryz.prog (("strconv.ErrRange",Rows.laid_strconv_ErrRange)::[("strconv.ErrSyntax",Rows.laid_strconv_ErrSyntax),("unicode.White_Space",Rows.laid_unicode_White_Space),("strings.asciiSpace",Rows.laid_strings_asciiSpace),("unicode/utf8.first",Rows.laid_unicode_utf8_first)]) W from laidMet.tail (laidMet.tail (laidMet.tail (laidMet.tail (show laidMet Tryz.prog Rows.fnExactRunTextRow.laid W from h))))) Ah Ah Tryz.underlying207 Vt Tryz.underlying326 Tryz.underlying328 rfl rfl Tryz.underlying9 Ah Ah
 exact ⟨Lib.tabIs_of_head (g:=3) (t:=302) (e:=266) (n:=20) Ah Ah Tryz.underlying302 Tryz.underlying266 Ah Ah (show laidMet Tryz.prog (("internal/strconv.uint64pow10",Lib.tabData .u64 Lib.pow10Tab)::[("unicode/utf8.acceptRanges",Rows.laid_unicode_utf8_acceptRanges),("strconv.ErrRange",Rows.laid_strconv_ErrRange),("strconv.ErrSyntax",Rows.laid_strconv_ErrSyntax),("unicode.White_Space",Rows.laid_unicode_White_Space),("strings.asciiSpace",Rows.laid_strings_asciiSpace),("unicode/utf8.first",Rows.laid_unicode_utf8_first)]) W from laidMet.tail (laidMet.tail (show laidMet Tryz.prog Rows.fnExactRunTextRow.laid W from h))),Lib.tabIs_of_head (g:=0) (t:=203) (e:=5) (n:=256) Ah Ah Tryz.underlying203 Tryz.underlying5 Ah Ah (show laidMet Tryz.prog (("strings.asciiSpace",Lib.tabData .u8 Lib.asciiSpaceTab)::[("unicode/utf8.first",Rows.laid_unicode_utf8_first)]) W from laidMet.tail (laidMet.tail (laidMet.tail (laidMet.tail (laidMet.tail (laidMet.tail (laidMet.tail (show laidMet Tryz.prog Rows.fnExactRunTextRow.laid W from h)))))))),⟨_,_,h1⟩,⟨_,_,h2⟩,A1k.s1_3 W hsh⟩
set_option maxRecDepth 100000 in
theorem A7y (os:Os)(started:os.Started)(H:Type)(enc:TypeId×Value→H):
  ReturnsInHanded {} Tryz.checked os 5 .any (fun w args=>(Rows.fnExactRunTextSpec.pre enc Tryz.prog Tryz.f5 [] false w args∧laidMetH Tryz.prog Rows.fnExactRunTextRow.laid w)∧sizedMet enc Tryz.prog Tryz.f5 (OpenSpec.ofChange Rows.fnExactRunTextSpec) false w args)
   (Rows.fnExactRunTextSpec.post enc Tryz.prog Tryz.f5 false true false false):=by
 refine returnsInHanded_of_row (C:=Tryz.checked) (s:=OpenSpec.ofChange Rows.fnExactRunTextSpec) (F:=fun _ _ _=>0) own started Ah Tryz.func5
  (ChangeSpec.witness_shaped (enc:=enc) (C:=Tryz.checked) (os:=os) (X:=fun w _=>laidMetH Tryz.prog Rows.fnExactRunTextRow.laid w) false (World.laidAll Tryz.prog os Rows.fnExactRunTextRow.laid) #[.string ByteArray.empty] 8 (World.laidAll_os _ _ _) (World.shaped_of_ZipB Ah Ah) Ah Ah Ah (Vq os _)) ?_
 intro W base args ds gs before hval0 hW _ _ _ hL hsh _;have hval:∀(j:Nat) t v,Tryz.f5.params[j]? =some t→args[j]? =some v→Value.okWide Tryz.prog W .any base t v:=hval0;have hW':=hW;obtain ⟨p,q,hA0,hV,rfl,hfz,hnd⟩:=hW;have hA:DataW.TrodAll enc Tryz.prog W 0 (fun _=>true) true Tryz.f5.params.toList args.toList ds p:=hA0;rw [Tryz.params5] at hA hval;obtain ⟨v0,vs0,d0,ds0,p0,q0,hargs,rfl,rfl,t0,r0⟩:=trodAll_cons hA;obtain ⟨rfl,rfl,rfl⟩:=trodAll_nil r0;obtain rfl:args= #[v0]:=by cases args;simp_all
 obtain ⟨rfl,rfl⟩:=trodVars_none hV;obtain ⟨n0,rfl⟩:=okWide_string Tryz.underlying9 (hval 0 9 v0 rfl rfl);have k0:=t0;have lt0:∀x∈p0,x.block<W.heap.size:=by obtain ⟨m,hm⟩:=k0;exact DataW.trod_lt m _ _ _ hm
 obtain ⟨f0,hf0⟩:=t0;obtain ⟨xs0,rep0,sh0⟩:=A2c f0 9 _ _ 9 Ah hf0;obtain ⟨x0,o0,w0⟩:=T4 sh0
 clear hA0 hval0
 refine ((law x0 o0).2 W (Ou hsh hL) [_] rfl (fun i z hz=>?_)).mono fun e W' hg=>?_
 ·match i,hz with
  | 0,hz=>simp only [Fq,Ei] at hz;subst hz;exact (w0.repL rep0).arg1
  |i+1,hz=>simp at hz
 obtain ⟨he,bel⟩:=Q7 hg;subst he;exact ⟨_,rfl,_,_,_,[],_,[],hW',trodAll_mk1 (shut_bool Tryz.underlying4 _),(trodAll_cons_mk (Go.RowKit.Below.trod Xi Ah (Bj Ah) k0 bel lt0) trodAll_mk0),rfl,bel.frame _,fun h=>by cases h⟩
end Go.Proofs.YtmhcebdkjgkmlaaGreatDoor
