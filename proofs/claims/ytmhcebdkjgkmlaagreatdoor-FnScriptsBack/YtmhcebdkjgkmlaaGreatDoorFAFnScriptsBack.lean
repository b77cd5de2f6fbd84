/- Part 48 of the proof that the law FnScriptsBack returns true for every input. No conditions. -/
import Derived.Test.YtmhcebdkjgkmlaaGreatDoorR47
import Derived.Test.YtmhcebdkjgkmlaaGreatDoorTie
import Derived.Test.YtmhcebdkjgkmlaaGreatDoorCards
import Derived.LaidMore
import Derived.Stop.LaidErr
import Derived.Lib.LaidTab
import Derived.SevenTiedAt
import Derived.Deep.DeepHandedRow
import Derived.Lay
import Derived.Test.YtmhcebdkjgkmlaaGreatDoorRows
import Derived.ProofKit
import Derived.OpenShut
import Derived.ShutString
import Derived.ChangeOld
import Derived.Below

set_option linter.unusedSimpArgs false
set_option linter.unusedVariables false
set_option maxRecDepth 100000
namespace Go.Proofs.YtmhcebdkjgkmlaaGreatDoor
open Go.Sx
theorem law (x0:List UInt8)(_o0:x0.length≤maxLen):Ex Tryz.prog Tab 6 [.one (W6 x0)] [.one (vb true)]:=A8t x0
end Go.Proofs.YtmhcebdkjgkmlaaGreatDoor
set_option maxRecDepth 100000
namespace Go.Proofs.YtmhcebdkjgkmlaaGreatDoor
open Go.ChangeShapes Go.WideShapes Go.ChangeAt Go.RowKit
open Go.Sx
theorem own:ownKnob Tryz.prog.godebug=none:=by kernel_rfl
theorem C8s:laidOutB Tryz.prog=true:=by kernel_rfl
theorem B7j {w w':World}{e:Ending}(h:Jp w w' [.one (vb true)] e):e= .returned (.bool true)∧Go.RowKit.Below w.heap.size w w':=by
 obtain ⟨hb,rs,fps,he,hl,ho,_⟩:=h
 match rs,hl with
 | [r],_=>
  have:=ho 0 _ rfl
  simp only [Ue] at this
  have e1:r= .bool true:=by
   change Bz w' (vb true) r (fps 0) at this
   generalize fps 0=g at this
   cases this;rfl
  subst e1;exact ⟨he,by first|exact hb|exact hb.kit⟩
theorem C92 {f:Nat}{cs:List Ad}(h:Ka Tryz.prog f 5 cs):∃x:UInt8,True∧Wk cs ([vy x]):=by
 cases f with
 |zero=>exact h.elim
 |succ f=>
  simp only [Ka,Tryz.underlying5] at h;obtain ⟨n,h1,rfl⟩:=h;have h1:0≤n∧n≤255:=h1;have e:((UInt8.ofNat n.toNat).toNat:Int)=n:=by rw [UInt8.toNat_ofNat'];omega
  exact ⟨UInt8.ofNat n.toNat,trivial,by rw [show vy (UInt8.ofNat n.toNat)= .val (.int .u8 n) from A6 (fun m=>Ad.val (.int .u8 m)) e];exact .refl _⟩
theorem D29 {f:Nat}{cs:List Ad}(h:Ka Tryz.prog f 33 cs):∃x:List UInt8,x.length≤maxLen∧Wk cs ([W6 x]):=by
 cases f with
 |zero=>exact h.elim
 |succ f=>
  simp only [Ka,Tryz.underlying33] at h;obtain ⟨n,row,hn,rfl,hr⟩:=h;rw [show Tryz.prog.cellsOf 5=1 by kernel_rfl]
  obtain ⟨xs,hl,ho,hw⟩:=D2q (e:=(fun b=>[vy b])) (ok:=fun y=>True) (fun i hi=>C92 (hr i hi));exact ⟨xs,A7,hw⟩
theorem C4u (os:Os)(args:Array Value):laidMetH Tryz.prog Rows.fnScriptsBackRow.laid ((World.laidAll Tryz.prog os Rows.fnScriptsBackRow.laid).forCall (fun _ _=>0) ⟨#[],args,[]⟩).memory:=by
 rw [MakeChecks.laidMetH_plain _ _ _ Ak];exact laidMet_laidAll _ Ak Ak
theorem C43 (u:TypeId)(h:Tryz.prog.typeName? 3 u=some "*errors.errorString"):u=326:=
 typeName_ptr_named (nm:= "errors.errorString") (by rw [show "*" ++ "errors.errorString" = "*errors.errorString" by decide];kernel_rfl) Ak Bk u (by rw [show "*" ++ "errors.errorString" = "*errors.errorString" by decide];exact h)
theorem B6d {W:World}(hsh:W.ShapedOpen Tryz.prog)(h:laidMetH Tryz.prog Rows.fnScriptsBackRow.laid W):Tab W:=by
 rw [MakeChecks.laidMetH_plain _ _ _ Ak] at h;obtain ⟨a,_,h1,_⟩:=laid_sentinel (g:=6) (ti:=207) (tp:=326) (te:=328) (ts:=9) (show laidMet Tryz.prog (("strconv.ErrSyntax",Rows.laid_strconv_ErrSyntax)::[("unicode.White_Space",Rows.laid_unicode_White_Space),("strings.asciiSpace",Rows.laid_strings_asciiSpace),("unicode/utf8.first",Rows.laid_unicode_utf8_first)]) W from laidMet.tail (laidMet.tail (laidMet.tail (laidMet.tail (laidMet.tail (show laidMet Tryz.prog Rows.fnScriptsBackRow.laid W from h)))))) Ak Ak Tryz.underlying207 C43 Tryz.underlying326 Tryz.underlying328 rfl rfl Tryz.underlying9 Ak Ak
 obtain ⟨b,_,h2,_⟩:=laid_sentinel (g:=7) (ti:=207) (tp:=326) (te:=328) (ts:=9) (show laidMet Tryz.prog (("strconv.ErrRange",Rows.laid_strconv_ErrRange)::[("strconv.ErrSyntax",Rows.laid_strconv_ErrSyntax),("unicode.White_Space",Rows.laid_unicode_White_Space),("strings.asciiSpace",Rows.laid_strings_asciiSpace),("unicode/utf8.first",Rows.laid_unicode_utf8_first)]) W from laidMet.tail (laidMet.tail (laidMet.tail (laidMet.tail (show laidMet Tryz.prog Rows.fnScriptsBackRow.laid W from h))))) Ak Ak Tryz.underlying207 C43 Tryz.underlying326 Tryz.underlying328 rfl rfl Tryz.underlying9 Ak Ak
 exact ⟨Lib.tabIs_of_head (g:=3) (t:=302) (e:=266) (n:=20) Ak Ak Tryz.underlying302 Tryz.underlying266 Ak Ak (show laidMet Tryz.prog (("internal/strconv.uint64pow10",Lib.tabData .u64 Lib.pow10Tab)::[("unicode/utf8.acceptRanges",Rows.laid_unicode_utf8_acceptRanges),("strconv.ErrRange",Rows.laid_strconv_ErrRange),("strconv.ErrSyntax",Rows.laid_strconv_ErrSyntax),("unicode.White_Space",Rows.laid_unicode_White_Space),("strings.asciiSpace",Rows.laid_strings_asciiSpace),("unicode/utf8.first",Rows.laid_unicode_utf8_first)]) W from laidMet.tail (laidMet.tail (show laidMet Tryz.prog Rows.fnScriptsBackRow.laid W from h))),Lib.tabIs_of_head (g:=0) (t:=203) (e:=5) (n:=256) Ak Ak Tryz.underlying203 Tryz.underlying5 Ak Ak (show laidMet Tryz.prog (("strings.asciiSpace",Lib.tabData .u8 Lib.asciiSpaceTab)::[("unicode/utf8.first",Rows.laid_unicode_utf8_first)]) W from laidMet.tail (laidMet.tail (laidMet.tail (laidMet.tail (laidMet.tail (laidMet.tail (laidMet.tail (show laidMet Tryz.prog Rows.fnScriptsBackRow.laid W from h)))))))),⟨_,_,h1⟩,⟨_,_,h2⟩,B2a.s1_3 W hsh⟩
set_option maxRecDepth 100000 in
theorem D1a (os:Os)(started:os.Started)(H:Type)(enc:TypeId×Value→H):
  ReturnsInHanded {} Tryz.checked os 6 .any (fun w args=>(Rows.fnScriptsBackSpec.pre enc Tryz.prog Tryz.f6 [] false w args∧laidMetH Tryz.prog Rows.fnScriptsBackRow.laid w)∧sizedMet enc Tryz.prog Tryz.f6 (OpenSpec.ofChange Rows.fnScriptsBackSpec) false w args)
   (Rows.fnScriptsBackSpec.post enc Tryz.prog Tryz.f6 false true false false):=by
 refine returnsInHanded_of_row (C:=Tryz.checked) (s:=OpenSpec.ofChange Rows.fnScriptsBackSpec) (F:=fun _ _ _=>0) own started Ak Tryz.func6
  (ChangeSpec.witness_shaped (enc:=enc) (C:=Tryz.checked) (os:=os) (X:=fun w _=>laidMetH Tryz.prog Rows.fnScriptsBackRow.laid w) false (World.laidAll Tryz.prog os Rows.fnScriptsBackRow.laid) #[.slice none 0 0] 8 (World.laidAll_os _ _ _) (World.shaped_of_ZipB Ak Ak) Ak Ak Ak (C4u os _)) ?_
 intro W base args ds gs before hval0 hW _ _ _ hL hsh _;have hval:∀(j:Nat) t v,Tryz.f6.params[j]? =some t→args[j]? =some v→Value.okWide Tryz.prog W .any base t v:=hval0;have hW':=hW;obtain ⟨p,q,hA0,hV,rfl,hfz,hnd⟩:=hW;have hA:DataW.TrodAll enc Tryz.prog W 0 (fun _=>true) true Tryz.f6.params.toList args.toList ds p:=hA0;rw [Tryz.params6] at hA hval;obtain ⟨v0,vs0,d0,ds0,p0,q0,hargs,rfl,rfl,t0,r0⟩:=trodAll_cons hA;obtain ⟨rfl,rfl,rfl⟩:=trodAll_nil r0;obtain rfl:args= #[v0]:=by cases args;simp_all
 obtain ⟨rfl,rfl⟩:=trodVars_none hV;obtain ⟨a0,len0,cap0,rfl⟩:=okWide_slice Tryz.underlying33 (hval 0 33 v0 rfl rfl);have k0:=t0;have lt0:∀x∈p0,x.block<W.heap.size:=by obtain ⟨m,hm⟩:=k0;exact DataW.trod_lt m _ _ _ hm
 obtain ⟨f0,hf0⟩:=t0;obtain ⟨xs0,rep0,sh0⟩:=C7k f0 33 _ _ 9 Ak hf0;obtain ⟨x0,o0,w0⟩:=D29 sh0
 clear hA0 hval0
 refine ((law x0 o0).2 W (B6d hsh hL) [_] rfl (fun i z hz=>?_)).mono fun e W' hg=>?_
 ·match i,hz with
  | 0,hz=>simp only [H3,Em] at hz;subst hz;exact (w0.repL rep0).arg1
  |i+1,hz=>simp at hz
 obtain ⟨he,bel⟩:=B7j hg;subst he;exact ⟨_,rfl,_,_,_,[],_,[],hW',trodAll_mk1 (shut_bool Tryz.underlying4 _),(trodAll_cons_mk (Go.RowKit.Below.trod C8s Ak (Bp Ak) k0 bel lt0) trodAll_mk0),rfl,bel.frame _,fun h=>by cases h⟩
end Go.Proofs.YtmhcebdkjgkmlaaGreatDoor
