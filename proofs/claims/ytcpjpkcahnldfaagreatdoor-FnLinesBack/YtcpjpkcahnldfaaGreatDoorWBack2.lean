/- Texts for the law FnLinesBack: WBack2. No conditions. -/
import Derived.Test.YtcpjpkcahnldfaaGreatDoorWBack0
import Derived.Test.YtcpjpkcahnldfaaGreatDoorWBack
import Derived.Test.YtcpjpkcahnldfaaGreatDoorWGraph
import Derived.Test.YtcpjpkcahnldfaaGreatDoorWDr29
import Derived.Test.YtcpjpkcahnldfaaGreatDoorWDrG
import Derived.Test.YtcpjpkcahnldfaaGreatDoorWSame
import Derived.Test.YtcpjpkcahnldfaaGreatDoorWRnd2
import Derived.Test.YtcpjpkcahnldfaaGreatDoorWRnd3
import Derived.Test.YtcpjpkcahnldfaaGreatDoorWRpk2

set_option maxRecDepth 100000
namespace Go.Proofs.YtcpjpkcahnldfaaGreatDoor
open Go.Sx
/-- A nil slice within an argument is taken for an empty one. -/
theorem nilCA {P : Program} {B : Base} {Q : Exit → Act → World → Prop} {q : Bool} {f : FuncId} {xs ys : List AV} {dst : Option Tmp} {K : List KI} {s : AS} (i j es : Nat) (row : Nat → List Cell) (hi : nth xs i = .agg ys) (hj : nth ys j = .c (.val (.slice none 0 0)))
    (h : CW P B Q q f (setNth xs i (.agg (setNth ys j (.c (.sl 0 es row))))) dst K s) : CW P B Q q f xs dst K s := by
  obtain ⟨h⟩ := h
  refine ⟨h.1, fun E a w hs vs hl hv => h.2 E a w hs vs (by rw [setNth_length]; exact hl) fun m z hz => ?_⟩
  rw [setNth_get] at hz
  split at hz
  · rename_i hm
    obtain ⟨rfl, hm⟩ := hm
    obtain rfl := Option.some.inj hz
    have hd := hv i (.agg ys) (by rw [nth_get, List.getElem?_eq_getElem hm] at hi; rw [List.getElem?_eq_getElem hm]; simpa using hi)
    generalize vs.getD i undef = v at hd
    cases hd with
    | agg ws hwl hw =>
      refine .agg ws (by rw [setNth_length]; exact hwl) fun n y hy => ?_
      rw [setNth_get] at hy
      split at hy
      · rename_i hn
        obtain ⟨rfl, hn⟩ := hn
        obtain rfl := Option.some.inj hy
        have hd2 := hw j (.c (.val (.slice none 0 0))) (by rw [nth_get, List.getElem?_eq_getElem hn] at hj; rw [List.getElem?_eq_getElem hn]; simpa using hj)
        rw [den_int hd2]
        exact .c (.nil es row)
      · exact hw n y hy
  · exact hv m z hz
theorem neq_nil {s : ByteArray} (h : s ≠ (⟨#[]⟩ : ByteArray)) : (s != (⟨#[]⟩ : ByteArray)) = true := by
  have h0 : (s == (⟨#[]⟩ : ByteArray)) = false := Bool.eq_false_iff.2 fun e => h (ba_eq e)
  rw [bne, h0]
  rfl
theorem readPickV_ok (s : ByteArray) : (readPickV s).ok := by
  unfold readPickV
  split
  · rename_i k e
    have hk := List.mem_range.1 (List.find?_range_eq_some.1 e).2.1
    have h1 := numAt_range (partsL s) 1
    have h2 := pickS_b s k
    exact ⟨in_mk (by show _ ≤ (k : Int) + 1; omega) (by show (k : Int) + 1 ≤ _; omega), in_mk (by show _ ≤ numAt _ _; omega) (by show numAt _ _ ≤ _; omega), in_mk (by omega) (by omega)⟩
  · exact ⟨in_mk (by decide) (by decide), in_mk (by decide) (by decide), in_mk (by decide) (by decide)⟩
theorem out_line : nodeLine ⟨8, 0, 0, []⟩ = (⟨#[110, 111, 100, 101, 32, 111, 117, 116, 32, 48, 32, 48]⟩ : ByteArray) := by
  have e : dec 0 = (⟨#[48]⟩ : ByteArray) := by
    rw [dec, Lib.itoa, if_neg (by decide), Lib.decDigits, dif_pos (by decide)]
    rfl
  rw [nodeLine, if_pos (by decide), nodeText]
  show (⟨#[110, 111, 100, 101, 32]⟩ : ByteArray) ++ ((⟨#[111, 117, 116]⟩ : ByteArray) ++ (⟨#[32]⟩ : ByteArray) ++ dec 0 ++ (⟨#[32]⟩ : ByteArray) ++ dec 0) = _
  rw [e]
  rfl
theorem node_law (x : GNode) (hs : (nodeLine x).size ≤ 200) : (readNodeB ((⟨#[32, 32]⟩ : ByteArray) ++ nodeLine x ++ (⟨#[32]⟩ : ByteArray)) == (nodeLine x != (⟨#[]⟩ : ByteArray))) = true ∧ (readNodeB ((⟨#[32, 32]⟩ : ByteArray) ++ nodeLine x ++ (⟨#[32]⟩ : ByteArray)) = true → readNodeV ((⟨#[32, 32]⟩ : ByteArray) ++ nodeLine x ++ (⟨#[32]⟩ : ByteArray)) = x) := by
  by_cases h : NodeP x
  · obtain ⟨h1, h2⟩ := node_back h hs
    obtain ⟨h3, h4⟩ := readNode_is h1
    rw [h3, h4, neq_nil (nodeLine_ne h), h2]
    exact ⟨rfl, fun _ => rfl⟩
  · obtain ⟨h3, h4⟩ := readNode_not (node_not h)
    rw [h4, nodeLine_nil h]
    exact ⟨by decide, fun e => by cases e⟩
theorem rec_law (x : GRecord) (hs : (inputLine x).size ≤ 200) : (readInB ((⟨#[32]⟩ : ByteArray) ++ inputLine x) == (inputLine x != (⟨#[]⟩ : ByteArray))) = true ∧ (readInB ((⟨#[32]⟩ : ByteArray) ++ inputLine x) = true → readInV ((⟨#[32]⟩ : ByteArray) ++ inputLine x) = x) := by
  by_cases h : RecP x ∧ x.op = 0 ∧ x.stamp.turn = 0
  · obtain ⟨h1, h2⟩ := rec_back h hs
    rw [readInV, if_pos h1, readInB, decide_eq_true h1, neq_nil (inputLine_ne h), h2]
    exact ⟨rfl, fun _ => rfl⟩
  · have h1 := rec_not h
    rw [readInB, decide_eq_false h1, inputLine_nil h]
    exact ⟨by decide, fun e => by cases e⟩
theorem out_ok : (⟨8, 0, 0, []⟩ : GNode).ok := ⟨in_mk (by decide) (by decide), in_mk (by decide) (by decide), in_mk (by decide) (by decide), Nat.zero_le _, fun _ h => by cases h⟩
set_option maxHeartbeats 4000000 in
theorem fnLinesBack (xs : List UInt8) : MeetsT Tryz.prog Tab 4 [.one (sByte xs)] [.one (vb true)] := by
  refine enterVT tbl_ok false Tryz.func4 rfl (by decide) fun W hW a cp hp => ?_
  conv => whnf
  have hH : ∀ w, Base.rel ⟨W, fun _ => False⟩ w → HT w := fun _ _ => trivial
  refine callR (lawBig a xs.length cp) rfl (go tbl_ok false ?_)
  conv => whnf
  refine ⟨fun hb => ?_, fun hb => ?_⟩ <;> conv => whnf
  · exact retW tbl_ok rfl rfl ⟨rfl, trivial⟩
  have hb : (xs.length : Int) ≤ 1048576 := by have := of_decide_eq_false hb; omega
  let d : DCode := ⟨a, xs.length, cp, fun i => (xs.getD i default).toNat, fun i => by have := (xs.getD i default).toNat_lt; omega, by omega⟩
  have hp : Pins ⟨W, fun _ => False⟩ d.pins := hp
  refine callC1 (drawNL d) hH hp rfl (fun x hx => go tbl_ok false ?_)
  conv => whnf
  have hxw : x.w ≤ 1048576 := Nat.le_trans hx.2 (by decide)
  have hs := nodeLine_small hx
  refine callRT (implNodeLine x hx.1 hxw) tabStays hW rfl (go tbl_ok false ?_)
  conv => whnf
  (repeat (refine ⟨by first | omega | (show _ ∧ _; omega) | ((repeat (first | rw [ByteArray.size_append] | rw [bsz] | rw [List.size_toArray] | rw [List.length_cons] | rw [List.length_nil])) <;> omega) | ((repeat rw [Int.toNat_natCast]) <;> first | omega | (show _ ∧ _; omega)) | (simp only [ByteArray.size_append, bsz, List.size_toArray, List.length_cons, List.length_nil]; omega) | (simp only [Int.toNat_natCast]; first | omega | (show _ ∧ _; omega)) | decide, ?_⟩; conv => whnf))
  have hs1 : ((⟨#[32, 32]⟩ : ByteArray) ++ nodeLine x ++ (⟨#[32]⟩ : ByteArray) : ByteArray).size ≤ 1048576 := by
    simp only [ByteArray.size_append, bsz, List.size_toArray, List.length_cons, List.length_nil]; omega
  refine callRT (implReadNode ((⟨#[32, 32]⟩ : ByteArray) ++ nodeLine x ++ (⟨#[32]⟩ : ByteArray)) hs1) tabStays hW rfl (go tbl_ok false ?_)
  conv => whnf
  refine callC1 (drawIL d) hH hp rfl (fun r hr => go tbl_ok false ?_)
  conv => whnf
  have ht := inputLine_small hr
  refine callRT (implInputLine r hr) tabStays hW rfl (go tbl_ok false ?_)
  conv => whnf
  (repeat (refine ⟨by first | omega | (show _ ∧ _; omega) | ((repeat (first | rw [ByteArray.size_append] | rw [bsz] | rw [List.size_toArray] | rw [List.length_cons] | rw [List.length_nil])) <;> omega) | ((repeat rw [Int.toNat_natCast]) <;> first | omega | (show _ ∧ _; omega)) | (simp only [ByteArray.size_append, bsz, List.size_toArray, List.length_cons, List.length_nil]; omega) | (simp only [Int.toNat_natCast]; first | omega | (show _ ∧ _; omega)) | decide, ?_⟩; conv => whnf))
  have ht1 : ((⟨#[32]⟩ : ByteArray) ++ inputLine r : ByteArray).size ≤ 1048576 := by
    simp only [ByteArray.size_append, bsz, List.size_toArray, List.length_cons, List.length_nil]; omega
  refine callRT (implReadInput ((⟨#[32]⟩ : ByteArray) ++ inputLine r) ht1) tabStays hW rfl (go tbl_ok false ?_)
  conv => whnf
  as_aux_lemma =>
    refine callC1 (drawPT d) hH hp rfl (fun p hpo => go tbl_ok false ?_)
    conv => whnf
    have hu := pickText_small hpo
    refine callR (specPickText p hpo) rfl (go tbl_ok false ?_)
    conv => whnf
    (repeat (refine ⟨by first | omega | (show _ ∧ _; omega) | ((repeat (first | rw [ByteArray.size_append] | rw [bsz] | rw [List.size_toArray] | rw [List.length_cons] | rw [List.length_nil])) <;> omega) | ((repeat rw [Int.toNat_natCast]) <;> first | omega | (show _ ∧ _; omega)) | (simp only [ByteArray.size_append, bsz, List.size_toArray, List.length_cons, List.length_nil]; omega) | (simp only [Int.toNat_natCast]; first | omega | (show _ ∧ _; omega)) | decide, ?_⟩; conv => whnf))
    have hu1 : (pickText p ++ (⟨#[32]⟩ : ByteArray) : ByteArray).size ≤ 1048576 := by
      simp only [ByteArray.size_append, bsz, List.size_toArray, List.length_cons, List.length_nil]; omega
    refine callRT (implReadPick (pickText p ++ (⟨#[32]⟩ : ByteArray)) hu1) tabStays hW rfl (go tbl_ok false ?_)
    conv => whnf
    as_aux_lemma =>
      refine callC1 (drawRN d) hH hp rfl (fun n hn => go tbl_ok false ?_)
      conv => whnf
      refine callRT (implReadNode n (by omega)) tabStays hW rfl (go tbl_ok false ?_)
      conv => whnf
      refine callR (specReadNode n (by omega)) rfl (go tbl_ok false ?_)
      conv => whnf
      refine callC1 (drawRI d) hH hp rfl (fun m hm => go tbl_ok false ?_)
      conv => whnf
      refine callRT (implReadInput m (by omega)) tabStays hW rfl (go tbl_ok false ?_)
      conv => whnf
      refine callR (specReadInput m (by omega)) rfl (go tbl_ok false ?_)
      conv => whnf
      as_aux_lemma =>
        refine callC1 (drawRP d) hH hp rfl (fun l hl => go tbl_ok false ?_)
        conv => whnf
        refine callRT (implReadPick l (by omega)) tabStays hW rfl (go tbl_ok false ?_)
        conv => whnf
        refine callR (specReadPick l (by omega)) rfl (go tbl_ok false ?_)
        conv => whnf
        refine callC1 (drawGL d) hH hp rfl (fun g hg => go tbl_ok false ?_)
        conv => whnf
        as_aux_lemma =>
          refine drawI 22 rfl [0, 1, 2, 3, 4, 5, 6, 7, 8, 9, 10, 11, 12, 13, 14, 15, 16, 17, 18, 19, 20, 21, 22, 23, 24, 25, 26, 27, 28, 29, 30, 31, 32, 33, 34, 35, 36, 37, 38, 39, 40, 41, 42, 43, 44, 46, 45, 47, 48, 49, 50, 51, 52, 53, 54, 55, 56, 57, 58, 59, 60, 61, 62, 63, 64, 65, 66, 67, 68, 69, 70, 71, 72, 73, 74, 75, 76, 77, 78, 79, 80, 81, 83, 82, 84, 85, 86, 87, 88, 89, 90, 91, 92] mixLB (go tbl_ok false ?_)
          conv => whnf
          as_aux_lemma =>
            have hN := node_law x hs
            have hR := rec_law r ht
            have hgl := hg.2
            have hN1 : (readNodeB ((⟨#[32, 32]⟩ : ByteArray) ++ nodeLine x ++ (⟨#[32]⟩ : ByteArray)) == !(nodeLine x == (⟨#[]⟩ : ByteArray))) = true := hN.1
            have hR1 : (readInB ((⟨#[32]⟩ : ByteArray) ++ inputLine r) == !(inputLine r == (⟨#[]⟩ : ByteArray))) = true := hR.1
            refine callR (specNodeLine x hx.1 hxw) rfl (go tbl_ok false ?_)
            conv => whnf
            repeat (first | (refine ite_t (by first | with_reducible rfl | with_reducible exact ba_self _ | with_reducible assumption | (simp; done) | fail) ?_; conv => whnf) | (refine ite_f (by first | with_reducible rfl | with_reducible assumption) ?_; conv => whnf))
            refine ⟨fun c1 => ?_, fun c1 => ?_⟩
            rotate_left
            · conv => whnf
              have e : readNodeV ((⟨#[32, 32]⟩ : ByteArray) ++ nodeLine x ++ (⟨#[32]⟩ : ByteArray)) = x := hN.2 (by simpa using c1)
              have e1 := decide_eq_true e
              repeat (first | (refine ite_t (by first | with_reducible rfl | with_reducible exact ba_self _ | with_reducible assumption | (simp; done) | fail) ?_; conv => whnf) | (refine ite_f (by first | with_reducible rfl | with_reducible assumption) ?_; conv => whnf))
              refine callR (sameNode (readNodeV ((⟨#[32, 32]⟩ : ByteArray) ++ nodeLine x ++ (⟨#[32]⟩ : ByteArray))) x (readNodeV_w _) hxw) rfl (go tbl_ok false ?_)
              conv => whnf
              as_aux_lemma =>
                repeat (first | (refine ite_t (by first | with_reducible rfl | with_reducible exact ba_self _ | with_reducible assumption | (simp; done) | fail) ?_; conv => whnf) | (refine ite_f (by first | with_reducible rfl | with_reducible assumption) ?_; conv => whnf))
                refine callR (specInputLine r hr) rfl (go tbl_ok false ?_)
                conv => whnf
                repeat (first | (refine ite_t (by first | with_reducible rfl | with_reducible exact ba_self _ | with_reducible assumption | (simp; done) | fail) ?_; conv => whnf) | (refine ite_f (by first | with_reducible rfl | with_reducible assumption) ?_; conv => whnf))
                refine ⟨fun c2 => ?_, fun c2 => ?_⟩
                rotate_left
                · conv => whnf
                  have e2 : readInV ((⟨#[32]⟩ : ByteArray) ++ inputLine r) = r := hR.2 (by simpa using c2)
                  repeat (first | (refine ite_t (by first | with_reducible rfl | with_reducible exact ba_self _ | with_reducible assumption | (simp; done) | fail) ?_; conv => whnf) | (refine ite_f (by first | with_reducible rfl | with_reducible assumption) ?_; conv => whnf))
                  refine ⟨fun _ => ?_, fun c => absurd c (by rw [e2]; simp)⟩
                  conv => whnf
                  as_aux_lemma =>
                    repeat (first | (refine ite_t (by first | with_reducible rfl | with_reducible exact ba_self _ | with_reducible assumption | (simp; done) | fail) ?_; conv => whnf) | (refine ite_f (by first | with_reducible rfl | with_reducible assumption) ?_; conv => whnf))
                    refine ⟨fun c3 => ?_, fun c3 => ?_⟩
                    rotate_left
                    · conv => whnf
                      have e3 := pick_back hu (by simpa using c3)
                      repeat (first | (refine ite_t (by first | with_reducible rfl | with_reducible exact ba_self _ | with_reducible assumption | (simp; done) | fail) ?_; conv => whnf) | (refine ite_f (by first | with_reducible rfl | with_reducible assumption) ?_; conv => whnf))
                      refine callR (specPickText (readPickV (pickText p ++ (⟨#[32]⟩ : ByteArray))) (readPickV_ok _)) rfl (go tbl_ok false ?_)
                      conv => whnf
                      repeat (first | (refine ite_t (by first | with_reducible rfl | with_reducible exact ba_self _ | with_reducible assumption | (simp; done) | fail) ?_; conv => whnf) | (refine ite_f (by first | with_reducible rfl | with_reducible assumption) ?_; conv => whnf))
                      refine ⟨fun _ => ?_, fun c => absurd c (by rw [e3]; simp [ba_self])⟩
                      conv => whnf
                      as_aux_lemma =>
                        repeat (first | (refine ite_t (by first | with_reducible rfl | with_reducible exact ba_self _ | with_reducible assumption | (simp; done) | fail) ?_; conv => whnf) | (refine ite_f (by first | with_reducible rfl | with_reducible assumption) ?_; conv => whnf))
                        refine callR (sameNode (readNodeV n) (readNodeV n) (readNodeV_w _) (readNodeV_w _)) rfl (go tbl_ok false ?_)
                        conv => whnf
                        have e4 : decide (readNodeV n = readNodeV n) = true := decide_eq_true rfl
                        repeat (first | (refine ite_t (by first | with_reducible rfl | with_reducible exact ba_self _ | with_reducible assumption | (simp; done) | fail) ?_; conv => whnf) | (refine ite_f (by first | with_reducible rfl | with_reducible assumption) ?_; conv => whnf))
                        refine callRT (implGraphLine g hg.1 hgl) tabStays hW rfl (go tbl_ok false ?_)
                        conv => whnf
                        repeat (first | (refine ite_t (by first | with_reducible rfl | with_reducible exact ba_self _ | with_reducible assumption | (simp; done) | fail) ?_; conv => whnf) | (refine ite_f (by first | with_reducible rfl | with_reducible assumption) ?_; conv => whnf))
                        refine callR (specGraphLine g hg.1 hgl) rfl (go tbl_ok false ?_)
                        conv => whnf
                        repeat (first | (refine ite_t (by first | with_reducible rfl | with_reducible exact ba_self _ | with_reducible assumption | (simp; done) | fail) ?_; conv => whnf) | (refine ite_f (by first | with_reducible rfl | with_reducible assumption) ?_; conv => whnf))
                        refine nilCA 0 3 1 (fun i => [vi (([] : List Int).getD i default)]) rfl rfl ?_
                        refine callRT (implNodeLine ⟨8, 0, 0, []⟩ out_ok (by decide)) tabStays hW rfl (go tbl_ok false ?_)
                        conv => whnf
                        have e5 : (nodeLine ⟨8, 0, 0, []⟩ == (⟨#[110, 111, 100, 101, 32, 111, 117, 116, 32, 48, 32, 48]⟩ : ByteArray)) = true := by rw [out_line]; exact ba_self _
                        repeat (first | (refine ite_t (by first | with_reducible rfl | with_reducible exact ba_self _ | with_reducible assumption | (simp; done) | fail) ?_; conv => whnf) | (refine ite_f (by first | with_reducible rfl | with_reducible assumption) ?_; conv => whnf))
                        exact retW tbl_ok rfl rfl ⟨congrArg vb e5.symm, trivial⟩
                    conv => whnf
                    as_aux_lemma =>
                      repeat (first | (refine ite_t (by first | with_reducible rfl | with_reducible exact ba_self _ | with_reducible assumption | (simp; done) | fail) ?_; conv => whnf) | (refine ite_f (by first | with_reducible rfl | with_reducible assumption) ?_; conv => whnf))
                      refine callR (sameNode (readNodeV n) (readNodeV n) (readNodeV_w _) (readNodeV_w _)) rfl (go tbl_ok false ?_)
                      conv => whnf
                      have e4 : decide (readNodeV n = readNodeV n) = true := decide_eq_true rfl
                      repeat (first | (refine ite_t (by first | with_reducible rfl | with_reducible exact ba_self _ | with_reducible assumption | (simp; done) | fail) ?_; conv => whnf) | (refine ite_f (by first | with_reducible rfl | with_reducible assumption) ?_; conv => whnf))
                      refine callRT (implGraphLine g hg.1 hgl) tabStays hW rfl (go tbl_ok false ?_)
                      conv => whnf
                      repeat (first | (refine ite_t (by first | with_reducible rfl | with_reducible exact ba_self _ | with_reducible assumption | (simp; done) | fail) ?_; conv => whnf) | (refine ite_f (by first | with_reducible rfl | with_reducible assumption) ?_; conv => whnf))
                      refine callR (specGraphLine g hg.1 hgl) rfl (go tbl_ok false ?_)
                      conv => whnf
                      repeat (first | (refine ite_t (by first | with_reducible rfl | with_reducible exact ba_self _ | with_reducible assumption | (simp; done) | fail) ?_; conv => whnf) | (refine ite_f (by first | with_reducible rfl | with_reducible assumption) ?_; conv => whnf))
                      refine nilCA 0 3 1 (fun i => [vi (([] : List Int).getD i default)]) rfl rfl ?_
                      refine callRT (implNodeLine ⟨8, 0, 0, []⟩ out_ok (by decide)) tabStays hW rfl (go tbl_ok false ?_)
                      conv => whnf
                      have e5 : (nodeLine ⟨8, 0, 0, []⟩ == (⟨#[110, 111, 100, 101, 32, 111, 117, 116, 32, 48, 32, 48]⟩ : ByteArray)) = true := by rw [out_line]; exact ba_self _
                      repeat (first | (refine ite_t (by first | with_reducible rfl | with_reducible exact ba_self _ | with_reducible assumption | (simp; done) | fail) ?_; conv => whnf) | (refine ite_f (by first | with_reducible rfl | with_reducible assumption) ?_; conv => whnf))
                      exact retW tbl_ok rfl rfl ⟨congrArg vb e5.symm, trivial⟩
                conv => whnf
                as_aux_lemma =>
                  repeat (first | (refine ite_t (by first | with_reducible rfl | with_reducible exact ba_self _ | with_reducible assumption | (simp; done) | fail) ?_; conv => whnf) | (refine ite_f (by first | with_reducible rfl | with_reducible assumption) ?_; conv => whnf))
                  refine ⟨fun c3 => ?_, fun c3 => ?_⟩
                  rotate_left
                  · conv => whnf
                    have e3 := pick_back hu (by simpa using c3)
                    repeat (first | (refine ite_t (by first | with_reducible rfl | with_reducible exact ba_self _ | with_reducible assumption | (simp; done) | fail) ?_; conv => whnf) | (refine ite_f (by first | with_reducible rfl | with_reducible assumption) ?_; conv => whnf))
                    refine callR (specPickText (readPickV (pickText p ++ (⟨#[32]⟩ : ByteArray))) (readPickV_ok _)) rfl (go tbl_ok false ?_)
                    conv => whnf
                    repeat (first | (refine ite_t (by first | with_reducible rfl | with_reducible exact ba_self _ | with_reducible assumption | (simp; done) | fail) ?_; conv => whnf) | (refine ite_f (by first | with_reducible rfl | with_reducible assumption) ?_; conv => whnf))
                    refine ⟨fun _ => ?_, fun c => absurd c (by rw [e3]; simp [ba_self])⟩
                    conv => whnf
                    as_aux_lemma =>
                      repeat (first | (refine ite_t (by first | with_reducible rfl | with_reducible exact ba_self _ | with_reducible assumption | (simp; done) | fail) ?_; conv => whnf) | (refine ite_f (by first | with_reducible rfl | with_reducible assumption) ?_; conv => whnf))
                      refine callR (sameNode (readNodeV n) (readNodeV n) (readNodeV_w _) (readNodeV_w _)) rfl (go tbl_ok false ?_)
                      conv => whnf
                      have e4 : decide (readNodeV n = readNodeV n) = true := decide_eq_true rfl
                      repeat (first | (refine ite_t (by first | with_reducible rfl | with_reducible exact ba_self _ | with_reducible assumption | (simp; done) | fail) ?_; conv => whnf) | (refine ite_f (by first | with_reducible rfl | with_reducible assumption) ?_; conv => whnf))
                      refine callRT (implGraphLine g hg.1 hgl) tabStays hW rfl (go tbl_ok false ?_)
                      conv => whnf
                      repeat (first | (refine ite_t (by first | with_reducible rfl | with_reducible exact ba_self _ | with_reducible assumption | (simp; done) | fail) ?_; conv => whnf) | (refine ite_f (by first | with_reducible rfl | with_reducible assumption) ?_; conv => whnf))
                      refine callR (specGraphLine g hg.1 hgl) rfl (go tbl_ok false ?_)
                      conv => whnf
                      repeat (first | (refine ite_t (by first | with_reducible rfl | with_reducible exact ba_self _ | with_reducible assumption | (simp; done) | fail) ?_; conv => whnf) | (refine ite_f (by first | with_reducible rfl | with_reducible assumption) ?_; conv => whnf))
                      refine nilCA 0 3 1 (fun i => [vi (([] : List Int).getD i default)]) rfl rfl ?_
                      refine callRT (implNodeLine ⟨8, 0, 0, []⟩ out_ok (by decide)) tabStays hW rfl (go tbl_ok false ?_)
                      conv => whnf
                      have e5 : (nodeLine ⟨8, 0, 0, []⟩ == (⟨#[110, 111, 100, 101, 32, 111, 117, 116, 32, 48, 32, 48]⟩ : ByteArray)) = true := by rw [out_line]; exact ba_self _
                      repeat (first | (refine ite_t (by first | with_reducible rfl | with_reducible exact ba_self _ | with_reducible assumption | (simp; done) | fail) ?_; conv => whnf) | (refine ite_f (by first | with_reducible rfl | with_reducible assumption) ?_; conv => whnf))
                      exact retW tbl_ok rfl rfl ⟨congrArg vb e5.symm, trivial⟩
                  conv => whnf
                  as_aux_lemma =>
                    repeat (first | (refine ite_t (by first | with_reducible rfl | with_reducible exact ba_self _ | with_reducible assumption | (simp; done) | fail) ?_; conv => whnf) | (refine ite_f (by first | with_reducible rfl | with_reducible assumption) ?_; conv => whnf))
                    refine callR (sameNode (readNodeV n) (readNodeV n) (readNodeV_w _) (readNodeV_w _)) rfl (go tbl_ok false ?_)
                    conv => whnf
                    have e4 : decide (readNodeV n = readNodeV n) = true := decide_eq_true rfl
                    repeat (first | (refine ite_t (by first | with_reducible rfl | with_reducible exact ba_self _ | with_reducible assumption | (simp; done) | fail) ?_; conv => whnf) | (refine ite_f (by first | with_reducible rfl | with_reducible assumption) ?_; conv => whnf))
                    refine callRT (implGraphLine g hg.1 hgl) tabStays hW rfl (go tbl_ok false ?_)
                    conv => whnf
                    repeat (first | (refine ite_t (by first | with_reducible rfl | with_reducible exact ba_self _ | with_reducible assumption | (simp; done) | fail) ?_; conv => whnf) | (refine ite_f (by first | with_reducible rfl | with_reducible assumption) ?_; conv => whnf))
                    refine callR (specGraphLine g hg.1 hgl) rfl (go tbl_ok false ?_)
                    conv => whnf
                    repeat (first | (refine ite_t (by first | with_reducible rfl | with_reducible exact ba_self _ | with_reducible assumption | (simp; done) | fail) ?_; conv => whnf) | (refine ite_f (by first | with_reducible rfl | with_reducible assumption) ?_; conv => whnf))
                    refine nilCA 0 3 1 (fun i => [vi (([] : List Int).getD i default)]) rfl rfl ?_
                    refine callRT (implNodeLine ⟨8, 0, 0, []⟩ out_ok (by decide)) tabStays hW rfl (go tbl_ok false ?_)
                    conv => whnf
                    have e5 : (nodeLine ⟨8, 0, 0, []⟩ == (⟨#[110, 111, 100, 101, 32, 111, 117, 116, 32, 48, 32, 48]⟩ : ByteArray)) = true := by rw [out_line]; exact ba_self _
                    repeat (first | (refine ite_t (by first | with_reducible rfl | with_reducible exact ba_self _ | with_reducible assumption | (simp; done) | fail) ?_; conv => whnf) | (refine ite_f (by first | with_reducible rfl | with_reducible assumption) ?_; conv => whnf))
                    exact retW tbl_ok rfl rfl ⟨congrArg vb e5.symm, trivial⟩
            conv => whnf
            as_aux_lemma =>
              repeat (first | (refine ite_t (by first | with_reducible rfl | with_reducible exact ba_self _ | with_reducible assumption | (simp; done) | fail) ?_; conv => whnf) | (refine ite_f (by first | with_reducible rfl | with_reducible assumption) ?_; conv => whnf))
              refine callR (specInputLine r hr) rfl (go tbl_ok false ?_)
              conv => whnf
              repeat (first | (refine ite_t (by first | with_reducible rfl | with_reducible exact ba_self _ | with_reducible assumption | (simp; done) | fail) ?_; conv => whnf) | (refine ite_f (by first | with_reducible rfl | with_reducible assumption) ?_; conv => whnf))
              refine ⟨fun c2 => ?_, fun c2 => ?_⟩
              rotate_left
              · conv => whnf
                have e2 : readInV ((⟨#[32]⟩ : ByteArray) ++ inputLine r) = r := hR.2 (by simpa using c2)
                repeat (first | (refine ite_t (by first | with_reducible rfl | with_reducible exact ba_self _ | with_reducible assumption | (simp; done) | fail) ?_; conv => whnf) | (refine ite_f (by first | with_reducible rfl | with_reducible assumption) ?_; conv => whnf))
                refine ⟨fun _ => ?_, fun c => absurd c (by rw [e2]; simp)⟩
                conv => whnf
                as_aux_lemma =>
                  repeat (first | (refine ite_t (by first | with_reducible rfl | with_reducible exact ba_self _ | with_reducible assumption | (simp; done) | fail) ?_; conv => whnf) | (refine ite_f (by first | with_reducible rfl | with_reducible assumption) ?_; conv => whnf))
                  refine ⟨fun c3 => ?_, fun c3 => ?_⟩
                  rotate_left
                  · conv => whnf
                    have e3 := pick_back hu (by simpa using c3)
                    repeat (first | (refine ite_t (by first | with_reducible rfl | with_reducible exact ba_self _ | with_reducible assumption | (simp; done) | fail) ?_; conv => whnf) | (refine ite_f (by first | with_reducible rfl | with_reducible assumption) ?_; conv => whnf))
                    refine callR (specPickText (readPickV (pickText p ++ (⟨#[32]⟩ : ByteArray))) (readPickV_ok _)) rfl (go tbl_ok false ?_)
                    conv => whnf
                    repeat (first | (refine ite_t (by first | with_reducible rfl | with_reducible exact ba_self _ | with_reducible assumption | (simp; done) | fail) ?_; conv => whnf) | (refine ite_f (by first | with_reducible rfl | with_reducible assumption) ?_; conv => whnf))
                    refine ⟨fun _ => ?_, fun c => absurd c (by rw [e3]; simp [ba_self])⟩
                    conv => whnf
                    as_aux_lemma =>
                      repeat (first | (refine ite_t (by first | with_reducible rfl | with_reducible exact ba_self _ | with_reducible assumption | (simp; done) | fail) ?_; conv => whnf) | (refine ite_f (by first | with_reducible rfl | with_reducible assumption) ?_; conv => whnf))
                      refine callR (sameNode (readNodeV n) (readNodeV n) (readNodeV_w _) (readNodeV_w _)) rfl (go tbl_ok false ?_)
                      conv => whnf
                      have e4 : decide (readNodeV n = readNodeV n) = true := decide_eq_true rfl
                      repeat (first | (refine ite_t (by first | with_reducible rfl | with_reducible exact ba_self _ | with_reducible assumption | (simp; done) | fail) ?_; conv => whnf) | (refine ite_f (by first | with_reducible rfl | with_reducible assumption) ?_; conv => whnf))
                      refine callRT (implGraphLine g hg.1 hgl) tabStays hW rfl (go tbl_ok false ?_)
                      conv => whnf
                      repeat (first | (refine ite_t (by first | with_reducible rfl | with_reducible exact ba_self _ | with_reducible assumption | (simp; done) | fail) ?_; conv => whnf) | (refine ite_f (by first | with_reducible rfl | with_reducible assumption) ?_; conv => whnf))
                      refine callR (specGraphLine g hg.1 hgl) rfl (go tbl_ok false ?_)
                      conv => whnf
                      repeat (first | (refine ite_t (by first | with_reducible rfl | with_reducible exact ba_self _ | with_reducible assumption | (simp; done) | fail) ?_; conv => whnf) | (refine ite_f (by first | with_reducible rfl | with_reducible assumption) ?_; conv => whnf))
                      refine nilCA 0 3 1 (fun i => [vi (([] : List Int).getD i default)]) rfl rfl ?_
                      refine callRT (implNodeLine ⟨8, 0, 0, []⟩ out_ok (by decide)) tabStays hW rfl (go tbl_ok false ?_)
                      conv => whnf
                      have e5 : (nodeLine ⟨8, 0, 0, []⟩ == (⟨#[110, 111, 100, 101, 32, 111, 117, 116, 32, 48, 32, 48]⟩ : ByteArray)) = true := by rw [out_line]; exact ba_self _
                      repeat (first | (refine ite_t (by first | with_reducible rfl | with_reducible exact ba_self _ | with_reducible assumption | (simp; done) | fail) ?_; conv => whnf) | (refine ite_f (by first | with_reducible rfl | with_reducible assumption) ?_; conv => whnf))
                      exact retW tbl_ok rfl rfl ⟨congrArg vb e5.symm, trivial⟩
                  conv => whnf
                  as_aux_lemma =>
                    repeat (first | (refine ite_t (by first | with_reducible rfl | with_reducible exact ba_self _ | with_reducible assumption | (simp; done) | fail) ?_; conv => whnf) | (refine ite_f (by first | with_reducible rfl | with_reducible assumption) ?_; conv => whnf))
                    refine callR (sameNode (readNodeV n) (readNodeV n) (readNodeV_w _) (readNodeV_w _)) rfl (go tbl_ok false ?_)
                    conv => whnf
                    have e4 : decide (readNodeV n = readNodeV n) = true := decide_eq_true rfl
                    repeat (first | (refine ite_t (by first | with_reducible rfl | with_reducible exact ba_self _ | with_reducible assumption | (simp; done) | fail) ?_; conv => whnf) | (refine ite_f (by first | with_reducible rfl | with_reducible assumption) ?_; conv => whnf))
                    refine callRT (implGraphLine g hg.1 hgl) tabStays hW rfl (go tbl_ok false ?_)
                    conv => whnf
                    repeat (first | (refine ite_t (by first | with_reducible rfl | with_reducible exact ba_self _ | with_reducible assumption | (simp; done) | fail) ?_; conv => whnf) | (refine ite_f (by first | with_reducible rfl | with_reducible assumption) ?_; conv => whnf))
                    refine callR (specGraphLine g hg.1 hgl) rfl (go tbl_ok false ?_)
                    conv => whnf
                    repeat (first | (refine ite_t (by first | with_reducible rfl | with_reducible exact ba_self _ | with_reducible assumption | (simp; done) | fail) ?_; conv => whnf) | (refine ite_f (by first | with_reducible rfl | with_reducible assumption) ?_; conv => whnf))
                    refine nilCA 0 3 1 (fun i => [vi (([] : List Int).getD i default)]) rfl rfl ?_
                    refine callRT (implNodeLine ⟨8, 0, 0, []⟩ out_ok (by decide)) tabStays hW rfl (go tbl_ok false ?_)
                    conv => whnf
                    have e5 : (nodeLine ⟨8, 0, 0, []⟩ == (⟨#[110, 111, 100, 101, 32, 111, 117, 116, 32, 48, 32, 48]⟩ : ByteArray)) = true := by rw [out_line]; exact ba_self _
                    repeat (first | (refine ite_t (by first | with_reducible rfl | with_reducible exact ba_self _ | with_reducible assumption | (simp; done) | fail) ?_; conv => whnf) | (refine ite_f (by first | with_reducible rfl | with_reducible assumption) ?_; conv => whnf))
                    exact retW tbl_ok rfl rfl ⟨congrArg vb e5.symm, trivial⟩
              conv => whnf
              as_aux_lemma =>
                repeat (first | (refine ite_t (by first | with_reducible rfl | with_reducible exact ba_self _ | with_reducible assumption | (simp; done) | fail) ?_; conv => whnf) | (refine ite_f (by first | with_reducible rfl | with_reducible assumption) ?_; conv => whnf))
                refine ⟨fun c3 => ?_, fun c3 => ?_⟩
                rotate_left
                · conv => whnf
                  have e3 := pick_back hu (by simpa using c3)
                  repeat (first | (refine ite_t (by first | with_reducible rfl | with_reducible exact ba_self _ | with_reducible assumption | (simp; done) | fail) ?_; conv => whnf) | (refine ite_f (by first | with_reducible rfl | with_reducible assumption) ?_; conv => whnf))
                  refine callR (specPickText (readPickV (pickText p ++ (⟨#[32]⟩ : ByteArray))) (readPickV_ok _)) rfl (go tbl_ok false ?_)
                  conv => whnf
                  repeat (first | (refine ite_t (by first | with_reducible rfl | with_reducible exact ba_self _ | with_reducible assumption | (simp; done) | fail) ?_; conv => whnf) | (refine ite_f (by first | with_reducible rfl | with_reducible assumption) ?_; conv => whnf))
                  refine ⟨fun _ => ?_, fun c => absurd c (by rw [e3]; simp [ba_self])⟩
                  conv => whnf
                  as_aux_lemma =>
                    repeat (first | (refine ite_t (by first | with_reducible rfl | with_reducible exact ba_self _ | with_reducible assumption | (simp; done) | fail) ?_; conv => whnf) | (refine ite_f (by first | with_reducible rfl | with_reducible assumption) ?_; conv => whnf))
                    refine callR (sameNode (readNodeV n) (readNodeV n) (readNodeV_w _) (readNodeV_w _)) rfl (go tbl_ok false ?_)
                    conv => whnf
                    have e4 : decide (readNodeV n = readNodeV n) = true := decide_eq_true rfl
                    repeat (first | (refine ite_t (by first | with_reducible rfl | with_reducible exact ba_self _ | with_reducible assumption | (simp; done) | fail) ?_; conv => whnf) | (refine ite_f (by first | with_reducible rfl | with_reducible assumption) ?_; conv => whnf))
                    refine callRT (implGraphLine g hg.1 hgl) tabStays hW rfl (go tbl_ok false ?_)
                    conv => whnf
                    repeat (first | (refine ite_t (by first | with_reducible rfl | with_reducible exact ba_self _ | with_reducible assumption | (simp; done) | fail) ?_; conv => whnf) | (refine ite_f (by first | with_reducible rfl | with_reducible assumption) ?_; conv => whnf))
                    refine callR (specGraphLine g hg.1 hgl) rfl (go tbl_ok false ?_)
                    conv => whnf
                    repeat (first | (refine ite_t (by first | with_reducible rfl | with_reducible exact ba_self _ | with_reducible assumption | (simp; done) | fail) ?_; conv => whnf) | (refine ite_f (by first | with_reducible rfl | with_reducible assumption) ?_; conv => whnf))
                    refine nilCA 0 3 1 (fun i => [vi (([] : List Int).getD i default)]) rfl rfl ?_
                    refine callRT (implNodeLine ⟨8, 0, 0, []⟩ out_ok (by decide)) tabStays hW rfl (go tbl_ok false ?_)
                    conv => whnf
                    have e5 : (nodeLine ⟨8, 0, 0, []⟩ == (⟨#[110, 111, 100, 101, 32, 111, 117, 116, 32, 48, 32, 48]⟩ : ByteArray)) = true := by rw [out_line]; exact ba_self _
                    repeat (first | (refine ite_t (by first | with_reducible rfl | with_reducible exact ba_self _ | with_reducible assumption | (simp; done) | fail) ?_; conv => whnf) | (refine ite_f (by first | with_reducible rfl | with_reducible assumption) ?_; conv => whnf))
                    exact retW tbl_ok rfl rfl ⟨congrArg vb e5.symm, trivial⟩
                conv => whnf
                as_aux_lemma =>
                  repeat (first | (refine ite_t (by first | with_reducible rfl | with_reducible exact ba_self _ | with_reducible assumption | (simp; done) | fail) ?_; conv => whnf) | (refine ite_f (by first | with_reducible rfl | with_reducible assumption) ?_; conv => whnf))
                  refine callR (sameNode (readNodeV n) (readNodeV n) (readNodeV_w _) (readNodeV_w _)) rfl (go tbl_ok false ?_)
                  conv => whnf
                  have e4 : decide (readNodeV n = readNodeV n) = true := decide_eq_true rfl
                  repeat (first | (refine ite_t (by first | with_reducible rfl | with_reducible exact ba_self _ | with_reducible assumption | (simp; done) | fail) ?_; conv => whnf) | (refine ite_f (by first | with_reducible rfl | with_reducible assumption) ?_; conv => whnf))
                  refine callRT (implGraphLine g hg.1 hgl) tabStays hW rfl (go tbl_ok false ?_)
                  conv => whnf
                  repeat (first | (refine ite_t (by first | with_reducible rfl | with_reducible exact ba_self _ | with_reducible assumption | (simp; done) | fail) ?_; conv => whnf) | (refine ite_f (by first | with_reducible rfl | with_reducible assumption) ?_; conv => whnf))
                  refine callR (specGraphLine g hg.1 hgl) rfl (go tbl_ok false ?_)
                  conv => whnf
                  repeat (first | (refine ite_t (by first | with_reducible rfl | with_reducible exact ba_self _ | with_reducible assumption | (simp; done) | fail) ?_; conv => whnf) | (refine ite_f (by first | with_reducible rfl | with_reducible assumption) ?_; conv => whnf))
                  refine nilCA 0 3 1 (fun i => [vi (([] : List Int).getD i default)]) rfl rfl ?_
                  refine callRT (implNodeLine ⟨8, 0, 0, []⟩ out_ok (by decide)) tabStays hW rfl (go tbl_ok false ?_)
                  conv => whnf
                  have e5 : (nodeLine ⟨8, 0, 0, []⟩ == (⟨#[110, 111, 100, 101, 32, 111, 117, 116, 32, 48, 32, 48]⟩ : ByteArray)) = true := by rw [out_line]; exact ba_self _
                  repeat (first | (refine ite_t (by first | with_reducible rfl | with_reducible exact ba_self _ | with_reducible assumption | (simp; done) | fail) ?_; conv => whnf) | (refine ite_f (by first | with_reducible rfl | with_reducible assumption) ?_; conv => whnf))
                  exact retW tbl_ok rfl rfl ⟨congrArg vb e5.symm, trivial⟩

end Go.Proofs.YtcpjpkcahnldfaaGreatDoor
