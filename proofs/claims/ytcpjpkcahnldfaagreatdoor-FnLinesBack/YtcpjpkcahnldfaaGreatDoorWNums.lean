/- Texts for the law FnLinesBack: WNums. No conditions. -/
import Derived.Test.YtcpjpkcahnldfaaGreatDoorWParts
import Derived.Shelf.Strings.OnBuilder
import Derived.Lib.Walk

set_option maxRecDepth 100000
namespace Go.Proofs.YtcpjpkcahnldfaaGreatDoor
open Go.Sx
def lays156_ren : Go.Shelf.Ren := ⟨fun | 156 => 79 | 165 => 102 | 166 => 103 | 169 => 104 | 240 => 120 | 241 => 121 | 276 => 137 | 277 => 138 | n => n, fun | 31 => 61 | 9 => 9 | 3 => 3 | 4 => 4 | 0 => 0 | 20 => 20 | 72 => 122 | 76 => 118 | 70 => 120 | 37 => 34 | 75 => 117 | 127 => 140 | 164 => 161 | 5 => 5 | 80 => 124 | n => n, fun | n => n⟩
theorem lays156 : Go.Proofs.Lays.n156 Tryz.prog lays156_ren := {
  mixed := by kernel_rfl,
  f156 := Tryz.func79.trans (congrArg some (by kernel_rfl)),
  f165 := Tryz.func102.trans (congrArg some (by kernel_rfl)),
  f166 := Tryz.func103.trans (congrArg some (by kernel_rfl)),
  f169 := Tryz.func104.trans (congrArg some (by kernel_rfl)),
  f240 := Tryz.func120.trans (congrArg some (by kernel_rfl)),
  f241 := Tryz.func121.trans (congrArg some (by kernel_rfl)),
  f276 := Tryz.func137.trans (congrArg some (by kernel_rfl)),
  f277 := Tryz.func138.trans (congrArg some (by kernel_rfl)),
  t0 := Tryz.underlying0,
  a0 := Tryz.isAgg0,
  z0 := Tryz.sizeOf0,
  v0 := Tryz.zeroValue0,
  t3 := Tryz.underlying3,
  a3 := Tryz.isAgg3,
  z3 := Tryz.sizeOf3,
  v3 := Tryz.zeroValue3,
  t4 := Tryz.underlying4,
  a4 := Tryz.isAgg4,
  z4 := Tryz.sizeOf4,
  v4 := Tryz.zeroValue4,
  t9 := Tryz.underlying9,
  a9 := Tryz.isAgg9,
  z9 := Tryz.sizeOf9,
  v9 := Tryz.zeroValue9,
  t20 := Tryz.underlying20,
  a20 := Tryz.isAgg20,
  z20 := Tryz.sizeOf20,
  v20 := Tryz.zeroValue20,
  t31 := Tryz.underlying61,
  a31 := Tryz.isAgg61,
  z31 := Tryz.sizeOf61,
  v31 := Tryz.zeroValue61,
  t37 := Tryz.underlying34,
  a37 := Tryz.isAgg34,
  z37 := Tryz.sizeOf34,
  v37 := Tryz.zeroValue34,
  t70 := Tryz.underlying120,
  a70 := Tryz.isAgg120,
  z70 := Tryz.sizeOf120,
  v70 := Tryz.zeroValue120,
  t72 := Tryz.underlying122,
  a72 := Tryz.isAgg122,
  z72 := Tryz.sizeOf122,
  v72 := Tryz.zeroValue122,
  t75 := Tryz.underlying117,
  a75 := Tryz.isAgg117,
  z75 := Tryz.sizeOf117,
  v75 := Tryz.zeroValue117,
  t76 := Tryz.underlying118,
  a76 := Tryz.isAgg118,
  z76 := Tryz.sizeOf118,
  v76 := Tryz.zeroValue118,
  t127 := Tryz.underlying140,
  a127 := Tryz.isAgg140,
  z127 := Tryz.sizeOf140,
  v127 := Tryz.zeroValue140,
  t164 := Tryz.underlying161,
  a164 := Tryz.isAgg161,
  z164 := Tryz.sizeOf161,
  v164 := Tryz.zeroValue161 }

def laysB_ren : Go.Shelf.Ren := ⟨fun | 156 => 79 | 165 => 102 | 166 => 103 | 169 => 104 | 240 => 120 | 241 => 121 | 276 => 137 | 277 => 138 | n => n, fun | 31 => 61 | 9 => 9 | 3 => 3 | 4 => 4 | 0 => 0 | 20 => 20 | 72 => 122 | 76 => 118 | 70 => 120 | 37 => 34 | 75 => 117 | 127 => 140 | 164 => 161 | 5 => 5 | 80 => 124 | n => n, fun | n => n⟩
theorem laysB : Go.Proofs.Builder.Extra Tryz.prog laysB_ren := {
  sizeBuilder := by kernel_rfl,
  liesBuilder := by kernel_rfl,
  t5 := Tryz.underlying5,
  a5 := Tryz.isAgg5,
  z5 := Tryz.sizeOf5,
  v5 := Tryz.zeroValue5,
  infoByte := by kernel_rfl,
  cellsByte := by kernel_rfl,
  sizeByte := by kernel_rfl,
  neB5 := by decide }

theorem lt_cell {w : World} {a : Addr} {v : Value} (h : w.cell? a = some v) : a.block < w.heap.size := by
  by_cases hl : a.block < w.heap.size
  · exact hl
  · exfalso
    unfold World.cell? at h
    rw [Array.getElem?_eq_none (by omega)] at h
    simp at h
theorem joinT (xs : List ByteArray) (hx : xs.length ≤ 1048576) (hs : (joinB xs).size ≤ 140737488355328) : Meets Tryz.prog 79 [.one (sStr xs), .one (vs (⟨#[32]⟩ : ByteArray))] [.one (vs (joinB xs))] := by
  refine ⟨⟨_, Tryz.func79, by decide, rfl⟩, fun w vals hl hv => ?_⟩
  match vals, hl with
  | [v, u], _ =>
    have h1 : u = .string (⟨#[32]⟩ : ByteArray) := rep_val (A := fun _ => False) (hv 1 _ rfl)
    have h0 : Rep w (fun _ => False) (sStr xs) v := hv 0 _ rfl
    subst h1
    rcases rep_str h0 with ⟨a, c, rfl, rfl⟩ | ⟨b, o, c, rfl, hc, hcells⟩
    · refine (Any.strings_Join_none lays156 laysB a c (⟨#[32]⟩ : ByteArray) w).mono ?_
      rintro e w' ⟨rfl, rfl⟩
      exact gives_one (Go.RowKit.Below.refl _ _) rfl
    · by_cases hn : xs = []
      · subst hn
        refine (Any.strings_Join_none lays156 laysB _ c (⟨#[32]⟩ : ByteArray) w).mono ?_
        rintro e w' ⟨rfl, rfl⟩
        exact gives_one (Go.RowKit.Below.refl _ _) rfl
      · have hb : b < w.heap.size := by
          obtain ⟨x, r, rfl⟩ := List.exists_cons_of_ne_nil hn
          exact lt_cell (hcells 0 x rfl)
        refine (Any.strings_Join lays156 laysB b o c xs (⟨#[32]⟩ : ByteArray) w hcells hb (by omega) hc (by rw [joinB, bsz, List.size_toArray] at hs; exact hs)).mono ?_
        rintro e w' ⟨rfl, hw⟩
        exact gives_one hw rfl


theorem fieldsGo_size : ∀ (l cur : List UInt8), ∀ x ∈ Lib.fieldsGo cur l, x.length ≤ cur.length + l.length
  | [], cur, x, hx => by
    rw [fieldsGo_nil] at hx
    split at hx
    · cases hx
    · rw [List.mem_singleton.1 hx]; exact Nat.le_add_right _ _
  | b :: l, cur, x, hx => by
    rw [fieldsGo_cons] at hx
    split at hx
    · split at hx
      · have := fieldsGo_size l [] x hx
        simp only [List.length_nil, List.length_cons] at *
        omega
      · rcases List.mem_cons.1 hx with rfl | hx
        · exact Nat.le_add_right _ _
        · have := fieldsGo_size l [] x hx
          simp only [List.length_nil, List.length_cons] at *
          omega
    · have := fieldsGo_size l (cur ++ [b]) x hx
      simp only [List.length_append, List.length_cons, List.length_nil] at *
      omega
theorem partsL_size (s : ByteArray) : ∀ x ∈ partsL s, x.size ≤ 600 := fun x hx => by
  unfold partsL at hx
  split at hx
  · rename_i hP
    obtain ⟨l, hl, rfl⟩ := List.mem_map.1 hx
    have h1 := fieldsGo_size s.data.toList [] l hl
    have h2 : s.data.toList.length = s.size := Array.length_toList
    rw [bsz, List.size_toArray]
    have := hP.1
    simp only [List.length_nil] at h1
    omega
  · cases hx
theorem joinB_take (p : List ByteArray) (k : Nat) (h : k < p.length) : joinB (p.take (k + 1)) = (if 0 < k then joinB (p.take k) ++ (⟨#[32]⟩ : ByteArray) else joinB (p.take k)) ++ p.getD k default := by
  rw [take_snoc p k h]
  by_cases e : k = 0
  · subst e
    rw [if_neg (by omega), List.take_zero, List.nil_append, joinB_one]
    exact (ByteArray.empty_append).symm
  · rw [if_pos (by omega)]
    exact joinB_snoc _ _ (by
      intro h0
      have := congrArg List.length h0
      rw [List.length_take] at this
      simp only [List.length_nil] at this
      omega)
theorem joinB_bound (p : List ByteArray) (hp : ∀ x ∈ p, x.size ≤ 600) (k : Nat) (hk : k ≤ p.length) : (joinB (p.take k)).size ≤ 601 * k := by
  induction k with
  | zero => exact Nat.le_refl _
  | succ k ih =>
    have h1 := hp _ (getD_mem (d := default) (show k < p.length by omega))
    have h2 := ih (by omega)
    rw [joinB_take p k (by omega), ByteArray.size_append]
    split
    · rw [ByteArray.size_append]
      have h3 : ((⟨#[32]⟩ : ByteArray)).size = 1 := rfl
      omega
    · omega
theorem joinB_parts (s : ByteArray) : (joinB (partsL s)).size ≤ 7212 := by
  have h1 := partsL_len s
  have h2 := joinB_bound (partsL s) (partsL_size s) (partsL s).length (Nat.le_refl _)
  rw [List.take_length] at h2
  omega

theorem specNum (p : List ByteArray) (i : Nat) (hp : ∀ x ∈ p, x.size ≤ 600) (hl : p.length ≤ 12) (hi : i ≤ 12) : Meets Tryz.prog 67 [.one (sStr p), .one (vi i)] [.one (vi (numAt p i))] := by
  refine enterW tbl_ok false Tryz.func67 rfl (by decide) fun W => ?_
  conv => whnf
  refine ⟨fun hc => ?_, fun hc => ?_⟩ <;> conv => whnf
  · have hc := of_decide_eq_true hc
    exact retW tbl_ok rfl rfl ⟨congrArg vi (by rw [numAt, if_neg (by omega)]), trivial⟩
  · have hc := of_decide_eq_false hc
    have h : i < p.length := by omega
    have hx := hp _ (getD_mem (d := default) h)
    (repeat (refine ⟨by first | omega | (show _ ∧ _; omega) | ((repeat (first | rw [ByteArray.size_append] | rw [bsz] | rw [List.size_toArray] | rw [List.length_cons] | rw [List.length_nil])) <;> omega) | ((repeat rw [Int.toNat_natCast]) <;> first | omega | (show _ ∧ _; omega)) | (simp only [ByteArray.size_append, bsz, List.size_toArray, List.length_cons, List.length_nil]; omega) | (simp only [Int.toNat_natCast]; first | omega | (show _ ∧ _; omega)) | decide, ?_⟩; conv => whnf))
    refine callR (specReadDecimal (p.getD i default) (by omega)) rfl (go tbl_ok false ?_)
    conv => whnf
    exact retW tbl_ok rfl rfl ⟨congrArg vi (by rw [numAt, if_pos h]), trivial⟩
theorem specJoin (p : List ByteArray) (hp : ∀ x ∈ p, x.size ≤ 600) (hl : p.length ≤ 12) : Meets Tryz.prog 69 [.one (sStr p)] [.one (vs (joinB p))] := by
  refine enterW tbl_ok false Tryz.func69 rfl (by decide) fun W => ?_
  conv => whnf
  refine loopW tbl_ok false [] (fun k : Nat => [(3, .c (vs (joinB (p.take k)))), (4, .c (vi k))]) (fun k => []) (fun k => [])
    (fun k => k ≤ p.length) (fun k => p.length - k) 0 (Nat.zero_le _) ⟨by first | rfl | simp [nth, ren2, ren1, ren0], by first | rfl | simp [nth, ren2, ren1, ren0], trivial⟩ trivial trivial trivial (by kernel_rfl) (fun k hk => ?_)
  conv => whnf
  refine ⟨fun h => have h := of_decide_eq_true h; ?_, fun h => have h := of_decide_eq_false h; ?_⟩ <;> conv => whnf
  · have h : k < p.length := by omega
    have hs := joinB_bound p hp k (by omega)
    have hx := hp _ (getD_mem (d := default) h)
    have hj := joinB_take p k h
    have h1 : (joinB (p.take k) ++ (⟨#[32]⟩ : ByteArray)).size = (joinB (p.take k)).size + 1 := ByteArray.size_append
    refine ⟨fun hg => ?_, fun hg => ?_⟩ <;> conv => whnf
    · have hg : 0 < k := by have := of_decide_eq_true hg; omega
      rw [if_pos hg] at hj
      (repeat (refine ⟨by first | omega | (show _ ∧ _; omega) | ((repeat (first | rw [ByteArray.size_append] | rw [bsz] | rw [List.size_toArray] | rw [List.length_cons] | rw [List.length_nil])) <;> omega) | ((repeat rw [Int.toNat_natCast]) <;> first | omega | (show _ ∧ _; omega)) | (simp only [ByteArray.size_append, bsz, List.size_toArray, List.length_cons, List.length_nil]; omega) | (simp only [Int.toNat_natCast]; first | omega | (show _ ∧ _; omega)) | decide, ?_⟩; conv => whnf))
      refine loopE [] (k + 1) (by omega) (by omega) ⟨congrArg (fun z => AV.c (vs z)) hj.symm, rfl, trivial⟩ trivial trivial (by kernel_rfl) trivial (by kernel_rfl)
    · have hg : ¬ 0 < k := by have := of_decide_eq_false hg; omega
      rw [if_neg hg] at hj
      (repeat (refine ⟨by first | omega | (show _ ∧ _; omega) | ((repeat (first | rw [ByteArray.size_append] | rw [bsz] | rw [List.size_toArray] | rw [List.length_cons] | rw [List.length_nil])) <;> omega) | ((repeat rw [Int.toNat_natCast]) <;> first | omega | (show _ ∧ _; omega)) | (simp only [ByteArray.size_append, bsz, List.size_toArray, List.length_cons, List.length_nil]; omega) | (simp only [Int.toNat_natCast]; first | omega | (show _ ∧ _; omega)) | decide, ?_⟩; conv => whnf))
      refine loopE [] (k + 1) (by omega) (by omega) ⟨congrArg (fun z => AV.c (vs z)) hj.symm, rfl, trivial⟩ trivial trivial (by kernel_rfl) trivial (by kernel_rfl)
  · have e : k = p.length := by omega
    exact retW tbl_ok rfl rfl ⟨congrArg vs (by rw [e, List.take_length]), trivial⟩
def okR (s : ByteArray) (w : Nat) : Bool := partsB s && decide (w ≤ (partsL s).length) && numsB (partsL s) w
def numsR (s : ByteArray) (w : Nat) : List Int := if okR s w then numsL (partsL s) w else []
def textR (s : ByteArray) (w : Nat) : ByteArray := if okR s w then joinB (partsL s) else (⟨#[]⟩ : ByteArray)
theorem okR_not {s : ByteArray} {w : Nat} (h : okR s w = false) : numsR s w = [] ∧ textR s w = (⟨#[]⟩ : ByteArray) := by simp [numsR, textR, h]
theorem okR_is {s : ByteArray} {w : Nat} (h : okR s w = true) : numsR s w = numsL (partsL s) w ∧ textR s w = joinB (partsL s) := by simp [numsR, textR, h]

theorem implNumbersOf (s : ByteArray) (w : Nat) (hs : s.size ≤ 1048576) (hw2 : w ≤ 2) : MeetsE Tryz.prog Tab 40 [.one (vs s), .one (vi w)] (fun v : Value => v.oneCell' = true) (fun v => [.one (sInt (numsR s w)), .one (.val v), .one (vs (textR s w)), .one (vb (okR s w))]) := by
  have hl := partsL_len s
  have hp := partsL_size s
  have hjs := joinB_parts s
  refine enterE tbl_ok false Tryz.func40 rfl (by decide) fun W hW => ?_
  conv => whnf
  refine callRT (implPartsOf s hs) tabStays hW rfl (go tbl_ok false ?_)
  conv => whnf
  repeat' (first | (refine ite_f (by first | with_reducible rfl | assumption) ?_; conv => whnf) | (refine ite_t (by first | with_reducible rfl | assumption) ?_; conv => whnf) | (refine ⟨fun h => ?_, fun h => ?_⟩ <;> conv => whnf) | (refine ⟨by first | omega | (show _ ∧ _; omega) | ((repeat (first | rw [ByteArray.size_append] | rw [bsz] | rw [List.size_toArray] | rw [List.length_cons] | rw [List.length_nil])) <;> omega) | ((repeat rw [Int.toNat_natCast]) <;> first | omega | (show _ ∧ _; omega)) | (simp only [ByteArray.size_append, bsz, List.size_toArray, List.length_cons, List.length_nil]; omega) | (simp only [Int.toNat_natCast]; first | omega | (show _ ∧ _; omega)) | decide | (simp only [beq_iff_eq, beq_eq_false_iff_ne, bne_iff_ne, bne_eq_false_iff_eq, Bool.not_eq_true', Bool.not_eq_false', Go.Sx.within_iff, Go.Sx.within_f, decide_eq_true_eq, decide_eq_false_iff_not, ne_eq, Int.not_lt, Int.not_le, ge_iff_le, gt_iff_lt, Int.toNat_zero, Int.toNat_one, Int.toNat_natCast] at * <;> first | omega | (show _ ∧ _; omega)), ?_⟩; conv => whnf) | fail)
  · have hb : partsB s = false := by simpa using h
    have hok : okR s w = false := by rw [okR, hb]; rfl
    have hh := okR_not hok
    refine nilR 4 1 (fun i => (fun n => [vi n]) (([] : List Int).getD i default)) rfl ?_
    refine retE (.slice none 0 0) rfl ?_
    exact retW tbl_ok rfl rfl ⟨by (conv => whnf); rw [hh.1]; rfl, .inl rfl, congrArg vs hh.2, congrArg vb hok, trivial⟩
  · have hlt : (partsL s).length < w := by have := of_decide_eq_true h; omega
    have hok : okR s w = false := by rw [okR, decide_eq_false (by omega : ¬ w ≤ (partsL s).length)]; simp
    have hh := okR_not hok
    refine nilR 4 1 (fun i => (fun n => [vi n]) (([] : List Int).getD i default)) rfl ?_
    refine retE (.slice none 0 0) rfl ?_
    exact retW tbl_ok rfl rfl ⟨by (conv => whnf); rw [hh.1]; rfl, .inl rfl, congrArg vs hh.2, congrArg vb hok, trivial⟩
  rename_i hb0
  have hb : partsB s = true := by simpa using hb0
  have hwl : w ≤ (partsL s).length := by have := of_decide_eq_false h; omega
  have hsub : SubOk (partsL s).length 1 (fun i => [vs ((partsL s).getD i default)]) (w : Int) ((partsL s).length : Int) (sStr ((partsL s).drop w)) := by
    have h := slC_sub (es := 1) (e := fun b => [vs b]) (xs := partsL s) (l := (w : Int)) (h := ((partsL s).length : Int)) (by omega) (by omega) (by omega)
    rwa [Int.toNat_natCast, List.take_of_length_le (by rw [List.length_drop]; omega)] at h
  have hq : ∀ x ∈ (partsL s).drop w, x.size ≤ 600 := fun x hx => hp x (List.mem_of_mem_drop hx)
  have hql : ((partsL s).drop w).length ≤ 12 := by rw [List.length_drop]; omega
  generalize hQ : (partsL s).drop w = Q at hsub hq hql
  refine nilW 10 1 (fun i => (fun n => [vi n]) (([] : List Int).getD i default)) rfl ?_
  refine sliceW tbl_ok rfl rfl rfl rfl rfl rfl rfl rfl rfl ⟨by omega, by omega, by omega⟩ (sStr Q) hsub (go tbl_ok false ?_)
  conv => whnf
  have hz : ∀ x ∈ Q.take 0, rdB x = true := fun x hx => by rw [List.take_zero] at hx; cases hx
  refine loopW tbl_ok false [] (fun k : Nat => [(32, .c (vi k))]) (fun k => []) (fun k => [⟨0, sInt ((Q.take k).map rdN)⟩])
    (fun k => k ≤ Q.length ∧ (∀ x ∈ Q.take k, rdB x = true)) (fun k => Q.length - k) 0 ⟨Nat.zero_le _, by first | rfl | assumption | simp⟩ ⟨by first | rfl | simp [nth, ren2, ren1, ren0], trivial⟩ trivial ⟨by first | rfl | exact (congrArg (fun l => slC _ _ l) (List.append_nil _)).symm | (show (_ : Cell) = _; simp) | simp, trivial⟩ trivial (by kernel_rfl) (fun k hk => ?_)
  obtain ⟨hk, he⟩ := hk
  conv => whnf
  refine ⟨fun h' => have h' := of_decide_eq_true h'; ?_, fun h' => have h' := of_decide_eq_false h'; ?_⟩ <;> conv => whnf
  · have h' : k < Q.length := by omega
    have hx := hq _ (getD_mem (d := default) h')
    (repeat (refine ⟨by first | omega | (show _ ∧ _; omega) | ((repeat (first | rw [ByteArray.size_append] | rw [bsz] | rw [List.size_toArray] | rw [List.length_cons] | rw [List.length_nil])) <;> omega) | ((repeat rw [Int.toNat_natCast]) <;> first | omega | (show _ ∧ _; omega)) | (simp only [ByteArray.size_append, bsz, List.size_toArray, List.length_cons, List.length_nil]; omega) | (simp only [Int.toNat_natCast]; first | omega | (show _ ∧ _; omega)) | decide, ?_⟩; conv => whnf))
    refine callRT (implReadDecimal (Q.getD k default) (by omega)) tabStays hW rfl (go tbl_ok false ?_)
    conv => whnf
    refine ⟨fun hc => ?_, fun hc => ?_⟩ <;> conv => whnf
    · have hr : rdB (Q.getD k default) = false := by simpa using hc
      have hok : okR s w = false := by
        rw [okR, numsB, hQ, all_of_getD h' hr]; simp
      have hh := okR_not hok
      refine nilR 4 1 (fun i => (fun n => [vi n]) (([] : List Int).getD i default)) rfl ?_
      refine retE (.slice none 0 0) rfl ?_
      exact retW tbl_ok rfl rfl ⟨by (conv => whnf); rw [hh.1]; rfl, .inl rfl, congrArg vs hh.2, congrArg vb hok, trivial⟩
    · have hr : rdB (Q.getD k default) = true := by simpa using hc
      have hnext : ∀ x ∈ Q.take (k + 1), rdB x = true := fun x hx => by
        rw [take_snoc Q k h'] at hx
        rcases List.mem_append.1 hx with hx | hx
        · exact he x hx
        · rw [List.mem_singleton.1 hx]; exact hr
      (repeat (refine ⟨by first | omega | (show _ ∧ _; omega) | ((repeat (first | rw [ByteArray.size_append] | rw [bsz] | rw [List.size_toArray] | rw [List.length_cons] | rw [List.length_nil])) <;> omega) | ((repeat rw [Int.toNat_natCast]) <;> first | omega | (show _ ∧ _; omega)) | (simp only [ByteArray.size_append, bsz, List.size_toArray, List.length_cons, List.length_nil]; omega) | (simp only [Int.toNat_natCast]; first | omega | (show _ ∧ _; omega)) | decide, ?_⟩; conv => whnf))
      refine appW tbl_ok rfl rfl rfl rfl rfl rfl rfl rfl rfl rfl rfl (sInt ((Q.take k).map rdN ++ [rdN (Q.getD k default)])) (slC_snoc rfl) (by intro h; cases h) (by simp; omega) (go tbl_ok false ?_)
      conv => whnf
      (repeat (refine ⟨by first | omega | (show _ ∧ _; omega) | ((repeat (first | rw [ByteArray.size_append] | rw [bsz] | rw [List.size_toArray] | rw [List.length_cons] | rw [List.length_nil])) <;> omega) | ((repeat rw [Int.toNat_natCast]) <;> first | omega | (show _ ∧ _; omega)) | (simp only [ByteArray.size_append, bsz, List.size_toArray, List.length_cons, List.length_nil]; omega) | (simp only [Int.toNat_natCast]; first | omega | (show _ ∧ _; omega)) | decide, ?_⟩; conv => whnf))
      refine loopE [(0, 2)] (k + 1) ⟨by omega, hnext⟩ (by omega) ⟨rfl, trivial⟩ ⟨congrArg sInt (map_take _ _ _ h').symm, trivial⟩ trivial (by kernel_rfl) trivial (by kernel_rfl)
  · have e : k = Q.length := by omega
    have hall : Q.take k = Q := by rw [e, List.take_length]
    rw [hall]
    have hok : okR s w = true := by
      rw [okR, hb, decide_eq_true hwl, numsB, hQ, List.all_eq_true.2 (fun x hx => he x (by rw [hall]; exact hx))]; rfl
    have hh := okR_is hok
    refine callR (joinT (partsL s) (by omega) (by omega)) rfl (go tbl_ok false ?_)
    conv => whnf
    refine fixS 5 rfl (fun a m c => retE (.slice a m c) rfl ?_)
    exact retW tbl_ok rfl rfl ⟨by (conv => whnf); exact congrArg sInt (by rw [hh.1, numsL, hQ]), by (cases a <;> (conv => whnf)); exact Or.inl rfl, congrArg vs hh.2, congrArg vb hok, trivial⟩

end Go.Proofs.YtcpjpkcahnldfaaGreatDoor
